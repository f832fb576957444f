import PyProof.Rows.All
import HandS.ForMost
import HandS.Star
import KE.IntBitsLaws
import KE.SortData
import KE.LtData
import HandS.Wide
import HandS.WideBits
import HandS.WideMore
import HandS.TupAny
import HandS.Gcd
import HandS.List
import HandS.Style
import PyProof.ReprReads
import PyProof.ReprLen
import PyProof.ReprRoads
import PyProof.StrLawsRepr
import PyProof.CallFns
import HandS.Exc
import HandS.Conv
import HandS.Comp
import HandS.Iter
import HandS.ExcOwn
import HandS.Head0
import HandS.Head1
import HandS.Head2
import HandS.HeadEnd
import HandS.HeadHook1
import HandS.HeadHook2
import HandS.Ends
import HandS.Words
import HandS.Defaults
import HandS.Codes
import HandS.EndBits
import HandS.HeadHook3
import KE.KxText
import HandS.Head3
import PySem.Challenge.RW_bornbetween_k15_whole_far_roots_of_halve
set_option Elab.async false
section
set_option linter.all false
set_option maxRecDepth 10000
/-! Ev1: plain values, plain memory, a small core language and what it computes. -/
namespace Ev
open PySem L2

/-- a plain value: tuples are values; lists, dicts, instances stand in the memory at a number. lst: a list's content, told as a value; ro: a list that nobody changes; rep: the text that tells a value -/
inductive T where
  | non | bl (b : Bool) | int (i : Int) | str (s : Str) | tup (l : List T) | lst (l : List T) | ref (n : Nat) | fn (k : Nat) | rep (t : T) | ro (l : List T)
  deriving Inhabited

mutual
def T.beq : T → T → Bool
  | .non, .non => true
  | .bl a, .bl b => a == b
  | .int a, .int b => decide (a = b)
  | .str a, .str b => decide (a = b)
  | .tup a, .tup b => T.beqs a b
  | .lst a, .lst b => T.beqs a b
  | .ref a, .ref b => decide (a = b)
  | .fn a, .fn b => decide (a = b)
  | .rep a, .rep b => T.beq a b
  | .ro a, .ro b => T.beqs a b
  | _, _ => false
def T.beqs : List T → List T → Bool
  | [], [] => true
  | a :: as, b :: bs => T.beq a b && T.beqs as bs
  | _, _ => false
end
mutual
theorem T.beq_self : ∀ a : T, T.beq a a = true
  | .non => rfl
  | .bl a => by simp [T.beq]
  | .int a => by simp [T.beq]
  | .str a => by simp [T.beq]
  | .tup a => by simp only [T.beq]; exact T.beqs_self a
  | .lst a => by simp only [T.beq]; exact T.beqs_self a
  | .ref a => by simp [T.beq]
  | .fn a => by simp [T.beq]
  | .rep a => by simp only [T.beq]; exact T.beq_self a
  | .ro a => by simp only [T.beq]; exact T.beqs_self a
theorem T.beqs_self : ∀ a : List T, T.beqs a a = true
  | [] => rfl
  | a :: as => by simp only [T.beqs, T.beq_self a, T.beqs_self as, Bool.and_self]
end
mutual
theorem T.eq_of_beq : ∀ {a b : T}, T.beq a b = true → a = b
  | .non, b, h => by cases b <;> simp_all [T.beq]
  | .bl a, b, h => by cases b <;> simp_all [T.beq]
  | .int a, b, h => by cases b <;> simp_all [T.beq]
  | .str a, b, h => by cases b <;> simp_all [T.beq]
  | .tup a, b, h => by
    cases b with
    | tup b => exact congrArg T.tup (T.eq_of_beqs (a := a) (b := b) (by simpa only [T.beq] using h))
    | _ => simp [T.beq] at h
  | .lst a, b, h => by
    cases b with
    | lst b => exact congrArg T.lst (T.eq_of_beqs (a := a) (b := b) (by simpa only [T.beq] using h))
    | _ => simp [T.beq] at h
  | .ref a, b, h => by cases b <;> simp_all [T.beq]
  | .fn a, b, h => by cases b <;> simp_all [T.beq]
  | .rep a, b, h => by
    cases b with
    | rep b => exact congrArg T.rep (T.eq_of_beq (a := a) (b := b) (by simpa only [T.beq] using h))
    | _ => simp [T.beq] at h
  | .ro a, b, h => by
    cases b with
    | ro b => exact congrArg T.ro (T.eq_of_beqs (a := a) (b := b) (by simpa only [T.beq] using h))
    | _ => simp [T.beq] at h
theorem T.eq_of_beqs : ∀ {a b : List T}, T.beqs a b = true → a = b
  | [], [], _ => rfl
  | [], _ :: _, h => by simp [T.beqs] at h
  | _ :: _, [], h => by simp [T.beqs] at h
  | a :: as, b :: bs, h => by
    simp only [T.beqs, Bool.and_eq_true] at h
    rw [T.eq_of_beq h.1, T.eq_of_beqs h.2]
end

/-- an object of the memory: a list, dicts by the kind of their keys (a locked one is walked), an instance -/
inductive MO where
  | lst (l : List T)
  | dK (lk : Bool) (kvs : List (Key × T))
  | dT (lk : Bool) (kvs : List (List Key × T))
  | ins (c : Nat) (fs : List (Str × T))
  deriving Inhabited
abbrev Mem := List MO
abbrev Lo := List (Option T)

/-- an exception: its class, its fields -/
structure Exn where
  cls : Nat
  fs : List (Str × T)
inductive R (α : Type) where
  | ok (a : α)
  | ex (e : Exn)
abbrev Rm (α : Type) := Option (R α × Mem)
def bnd {α β : Type} (x : Rm α) (f : α → Mem → Rm β) : Rm β :=
  match x with
  | some (.ok a, m) => f a m
  | some (.ex e, m) => some (.ex e, m)
  | none => none
@[simp] theorem bnd_ok {α β : Type} (a : α) (m : Mem) (f : α → Mem → Rm β) : bnd (some (.ok a, m)) f = f a m := rfl
@[simp] theorem bnd_ex {α β : Type} (e : Exn) (m : Mem) (f : α → Mem → Rm β) : bnd (some (.ex e, m)) f = some (.ex e, m) := rfl
@[simp] theorem bnd_none {α β : Type} (f : α → Mem → Rm β) : bnd none f = none := rfl
def ret {α : Type} (a : α) (m : Mem) : Rm α := some (.ok a, m)
@[simp] theorem bnd_ret {α β : Type} (a : α) (m : Mem) (f : α → Mem → Rm β) : bnd (ret a m) f = f a m := rfl
/-- a partial plain step -/
def opt {α : Type} (x : Option α) (m : Mem) : Rm α := match x with
  | some a => some (.ok a, m)
  | none => none
@[simp] theorem opt_some {α : Type} (a : α) (m : Mem) : opt (some a) m = ret a m := rfl
@[simp] theorem opt_none {α : Type} (m : Mem) : opt (none : Option α) m = none := rfl

/-! ### a value with its lists told -/
mutual
def deepR (rf : Nat → Option T) : T → Option T
  | .non => some .non
  | .bl b => some (.bl b)
  | .int i => some (.int i)
  | .str s => some (.str s)
  | .tup l => (deepsR rf l).map .tup
  | .ref k => rf k
  | .lst _ => none
  | .fn _ => none
  | .rep _ => none
  | .ro l => (deepsR rf l).map .lst
def deepsR (rf : Nat → Option T) : List T → Option (List T)
  | [] => some []
  | t :: r => match deepR rf t, deepsR rf r with
    | some a, some b => some (a :: b)
    | _, _ => none
end
/-- the lists of a memory, told so deep -/
def rfN (m : Mem) : Nat → Nat → Option T
  | 0, _ => none
  | n + 1, k => match m[k]? with
    | some (.lst l) => (deepsR (rfN m n) l).map .lst
    | _ => none
def deep (m : Mem) (t : T) : Option T := deepR (rfN m 4) t
def deeps (m : Mem) (l : List T) : Option (List T) := deepsR (rfN m 4) l
mutual
def toPy : T → PyData
  | .non => .none
  | .bl b => .bool b
  | .int i => .int i
  | .str s => .str s
  | .tup l => .tuple (toPys l)
  | .lst l => .list (toPys l)
  | _ => .none
def toPys : List T → List PyData
  | [] => []
  | a :: as => toPy a :: toPys as
end
/-! ### equality as Python has it -/
def T.eqv (a b : T) : Bool := PyData.eqv (toPy a) (toPy b)
def T.dep (a : T) : Nat := PyData.depth (toPy a)
/-- what == may be asked of -/
def T.flat (a : T) : Bool := SeqAt.shaped (toPy a)
end Ev
end
section
set_option linter.all false
set_option maxRecDepth 10000
/-! Ev2: the core language and what it computes. -/
namespace Ev
open PySem L2

/-! ### the syntax -/
inductive BOp where
  | add | sub | mul | fdiv | mod | pow | shl | band
  deriving DecidableEq
inductive COp where
  | eq | ne | lt | le | gt | ge | in_ | nin
  deriving DecidableEq
/-- built-in functions over values -/
inductive Bi where
  | len | abs | max2 | min2 | sum | tuple | list | dictP | dictT | repr | int | gcd | str
  deriving DecidableEq
/-- built-in functions over new lists -/
inductive Bq where
  | tuple | sum | maxl | minl | any | all | len | dictP | repr
  deriving DecidableEq
inductive Mt where
  | append | extend | pop | popAt | reverse | clear | get2 | bits
  deriving DecidableEq
mutual
inductive CT where
  | name (i : Nat)
  | tup (l : CTs)
inductive CTs where
  | nil
  | cons (a : CT) (r : CTs)
end
mutual
inductive CE where
  | var (i : Nat)
  | cst (t : T)
  | glob (x : Str) (t : T)
  | bin (op : BOp) (a b : CE)
  | neg (a : CE)
  | nt (a : CE)
  | isN (neg : Bool) (a : CE)
  | revl (a : CE)
  | cmp (op : COp) (a b : CE)
  | chain (o1 o2 : COp) (a b c : CE)
  | and (a b : CE)
  | or (a b : CE)
  | ite (c a b : CE)
  | tup (es : CEs)
  | mk (q : CQ)
  | idx (a i : CE)
  | slc (a : CE) (lo hi : CO)
  | call (k : Nat) (es : CEs)
  | callv (i : Nat) (es : CEs)
  | bi (b : Bi) (es : CEs)
  | biq (b : Bq) (q : CQ)
  | meth (m : Mt) (o : CE) (es : CEs)
  | dnew (tk : Bool)
  | ddisp (ks : List Str) (es : CEs)
inductive CEs where
  | nil
  | cons (star : Bool) (e : CE) (r : CEs)
inductive CO where
  | none
  | some (e : CE)
/-- new lists -/
inductive CQ where
  | lst (es : CEs)
  | lc (elt : CE) (tg : CT) (it : CI) (ifs : CO) (own : List Nat)
  | lcd (elt : CE) (tg : CT) (i : Nat) (ifs : CO) (own : List Nat)
  | rev (q : CQ)
  | sorted (q : CQ)
  | cat (a b : CQ)
/-- what a loop walks -/
inductive CI where
  | seq (e : CE)
  | q (q : CQ)
  | rng (a : CE)
  | rng2 (a b : CE)
  | rngd (a b : CE)
  | zip (a b : CE)
end
mutual
inductive CS where
  | ex (e : CE)
  | asg (tg : CT) (e : CE)
  | asgq (i : Nat) (q : CQ)
  | par (is : List Nat) (es : CEs)
  | sub (o i e : CE)
  | aug (i : Nat) (op : BOp) (e : CE)
  | ret (e : CE)
  | retn
  | ife (c : CE) (a b : CSs)
  | whl (c : CE) (b : CSs)
  | for_ (tg : CT) (it : CI) (b : CSs)
  | brk
  | cnt
  | pass
  | never
inductive CSs where
  | nil
  | cons (s : CS) (r : CSs)
end

/-! ### operations -/
def alloc (o : MO) (m : Mem) : Rm T := ret (.ref m.length) (m ++ [o])
def mulOk (i j : Int) : Bool := decide (Builtin.Int.intBits i ≤ 64) || decide (Builtin.Int.intBits j ≤ 64) || decide (Builtin.Int.intBits i + Builtin.Int.intBits j ≤ 134217728)
theorem mulOk_ok {i j : Int} (h : mulOk i j = true) : IntMulOk i j := by
  unfold mulOk at h
  simp only [Bool.or_eq_true, decide_eq_true_eq] at h
  rcases h with (h | h) | h
  · exact .of_left h
  · exact .of_right h
  · exact IntMulOk.of_le (Nat.le_refl _) (Nat.le_refl _) h
def divOk (j : Int) : Bool := decide (0 < j) && decide (j.natAbs.log2 < 9000)
def powOk (i j : Int) : Bool := decide (0 ≤ j) && decide (j ≤ 1000) && decide (i.natAbs < 1000000)
def guard' {α : Type} (c : Bool) (x : Rm α) : Rm α := if c then x else none
@[simp] theorem guard'_true {α : Type} (x : Rm α) : guard' true x = x := rfl
theorem guard'_of {α : Type} {c : Bool} (h : c = true) (x : Rm α) : guard' c x = x := by rw [h]; rfl
def small (n : Nat) : Bool := decide (n ≤ 16000000)
def binop : BOp → T → T → Mem → Rm T
  | .add, .int i, .int j, m => ret (.int (i + j)) m
  | .add, .tup a, .tup b, m => guard' (small (a.length + b.length)) (ret (.tup (a ++ b)) m)
  | .add, .str a, .str b, m => guard' (small (a.length + b.length)) (ret (.str (a ++ b)) m)
  | .add, .ref a, .ref b, m => match m[a]?, m[b]? with
    | some (.lst x), some (.lst y) => guard' (small (x.length + y.length)) (alloc (.lst (x ++ y)) m)
    | _, _ => none
  | .sub, .int i, .int j, m => ret (.int (i - j)) m
  | .sub, .bl i, .bl j, m => ret (.int ((if i then 1 else 0) - (if j then 1 else 0))) m
  | .mul, .int i, .int j, m => guard' (mulOk i j) (ret (.int (i * j)) m)
  | .mul, .ref a, .int j, m => match m[a]? with
    | some (.lst x) => guard' (decide (0 ≤ j) && small (x.length * j.toNat) && small j.toNat) (alloc (.lst (List.replicate j.toNat x).flatten) m)
    | _ => none
  | .fdiv, .int i, .int j, m => guard' (divOk j) (ret (.int (i / j)) m)
  | .mod, .int i, .int j, m => guard' (decide (0 < j)) (ret (.int (i % j)) m)
  | .pow, .int i, .int j, m => guard' (powOk i j) (ret (.int (i ^ j.toNat)) m)
  | .shl, .int i, .int j, m => guard' (powOk i j) (ret (.int (i * 2 ^ j.toNat)) m)
  | .band, .int i, .int j, m => ret (.int (Builtin.bitAnd i j)) m
  | _, _, _, _ => none
def eqOp (m : Mem) : T → T → Option Bool
  | .rep a, .rep b => if T.beq a b then some true else none
  | .str a, .str b => some (decide (a = b))
  | a, b => match deep m a, deep m b with
    | some a', some b' => if T.flat a' && T.flat b' then some (T.eqv a' b') else none
    | _, _ => none
/-- less, of alike data -/
def ltOp (m : Mem) (a b : T) : Option Bool := match deep m a, deep m b with
  | some a', some b' => if PySem.W.alike (toPy a') (toPy b') && !T.beq a' .non && decide (T.dep a' ≤ 60) then some (PySem.W.dataLt (toPy a') (toPy b')) else none
  | _, _ => none
def encT (m : Mem) (t : T) : PyData := toPy ((deep m t).getD .non)
def sortableT (m : Mem) (l : List T) : Bool :=
  (l.all fun t => match encT m t with
    | .tuple (_ :: _) => true
    | _ => false) || l.all fun t => match encT m t with
    | .int _ => true
    | .str _ => true
    | _ => false
/-- sorted(l), of alike data -/
def sortOp (l : List T) (m : Mem) : Option (List T) :=
  if (l.all fun t => (deep m t).isSome && decide (PyData.depth (encT m t) ≤ 60)) && (l.all fun t => l.all fun u => PySem.W.alike (encT m t) (encT m u)) && sortableT m l && small l.length then
    some (l.mergeSort (PySem.W.dataLe false (encT m)))
  else none
def keyOf : T → Option Key
  | .int i => some (.inl i)
  | .str s => some (.inr s)
  | _ => none
def keysOf : List T → Option (List Key)
  | [] => some []
  | t :: r => match keyOf t, keysOf r with
    | some k, some ks => some (k :: ks)
    | _, _ => none
def kT : Key → T
  | .inl i => .int i
  | .inr s => .str s
def look {κ α : Type} [DecidableEq κ] (kvs : List (κ × α)) (k : κ) : Option α := (kvs.find? fun kv => decide (kv.1 = k)).map (·.2)
def put {κ α : Type} [DecidableEq κ] (kvs : List (κ × α)) (k : κ) (v : α) : List (κ × α) :=
  if kvs.any fun kv => decide (kv.1 = k) then kvs.map fun kv => if kv.1 = k then (kv.1, v) else kv else kvs ++ [(k, v)]
/-- what a dict holds at a key (none: no dict, no key of its kind) -/
def dgetOp (m : Mem) (n : Nat) (k : T) : Option (Option T) := match m[n]? with
  | some (.dK _ kvs) => (keyOf k).map fun k => look kvs k
  | some (.dT _ kvs) => match k with
    | .tup l => (keysOf l).map fun k => look kvs k
    | _ => none
  | _ => none
def cmpop : COp → T → T → Mem → Option Bool
  | .eq, a, b, m => eqOp m a b
  | .ne, a, b, m => (eqOp m a b).map (!·)
  | .lt, .int i, .int j, _ => some (decide (i < j))
  | .le, .int i, .int j, _ => some (decide (i ≤ j))
  | .gt, .int i, .int j, _ => some (decide (j < i))
  | .ge, .int i, .int j, _ => some (decide (j ≤ i))
  | .lt, .tup i, .tup j, m => ltOp m (.tup i) (.tup j)
  | .in_, k, .ref n, m => (dgetOp m n k).map (·.isSome)
  | .nin, k, .ref n, m => (dgetOp m n k).map (!·.isSome)
  | _, _, _, _ => none
def seqOf (m : Mem) : T → Option (List T)
  | .tup l => some l
  | .ro l => some l
  | .ref n => match m[n]? with
    | some (.lst l) => some l
    | _ => none
  | _ => none
def idxop (a i : T) (m : Mem) : Rm T := match a, i with
  | .tup l, .int i => opt (atI l i) m
  | .ro l, .int i => opt (atI l i) m
  | .ref n, i => match m[n]?, i with
    | some (.lst l), .int i => opt (atI l i) m
    | _, _ => match dgetOp m n i with
      | some (some v) => ret v m
      | _ => none
  | _, _ => none
def cutT (xs : List T) (lo hi : Option Int) : List T := (xs.drop (HT.sIx xs.length 0 lo)).take (HT.sIx xs.length xs.length hi - HT.sIx xs.length 0 lo)
def slcop (a : T) (lo hi : Option Int) (m : Mem) : Rm T := match a with
  | .tup l => ret (.tup (cutT l lo hi)) m
  | .ro l => alloc (.lst (cutT l lo hi)) m
  | .ref n => match m[n]? with
    | some (.lst l) => alloc (.lst (cutT l lo hi)) m
    | _ => none
  | _ => none
def intsOf : List T → Option (List Int)
  | [] => some []
  | .int i :: r => (intsOf r).map (i :: ·)
  | _ :: _ => none
def blsOf : List T → Option (List Bool)
  | [] => some []
  | .bl i :: r => (blsOf r).map (i :: ·)
  | _ :: _ => none
def pairsOf : List T → Option (List (Key × T))
  | [] => some []
  | .tup [k, v] :: r => match keyOf k, pairsOf r with
    | some k, some l => some ((k, v) :: l)
    | _, _ => none
  | _ :: _ => none
def tpairsOf : List T → Option (List (List Key × T))
  | [] => some []
  | .tup [.tup k, v] :: r => match keysOf k, tpairsOf r with
    | some k, some l => some ((k, v) :: l)
    | _, _ => none
  | _ :: _ => none
def merge {κ α : Type} [DecidableEq κ] : List (κ × α) → List (κ × α) → List (κ × α)
  | acc, [] => acc
  | acc, (k, v) :: r => merge (put acc k v) r
def maxI : List Int → Option Int
  | [] => none
  | [a] => some a
  | a :: r => (maxI r).map fun b => if a < b then b else a
def minI : List Int → Option Int
  | [] => none
  | [a] => some a
  | a :: r => (minI r).map fun b => if b < a then b else a
/-- the size of a value's text: an upper bound -/
def big (i : Int) : Bool := decide (i.natAbs.log2 < 1900)
mutual
def T.rsz : T → Nat
  | .int i => i.natAbs.log2 + 8
  | .str s => 10 * s.length + 8
  | .tup l => T.rszs l + 8
  | .lst l => T.rszs l + 8
  | _ => 8
def T.rszs : List T → Nat
  | [] => 0
  | a :: as => T.rsz a + T.rszs as
end
mutual
def T.shw : T → Bool
  | .int i => big i
  | .tup l => T.shws l
  | .lst l => T.shws l
  | .str s => s.cps.toList.all fun c => decide (c < 4294967296)
  | _ => true
def T.shws : List T → Bool
  | [] => true
  | a :: as => T.shw a && T.shws as
end
def reprOp (a : T) (m : Mem) : Rm T := match deep m a with
  | some a' => guard' (T.shw a' && decide (T.rsz a' ≤ 8000000) && decide (T.dep a' ≤ 60)) (ret (.rep a') m)
  | none => none
def biLen : List T → Mem → Rm T
  | [.tup l], m => ret (.int l.length) m
  | [.ro l], m => ret (.int l.length) m
  | [.str s], m => guard' (small s.length) (ret (.int s.length) m)
  | [.ref n], m => match m[n]? with
    | some (.lst l) => ret (.int l.length) m
    | _ => none
  | _, _ => none
def biAbs : List T → Mem → Rm T
  | [.int i], m => ret (.int (if i < 0 then -i else i)) m
  | _, _ => none
def biMax2 : List T → Mem → Rm T
  | [.int i, .int j], m => ret (.int (if j > i then j else i)) m
  | _, _ => none
def biMin2 : List T → Mem → Rm T
  | [.int i, .int j], m => ret (.int (if j < i then j else i)) m
  | _, _ => none
def biTuple : List T → Mem → Rm T
  | [t], m => match seqOf m t with
    | some l => ret (.tup l) m
    | none => none
  | _, _ => none
def biList : List T → Mem → Rm T
  | [t], m => match seqOf m t with
    | some l => alloc (.lst l) m
    | none => none
  | _, _ => none
def biDictP : List T → Mem → Rm T
  | [.ref n], m => match m[n]? with
    | some (.lst l) => match pairsOf l with
      | some kvs => alloc (.dK false (merge [] kvs)) m
      | none => none
    | _ => none
  | _, _ => none
def biDictT : List T → Mem → Rm T
  | [.ref n], m => match m[n]? with
    | some (.lst l) => match tpairsOf l with
      | some kvs => alloc (.dT false (merge [] kvs)) m
      | none => none
    | _ => none
  | _, _ => none
def biRepr : List T → Mem → Rm T
  | [.tup l], m => reprOp (.tup l) m
  | [.ro l], m => reprOp (.ro l) m
  | [.ref n], m => reprOp (.ref n) m
  | [.non], m => reprOp .non m
  | [.bl b], m => reprOp (.bl b) m
  | [.int i], m => reprOp (.int i) m
  | [.str x], m => reprOp (.str x) m
  | _, _ => none
def biInt : List T → Mem → Rm T
  | [.int i], m => ret (.int i) m
  | [.bl b], m => ret (.int (if b then 1 else 0)) m
  | _, _ => none
def biGcd : List T → Mem → Rm T
  | [.int a, .int b], m => ret (.int ((Nat.gcd a.natAbs b.natAbs : Nat) : Int)) m
  | _, _ => none
def biStr : List T → Mem → Rm T
  | [.int a], m => guard' (big a) (ret (.str (toString a)) m)
  | _, _ => none
def biSum : List T → Mem → Rm T
  | [t], m => match t with
    | .tup _ => none
    | _ => match (seqOf m t).bind intsOf with
      | some ns => ret (.int ns.sum) m
      | none => none
  | _, _ => none
def biop : Bi → List T → Mem → Rm T
  | .len => biLen
  | .abs => biAbs
  | .max2 => biMax2
  | .min2 => biMin2
  | .tuple => biTuple
  | .list => biList
  | .dictP => biDictP
  | .dictT => biDictT
  | .repr => biRepr
  | .int => biInt
  | .gcd => biGcd
  | .str => biStr
  | .sum => biSum
def bqop : Bq → List T → Mem → Rm T
  | .tuple, l, m => ret (.tup l) m
  | .sum, l, m => match intsOf l with
    | some ns => ret (.int ns.sum) m
    | none => none
  | .maxl, l, m => match intsOf l with
    | some ns => opt ((maxI ns).map .int) m
    | none => none
  | .minl, l, m => match intsOf l with
    | some ns => opt ((minI ns).map .int) m
    | none => none
  | .any, l, m => match blsOf l with
    | some bs => ret (.bl (bs.any id)) m
    | none => none
  | .all, l, m => match blsOf l with
    | some bs => ret (.bl (bs.all id)) m
    | none => none
  | .len, l, m => ret (.int l.length) m
  | .dictP, l, m => match pairsOf l with
    | some kvs => alloc (.dK false (merge [] kvs)) m
    | none => none
  | .repr, l, m => match deeps m l with
    | some l' => guard' (T.shw (.lst l') && decide (T.rsz (.lst l') ≤ 8000000) && decide (T.dep (.lst l') ≤ 60)) (ret (.rep (.lst l')) m)
    | none => none
def mtAppend : T → List T → Mem → Rm T
  | .ref n, [t], m => match m[n]? with
    | some (.lst l) => guard' (small l.length) (ret .non (m.set n (.lst (l ++ [t]))))
    | _ => none
  | _, _, _ => none
def mtExtend : T → List T → Mem → Rm T
  | .ref n, [.ref k], m => match m[n]?, m[k]? with
    | some (.lst l), some (.lst l2) => guard' (small (l.length + l2.length)) (ret .non (m.set n (.lst (l ++ l2))))
    | _, _ => none
  | _, _, _ => none
def mtPop : T → List T → Mem → Rm T
  | .ref n, [], m => match m[n]? with
    | some (.lst l) => match l[l.length - 1]? with
      | some y => ret y (m.set n (.lst l.dropLast))
      | none => none
    | _ => none
  | _, _, _ => none
def mtPopAt : T → List T → Mem → Rm T
  | .ref n, [.int i], m => match m[n]? with
    | some (.lst l) => match ixN l.length i with
      | some k => match l[k]? with
        | some y => guard' (small l.length) (ret y (m.set n (.lst (l.eraseIdx k))))
        | none => none
      | none => none
    | _ => none
  | _, _, _ => none
def mtReverse : T → List T → Mem → Rm T
  | .ref n, [], m => match m[n]? with
    | some (.lst l) => ret .non (m.set n (.lst l.reverse))
    | _ => none
  | _, _, _ => none
def mtClear : T → List T → Mem → Rm T
  | .ref n, [], m => match m[n]? with
    | some (.lst l) => ret .non (m.set n (.lst []))
    | _ => none
  | _, _, _ => none
def mtBits : T → List T → Mem → Rm T
  | .int i, [], m => ret (.int (Builtin.Int.intBits i : Nat)) m
  | _, _, _ => none
def mtGet2 : T → List T → Mem → Rm T
  | .ref n, [k, d], m => match dgetOp m n k with
    | some o => ret (o.getD d) m
    | none => none
  | _, _, _ => none
def methop : Mt → T → List T → Mem → Rm T
  | .append => mtAppend
  | .extend => mtExtend
  | .pop => mtPop
  | .popAt => mtPopAt
  | .reverse => mtReverse
  | .clear => mtClear
  | .get2 => mtGet2
  | .bits => mtBits
/-- what a method is asked of -/
def mtyOk : Mt → T → Mem → Bool
  | .get2, .ref n, m => match m[n]? with
    | some (.dK _ _) => true
    | some (.dT _ _) => true
    | _ => false
  | .bits, .int _, _ => true
  | .get2, _, _ => false
  | .bits, _, _ => false
  | _, .ref n, m => match m[n]? with
    | some (.lst _) => true
    | _ => false
  | _, _, _ => false
/-- o[i] = v -/
def setop (o i v : T) (m : Mem) : Option Mem := match o with
  | .ref n => match m[n]? with
    | some (.lst l) => match i with
      | .int i => (ixN l.length i).map fun j => m.set n (.lst (l.set j v))
      | _ => none
    | some (.dK false kvs) => match keyOf i with
      | some k => if small kvs.length then some (m.set n (.dK false (put kvs k v))) else none
      | none => none
    | some (.dT false kvs) => match i with
      | .tup l => match keysOf l with
        | some k => if small kvs.length then some (m.set n (.dT false (put kvs k v))) else none
        | none => none
      | _ => none
    | _ => none
  | _ => none

/-! ### targets -/
mutual
def asgT : CT → T → Lo → Option Lo
  | .name i, t, τ => if i < τ.length then some (τ.set i (some t)) else none
  | .tup cs, t, τ => match t with
    | .tup l => asgTs cs l τ
    | _ => none
def asgTs : CTs → List T → Lo → Option Lo
  | .nil, [], τ => some τ
  | .cons c cs, t :: r, τ => match asgT c t τ with
    | some τ1 => asgTs cs r τ1
    | none => none
  | _, _, _ => none
end
def wipeT (τ : Lo) : List Nat → Lo
  | [] => τ
  | v :: vs => (wipeT τ vs).set v none

/-! ### what a walk leans on -/
mutual
def kvBeq : List (Key × T) → List (Key × T) → Bool
  | [], [] => true
  | a :: r, b :: q => decide (a.1 = b.1) && T.beq a.2 b.2 && kvBeq r q
  | _, _ => false
end
def kvtBeq : List (List Key × T) → List (List Key × T) → Bool
  | [], [] => true
  | a :: r, b :: q => decide (a.1 = b.1) && T.beq a.2 b.2 && kvtBeq r q
  | _, _ => false
def MO.beq : MO → MO → Bool
  | .lst a, .lst b => T.beqs a b
  | .dK l a, .dK k b => l == k && kvBeq a b
  | .dT l a, .dT k b => l == k && kvtBeq a b
  | _, _ => false
abbrev Stay := Option (Nat × MO)
def Stay.ok : Stay → Mem → Bool
  | none, _ => true
  | some (n, o), m => match m[n]? with
    | some o' => MO.beq o' o
    | none => false
def stayOf (m : Mem) : T → Stay
  | .ref n => (m[n]?).map fun o => (n, o)
  | _ => none

/-! ### loops -/
def lcLoop (elt : Lo → Mem → Rm T) (tst : Lo → Mem → Rm Bool) (tg : CT) (st : Stay) (τ0 : Lo) : List T → Mem → Rm (List T)
  | [], m => guard' (st.ok m) (ret [] m)
  | t :: r, m => guard' (st.ok m) (match asgT tg t τ0 with
    | none => none
    | some τ => match tst τ m with
      | some (.ok true, m1) => match elt τ m1 with
        | some (.ok x, m2) => match lcLoop elt tst tg st τ0 r m2 with
          | some (.ok l, m3) => ret (x :: l) m3
          | _ => none
        | _ => none
      | some (.ok false, m1) => lcLoop elt tst tg st τ0 r m1
      | _ => none)
def truth : T → Mem → Rm Bool
  | .bl b, m => ret b m
  | _, _ => none

abbrev Fns := Nat → List T → Mem → Rm T
mutual
def ev (Φ : Fns) : CE → Lo → Mem → Rm T
  | .var i, τ, m => match τ[i]? with
    | some (some t) => ret t m
    | _ => none
  | .cst t, _, m => ret t m
  | .glob _ t, _, m => ret t m
  | .bin op a b, τ, m => bnd (ev Φ a τ m) fun x m1 => bnd (ev Φ b τ m1) fun y m2 => binop op x y m2
  | .neg a, τ, m => bnd (ev Φ a τ m) fun x m1 => match x with
    | .int i => ret (.int (-i)) m1
    | _ => none
  | .isN neg a, τ, m => bnd (ev Φ a τ m) fun x m1 => ret (.bl (if neg then !T.beq x .non else T.beq x .non)) m1
  | .revl a, τ, m => bnd (ev Φ a τ m) fun x m1 => match x with
    | .ref n => match m1[n]? with
      | some (.lst l) => alloc (.lst l.reverse) m1
      | _ => none
    | .ro l => alloc (.lst l.reverse) m1
    | _ => none
  | .nt a, τ, m => bnd (ev Φ a τ m) fun x m1 => bnd (truth x m1) fun b m2 => ret (.bl (!b)) m2
  | .cmp op a b, τ, m => bnd (ev Φ a τ m) fun x m1 => bnd (ev Φ b τ m1) fun y m2 => opt ((cmpop op x y m2).map .bl) m2
  | .chain o1 o2 a b c, τ, m => bnd (ev Φ a τ m) fun x m1 => bnd (ev Φ b τ m1) fun y m2 => bnd (opt (cmpop o1 x y m2) m2) fun k m3 =>
      if k then bnd (ev Φ c τ m3) fun z m4 => opt ((cmpop o2 y z m4).map .bl) m4 else ret (.bl false) m3
  | .and a b, τ, m => bnd (ev Φ a τ m) fun x m1 => bnd (truth x m1) fun k m2 => if k then ev Φ b τ m2 else ret (.bl false) m2
  | .or a b, τ, m => bnd (ev Φ a τ m) fun x m1 => bnd (truth x m1) fun k m2 => if k then ret (.bl true) m2 else ev Φ b τ m2
  | .ite c a b, τ, m => bnd (ev Φ c τ m) fun x m1 => bnd (truth x m1) fun k m2 => if k then ev Φ a τ m2 else ev Φ b τ m2
  | .tup es, τ, m => bnd (evs Φ es τ m) fun l m1 => guard' (small l.length) (ret (.tup l) m1)
  | .mk q, τ, m => bnd (evq Φ q τ m) fun l m1 => alloc (.lst l) m1
  | .idx a i, τ, m => bnd (ev Φ a τ m) fun x m1 => bnd (ev Φ i τ m1) fun y m2 => idxop x y m2
  | .slc a lo hi, τ, m => bnd (ev Φ a τ m) fun x m1 => bnd (evo Φ lo τ m1) fun l m2 => bnd (evo Φ hi τ m2) fun h m3 => slcop x l h m3
  | .call k es, τ, m => bnd (evs Φ es τ m) fun l m1 => Φ k l m1
  | .callv i es, τ, m => match τ[i]? with
    | some (some (.fn k)) => bnd (evs Φ es τ m) fun l m1 => Φ k l m1
    | _ => none
  | .bi b es, τ, m => bnd (evs Φ es τ m) fun l m1 => biop b l m1
  | .biq b q, τ, m => bnd (evq Φ q τ m) fun l m1 => bqop b l m1
  | .meth mt o es, τ, m => bnd (ev Φ o τ m) fun x m1 => guard' (mtyOk mt x m1) (bnd (evs Φ es τ m1) fun l m2 => methop mt x l m2)
  | .dnew tk, _, m => if tk then alloc (.dT false []) m else alloc (.dK false []) m
  | .ddisp ks es, τ, m => bnd (evs Φ es τ m) fun l m1 => if l.length = ks.length then alloc (.dK false (merge [] ((ks.map Sum.inr).zip l))) m1 else none
def evs (Φ : Fns) : CEs → Lo → Mem → Rm (List T)
  | .nil, _, m => ret [] m
  | .cons star e r, τ, m => bnd (ev Φ e τ m) fun x m1 => match star with
    | false => bnd (evs Φ r τ m1) fun l m2 => ret (x :: l) m2
    | true => match seqOf m1 x with
      | some xs => bnd (evs Φ r τ m1) fun l m2 => ret (xs ++ l) m2
      | none => none
def evo (Φ : Fns) : CO → Lo → Mem → Rm (Option Int)
  | .none, _, m => ret none m
  | .some e, τ, m => bnd (ev Φ e τ m) fun x m1 => match x with
    | .int i => ret (some i) m1
    | _ => none
def evt (Φ : Fns) : CO → Lo → Mem → Rm Bool
  | .none, _, m => ret true m
  | .some e, τ, m => bnd (ev Φ e τ m) fun x m1 => truth x m1
def evq (Φ : Fns) : CQ → Lo → Mem → Rm (List T)
  | .lst es, τ, m => bnd (evs Φ es τ m) fun l m1 => guard' (small l.length) (ret l m1)
  | .lc elt tg it ifs own, τ, m => bnd (evi Φ it τ m) fun p m1 =>
      bnd (lcLoop (fun τ m => ev Φ elt τ m) (fun τ m => evt Φ ifs τ m) tg p.2 (wipeT τ own) p.1 m1) fun l m2 => guard' (small l.length) (ret l m2)
  | .lcd elt tg i ifs own, τ, m => match τ[i]? with
    | some (some (.ref n)) => match m[n]? with
      | some (.dK false kvs) => match lcLoop (fun τ m => ev Φ elt τ m) (fun τ m => evt Φ ifs τ m) tg (some (n, .dK true kvs)) (wipeT τ own) (kvs.map fun kv => kT kv.1) (m.set n (.dK true kvs)) with
        | some (.ok l, m2) => guard' (small l.length) (ret l (m2.set n (.dK false kvs)))
        | _ => none
      | some (.dT false kvs) => match lcLoop (fun τ m => ev Φ elt τ m) (fun τ m => evt Φ ifs τ m) tg (some (n, .dT true kvs)) (wipeT τ own) (kvs.map fun kv => .tup (kv.1.map kT)) (m.set n (.dT true kvs)) with
        | some (.ok l, m2) => guard' (small l.length) (ret l (m2.set n (.dT false kvs)))
        | _ => none
      | _ => none
    | _ => none
  | .rev q, τ, m => bnd (evq Φ q τ m) fun l m1 => ret l.reverse m1
  | .sorted q, τ, m => bnd (evq Φ q τ m) fun l m1 => opt (sortOp l m1) m1
  | .cat a b, τ, m => bnd (evq Φ a τ m) fun l m1 => bnd (evq Φ b τ m1) fun k m2 => guard' (small (l.length + k.length)) (ret (l ++ k) m2)
def evi (Φ : Fns) : CI → Lo → Mem → Rm (List T × Stay)
  | .seq e, τ, m => bnd (ev Φ e τ m) fun x m1 => match seqOf m1 x with
    | some l => ret (l, stayOf m1 x) m1
    | none => none
  | .q q, τ, m => bnd (evq Φ q τ m) fun l m1 => ret (l, none) m1
  | .rng a, τ, m => bnd (ev Φ a τ m) fun x m1 => match x with
    | .int n => guard' (decide (-1000000000 < n) && decide (n < 1000000000)) (ret ((List.range n.toNat).map fun i => .int (Int.ofNat i), none) m1)
    | _ => none
  | .rng2 a b, τ, m => bnd (ev Φ a τ m) fun x m1 => bnd (ev Φ b τ m1) fun y m2 => match x, y with
    | .int i, .int j => guard' (decide (-1000000000 < i) && decide (i < 1000000000) && decide (-1000000000 < j) && decide (j < 1000000000)) (ret ((List.range (j - i).toNat).map fun k => .int (i + Int.ofNat k), none) m2)
    | _, _ => none
  | .rngd a b, τ, m => bnd (ev Φ a τ m) fun x m1 => bnd (ev Φ b τ m1) fun y m2 => match x, y with
    | .int i, .int j => guard' (decide (-1000000000 < i) && decide (i < 1000000000) && decide (-1000000000 < j) && decide (j < 1000000000)) (ret ((List.range (i - j).toNat).map fun k => .int (i - Int.ofNat k), none) m2)
    | _, _ => none
  | .zip a b, τ, m => bnd (ev Φ a τ m) fun x m1 => bnd (ev Φ b τ m1) fun y m2 => match x, y with
    | .tup l, .tup k => ret ((l.zip k).map fun p => .tup [p.1, p.2], none) m2
    | _, _ => none
end

/-- a op= b on ints -/
def augop (op : BOp) : T → T → Mem → Rm T
  | .int i, .int j, m => binop op (.int i) (.int j) m
  | _, _, _ => none
/-! ### statements -/
inductive SO where
  | nx (τ : Lo)
  | ret (t : T)
  | brk (τ : Lo)
  | cnt (τ : Lo)
  | ex (e : Exn) (τ : Lo)
abbrev Sm := Option (SO × Mem)
def sbnd {α : Type} (τ : Lo) (x : Rm α) (f : α → Mem → Sm) : Sm := match x with
  | some (.ok a, m) => f a m
  | some (.ex e, m) => some (.ex e τ, m)
  | none => none
@[simp] theorem sbnd_ok {α : Type} (τ : Lo) (a : α) (m : Mem) (f : α → Mem → Sm) : sbnd τ (some (.ok a, m)) f = f a m := rfl
@[simp] theorem sbnd_ret {α : Type} (τ : Lo) (a : α) (m : Mem) (f : α → Mem → Sm) : sbnd τ (ret a m) f = f a m := rfl
@[simp] theorem sbnd_ex {α : Type} (τ : Lo) (e : Exn) (m : Mem) (f : α → Mem → Sm) : sbnd τ (some (.ex e, m)) f = some (.ex e τ, m) := rfl
@[simp] theorem sbnd_none {α : Type} (τ : Lo) (f : α → Mem → Sm) : sbnd τ none f = none := rfl
def forLoop (body : Lo → Mem → Sm) (tg : CT) (st : Stay) : List T → Lo → Mem → Sm
  | [], τ, m => if st.ok m then some (.nx τ, m) else none
  | t :: r, τ, m => if st.ok m then match asgT tg t τ with
      | none => none
      | some τ1 => match body τ1 m with
        | some (.nx τ2, m2) => forLoop body tg st r τ2 m2
        | some (.cnt τ2, m2) => forLoop body tg st r τ2 m2
        | some (.brk τ2, m2) => some (.nx τ2, m2)
        | o => o
    else none
def whileLoop (test : Lo → Mem → Rm Bool) (body : Lo → Mem → Sm) : Nat → Lo → Mem → Sm
  | 0, _, _ => none
  | n + 1, τ, m => sbnd τ (test τ m) fun b m1 => if b then match body τ m1 with
      | some (.nx τ2, m2) => whileLoop test body n τ2 m2
      | some (.cnt τ2, m2) => whileLoop test body n τ2 m2
      | some (.brk τ2, m2) => some (.nx τ2, m2)
      | o => o
    else some (.nx τ, m1)
def setAll : List Nat → List T → Lo → Option Lo
  | [], [], τ => some τ
  | i :: is, t :: ts, τ => if i < τ.length then setAll is ts (τ.set i (some t)) else none
  | _, _, _ => none
mutual
def evS (Φ : Fns) (N : Nat) : CS → Lo → Mem → Sm
  | .ex e, τ, m => sbnd τ (ev Φ e τ m) fun _ m1 => some (.nx τ, m1)
  | .asg tg e, τ, m => sbnd τ (ev Φ e τ m) fun x m1 => match asgT tg x τ with
    | some τ1 => some (.nx τ1, m1)
    | none => none
  | .asgq i q, τ, m => sbnd τ (evq Φ q τ m) fun l m1 => sbnd τ (alloc (.lst l) m1) fun x m2 => match asgT (.name i) x τ with
    | some τ1 => some (.nx τ1, m2)
    | none => none
  | .par is es, τ, m => sbnd τ (evs Φ es τ m) fun l m1 => match setAll is l τ with
    | some τ1 => some (.nx τ1, m1)
    | none => none
  | .sub o i e, τ, m => sbnd τ (ev Φ e τ m) fun v m1 => sbnd τ (ev Φ o τ m1) fun x m2 => sbnd τ (ev Φ i τ m2) fun y m3 => match setop x y v m3 with
    | some m4 => some (.nx τ, m4)
    | none => none
  | .aug i op e, τ, m => match τ[i]? with
    | some (some x) => sbnd τ (ev Φ e τ m) fun y m1 => sbnd τ (augop op x y m1) fun z m2 => some (.nx (τ.set i (some z)), m2)
    | _ => none
  | .ret e, τ, m => sbnd τ (ev Φ e τ m) fun x m1 => some (.ret x, m1)
  | .retn, τ, m => some (.ret .non, m)
  | .ife c a b, τ, m => sbnd τ (ev Φ c τ m) fun x m1 => sbnd τ (truth x m1) fun k m2 => if k then evSs Φ N a τ m2 else evSs Φ N b τ m2
  | .whl c b, τ, m => whileLoop (fun τ m => bnd (ev Φ c τ m) fun x m1 => truth x m1) (fun τ m => evSs Φ N b τ m) N τ m
  | .for_ tg it b, τ, m => sbnd τ (evi Φ it τ m) fun p m1 => forLoop (fun τ m => evSs Φ N b τ m) tg p.2 p.1 τ m1
  | .brk, τ, m => some (.brk τ, m)
  | .cnt, τ, m => some (.cnt τ, m)
  | .pass, τ, m => some (.nx τ, m)
  | .never, _, _ => none
def evSs (Φ : Fns) (N : Nat) : CSs → Lo → Mem → Sm
  | .nil, τ, m => some (.nx τ, m)
  | .cons s r, τ, m => match evS Φ N s τ m with
    | some (.nx τ1, m1) => evSs Φ N r τ1 m1
    | o => o
end
/-- a def: its parameters' number, its names' number, its body -/
structure CD where
  np : Nat
  nn : Nat
  body : CSs
def runD (Φ : Fns) (N : Nat) (d : CD) (ts : List T) (m : Mem) : Rm T :=
  if ts.length = d.np then match evSs Φ N d.body (ts.map some ++ List.replicate (d.nn - d.np) none) m with
    | some (.nx _, m1) => some (.ok .non, m1)
    | some (.ret t, m1) => some (.ok t, m1)
    | some (.ex e _, m1) => some (.ex e, m1)
    | _ => none
  else none
end Ev
end
section
set_option linter.all false
set_option maxRecDepth 10000
/-! Ev3: how plain values and memories lie in the layer's heap. -/
namespace Ev
open PySem L2

/-- the world of a law: program, world, the module's objects, the defs' addresses -/
structure Ad where
  fa : Nat → Addr
  cv : Nat → Value
structure Wo where
  P : Program
  w : World
  K : PySem.W.Frag
  ad : Ad
/-! ### dicts whose keys are tuples, by the keys' addresses -/
abbrev XE := List Key × Addr × V
def dXφ (P : Program) (w : World) (a : Addr) (xs : List XE) : Heap → Prop := fun h =>
  xs.length ≤ sizeLine ∧ (a == sysModules) = false ∧ ∃ us : List (List Key × Addr × Value), Paired (fun (p : XE) (q : List Key × Addr × Value) => p.1 = q.1 ∧ p.2.1 = q.2.1 ∧ RelV p.2.2 q.2.2) xs us ∧
    ∃ o es ep, h.get? a = some o ∧ o.ExactDict ∧ o.data = .dict es ep ∧ es.toList = us.map (entryOfKey (tupleKind (mixKind P w))) ∧ (us.map (·.1)).Nodup
def dX (P : Program) (w : World) (a : Addr) (xs : List XE) : HO := .ext (dXφ P w a xs)
/-- a list that nobody changes: known to the object, or one of the module's -/
def Ro (K : PySem.W.Frag) (H : Hp) (a : Addr) (vs : List V) : Prop := SqL K H a vs ∧ ((∃ o, H a = some (.frz o (.lst vs))) ∨ ∃ (o : Obj) (its : Array Value) (n : Nat), K.lookup a = some o ∧ o.cls = .type "list" ∧ o.dict = none ∧ o.data = .seq its n ∧ its.size ≤ sizeLine ∧ Vals vs its.toList)
section
variable (W : Wo) (ι : List Addr) (H : Hp)
mutual
def Rep : T → V → Prop
  | .non, v => v = .non
  | .bl b, v => v = .bl b
  | .int i, v => v = .int i
  | .str s, v => v = .str s
  | .tup ts, v => ∃ a vs, v = .ref a ∧ SqT W.K H a vs ∧ Reps ts vs
  | .ref n, v => ∃ a, v = .ref a ∧ ι[n]? = some a
  | .fn k, v => v = .ref (W.ad.fa k)
  | .rep t, v => v = .str (toPy t).shown
  | .lst _, _ => False
  | .ro ts, v => ∃ a vs, v = .ref a ∧ Ro W.K H a vs ∧ Reps ts vs
def Reps : List T → List V → Prop
  | [], vs => vs = []
  | t :: ts, vs => ∃ v r, vs = v :: r ∧ Rep t v ∧ Reps ts r
end
/-- an object of the memory, at a -/
def MOk (a : Addr) : MO → Prop
  | .lst l => ∃ vs, H a = some (.lst vs) ∧ Reps W ι H l vs
  | .dK lk kvs => ∃ vs : List (Key × V), (if lk then ∃ o, H a = some (.frz o (.dK vs)) else H a = some (.dK vs)) ∧ vs.map (·.1) = kvs.map (·.1) ∧ Reps W ι H (kvs.map (·.2)) (vs.map (·.2)) ∧ (kvs.map (·.1)).Nodup
  | .dT lk kvs => ∃ xs : List XE, (if lk then ∃ o, H a = some (.frz o (dX W.P W.w a xs)) else H a = some (dX W.P W.w a xs)) ∧ xs.map (·.1) = kvs.map (·.1) ∧ (∀ x ∈ xs, SqT W.K H x.2.1 (x.1.map kV)) ∧ Reps W ι H (kvs.map (·.2)) (xs.map (·.2.2)) ∧ (kvs.map (·.1)).Nodup
  | .ins _ _ => False
end
/-- an exception as it flies: its class, its dict -/
def RepX (W : Wo) (ι : List Addr) (H : Hp) (e : Exn) (cls : Value) (d : Option Addr) : Prop :=
  cls = W.ad.cv e.cls ∧ ((d = none ∧ e.fs = []) ∨ ∃ (a : Addr) (fs : List (Str × V)), d = some a ∧ H a = some (.xd fs) ∧ fs.map (·.1) = e.fs.map (·.1) ∧ Reps W ι H (e.fs.map (·.2)) (fs.map (·.2)))
/-- the memory m lies in H at the addresses ι -/
structure Sim (W : Wo) (ι : List Addr) (m : Mem) (H : Hp) : Prop where
  len : ι.length = m.length
  nd : ι.Nodup
  ob : ∀ (n : Nat) (a : Addr) (o : MO), ι[n]? = some a → m[n]? = some o → MOk W ι H a o
/-- the frame's values -/
structure SlOk (W : Wo) (ι : List Addr) (H : Hp) (τ : Lo) (σ : St) : Prop where
  len : τ.length = σ.length
  get : ∀ (i : Nat) (t : T), τ[i]? = some (some t) → ∃ v, σ[i]? = some (some v) ∧ Rep W ι H t v
/-- what any evaluation leaves: more addresses, new ones; what stands elsewhere stays -/
structure Ext (ι : List Addr) (H : Hp) (ι' : List Addr) (H' : Hp) : Prop where
  pre : ι <+: ι'
  fr : ∀ a ∈ ι', a ∈ ι ∨ H a = none
  keep : ∀ a o, H a = some o → a ∉ ι → H' a = some o
  frz : ∀ a o u, H a = some (.frz o u) → H' a = some (.frz o u)
def isFrz : HO → Bool
  | .frz _ _ => true
  | _ => false
theorem Ext.refl (ι : List Addr) (H : Hp) : Ext ι H ι H := ⟨List.prefix_rfl, fun _ h => .inl h, fun _ _ h _ => h, fun _ _ _ h => h⟩
theorem Ext.trans {ι ι1 ι2 : List Addr} {H H1 H2 : Hp} (x : Ext ι H ι1 H1) (y : Ext ι1 H1 ι2 H2) : Ext ι H ι2 H2 := by
  refine ⟨x.pre.trans y.pre, fun a ha => ?_, fun a o e n => ?_, fun a o u e => y.frz a o u (x.frz a o u e)⟩
  · rcases y.fr a ha with h | h
    · exact x.fr a h
    · by_cases q : a ∈ ι
      · exact .inl q
      · refine .inr ?_
        cases e : H a with
        | none => rfl
        | some o => rw [x.keep a o e q] at h; cases h
  · have n1 : a ∉ ι1 := fun h => by
      rcases x.fr a h with q | q
      · exact n q
      · rw [e] at q; cases q
    exact y.keep a o (x.keep a o e n) n1
theorem Ext.get {ι ι' : List Addr} {H H' : Hp} (x : Ext ι H ι' H') {n : Nat} {a : Addr} (h : ι[n]? = some a) : ι'[n]? = some a := by
  obtain ⟨r, rfl⟩ := x.pre
  rw [List.getElem?_append_left (List.getElem?_eq_some_iff.mp h).1]
  exact h
section
variable {W : Wo} {ι ι' : List Addr} {H H' : Hp} {m : Mem}
/-- no tuple stands at an address of the memory -/
theorem Sim.nTup (S : Sim W ι m H) {a : Addr} {xs : List V} (h : H a = some (.tup xs)) : a ∉ ι := fun ha => by
  obtain ⟨n, hn, e⟩ := List.getElem_of_mem ha
  have h1 : ι[n]? = some a := by rw [List.getElem?_eq_getElem hn, e]
  have hm : n < m.length := by rw [← S.len]; exact hn
  have q := S.ob n a m[n] h1 (List.getElem?_eq_getElem hm)
  revert q
  cases m[n] with
  | lst l => rintro ⟨vs, q, _⟩; rw [h] at q; cases q
  | dK lk kvs => rintro ⟨vs, q, _⟩; cases lk <;> simp [h, dX] at q
  | dT lk kvs => rintro ⟨vs, q, _⟩; cases lk <;> simp [h, dX] at q
  | ins c fs => rintro ⟨⟩
theorem Sim.nFrzT (S : Sim W ι m H) {a : Addr} {o : Obj} {xs : List V} (h : H a = some (.frz o (.tup xs))) : a ∉ ι := fun ha => by
  obtain ⟨n, hn, e⟩ := List.getElem_of_mem ha
  have h1 : ι[n]? = some a := by rw [List.getElem?_eq_getElem hn, e]
  have hm : n < m.length := by rw [← S.len]; exact hn
  have q := S.ob n a m[n] h1 (List.getElem?_eq_getElem hm)
  revert q
  cases m[n] with
  | lst l => rintro ⟨vs, q, _⟩; rw [h] at q; cases q
  | dK lk kvs => rintro ⟨vs, q, _⟩; cases lk <;> simp [h, dX] at q
  | dT lk kvs => rintro ⟨vs, q, _⟩; cases lk <;> simp [h, dX] at q
  | ins c fs => rintro ⟨⟩
theorem Sim.nFrzL (S : Sim W ι m H) {a : Addr} {o : Obj} {xs : List V} (h : H a = some (.frz o (.lst xs))) : a ∉ ι := fun ha => by
  obtain ⟨n, hn, e⟩ := List.getElem_of_mem ha
  have h1 : ι[n]? = some a := by rw [List.getElem?_eq_getElem hn, e]
  have hm : n < m.length := by rw [← S.len]; exact hn
  have q := S.ob n a m[n] h1 (List.getElem?_eq_getElem hm)
  revert q
  cases m[n] with
  | lst l => rintro ⟨vs, q, _⟩; rw [h] at q; cases q
  | dK lk kvs => rintro ⟨vs, q, _⟩; cases lk <;> simp [h, dX] at q
  | dT lk kvs => rintro ⟨vs, q, _⟩; cases lk <;> simp [h, dX] at q
  | ins c fs => rintro ⟨⟩
/-- a free address is none of the memory's -/
theorem Sim.free (S : Sim W ι m H) {a : Addr} (h : H a = none) : a ∉ ι := fun ha => by
  obtain ⟨n, hn, e⟩ := List.getElem_of_mem ha
  have h1 : ι[n]? = some a := by rw [List.getElem?_eq_getElem hn, e]
  have hm : n < m.length := by rw [← S.len]; exact hn
  have q := S.ob n a m[n] h1 (List.getElem?_eq_getElem hm)
  revert q
  cases m[n] with
  | lst l => rintro ⟨vs, q, _⟩; rw [h] at q; cases q
  | dK lk kvs => rintro ⟨vs, q, _⟩; cases lk <;> simp [h, dX] at q
  | dT lk kvs => rintro ⟨vs, q, _⟩; cases lk <;> simp [h, dX] at q
  | ins c fs => rintro ⟨⟩
theorem Ro.mono (S : Sim W ι m H) (x : Ext ι H ι' H') {a : Addr} {vs : List V} (h : Ro W.K H a vs) : Ro W.K H' a vs := by
  rcases h with ⟨_, ⟨o, h⟩ | h⟩
  · have q := x.keep _ _ h (S.nFrzL h)
    exact ⟨.inl (.inr ⟨o, q⟩), .inl ⟨o, q⟩⟩
  · exact ⟨.inr h, .inr h⟩
theorem SqT.mono (S : Sim W ι m H) (x : Ext ι H ι' H') {a : Addr} {vs : List V} (h : SqT W.K H a vs) : SqT W.K H' a vs := by
  rcases h with (h | ⟨o, h⟩) | h
  · exact .inl (.inl (x.keep _ _ h (S.nTup h)))
  · exact .inl (.inr ⟨o, x.keep _ _ h (S.nFrzT h)⟩)
  · exact .inr h
/-- what carries over: tuples stay, addresses stay -/
structure Carry (W : Wo) (ι : List Addr) (H : Hp) (ι' : List Addr) (H' : Hp) : Prop where
  tup : ∀ a vs, SqT W.K H a vs → SqT W.K H' a vs
  ro : ∀ a vs, Ro W.K H a vs → Ro W.K H' a vs
  get : ∀ (n : Nat) (a : Addr), ι[n]? = some a → ι'[n]? = some a
theorem Sim.carry (S : Sim W ι m H) (x : Ext ι H ι' H') : Carry W ι H ι' H' := ⟨fun _ _ h => SqT.mono S x h, fun _ _ h => Ro.mono S x h, fun _ _ h => x.get h⟩
mutual
theorem Rep.carry (c : Carry W ι H ι' H') : ∀ (t : T) (v : V), Rep W ι H t v → Rep W ι' H' t v
  | .non, _, h => h
  | .bl _, _, h => h
  | .int _, _, h => h
  | .str _, _, h => h
  | .tup ts, v, h => by
    simp only [Rep] at h ⊢
    obtain ⟨a, vs, e, q, r⟩ := h
    exact ⟨a, vs, e, c.tup _ _ q, Reps.carry c ts vs r⟩
  | .ref n, v, h => by
    simp only [Rep] at h ⊢
    obtain ⟨a, e, q⟩ := h
    exact ⟨a, e, c.get _ _ q⟩
  | .fn _, _, h => h
  | .rep _, _, h => h
  | .lst _, _, h => h
  | .ro ts, v, h => by
    simp only [Rep] at h ⊢
    obtain ⟨a, vs, e, q, r⟩ := h
    exact ⟨a, vs, e, c.ro _ _ q, Reps.carry c ts vs r⟩
theorem Reps.carry (c : Carry W ι H ι' H') : ∀ (ts : List T) (vs : List V), Reps W ι H ts vs → Reps W ι' H' ts vs
  | [], _, h => h
  | t :: ts, vs, h => by
    simp only [Reps] at h ⊢
    obtain ⟨v, r, e, h1, h2⟩ := h
    exact ⟨v, r, e, Rep.carry c t v h1, Reps.carry c ts r h2⟩
end
theorem Rep.mono (S : Sim W ι m H) (x : Ext ι H ι' H') {t : T} {v : V} (h : Rep W ι H t v) : Rep W ι' H' t v := Rep.carry (S.carry x) t v h
theorem Reps.mono (S : Sim W ι m H) (x : Ext ι H ι' H') {ts : List T} {vs : List V} (h : Reps W ι H ts vs) : Reps W ι' H' ts vs := Reps.carry (S.carry x) ts vs h
theorem MOk.carry (c : Carry W ι H ι' H') {a : Addr} {o : MO} (e : H' a = H a) (h : MOk W ι H a o) : MOk W ι' H' a o := by
  cases o with
  | lst l =>
    obtain ⟨vs, q, r⟩ := h
    exact ⟨vs, e.trans q, Reps.carry c _ _ r⟩
  | dK lk kvs =>
    obtain ⟨vs, q, r1, r2, nd⟩ := h
    exact ⟨vs, by rw [e]; exact q, r1, Reps.carry c _ _ r2, nd⟩
  | dT lk kvs =>
    obtain ⟨vs, q, r1, k, r2, nd⟩ := h
    exact ⟨vs, by rw [e]; exact q, r1, fun x hx => c.tup _ _ (k x hx), Reps.carry c _ _ r2, nd⟩
  | ins _ _ => exact h.elim
/-- an address of the memory is taken, or the script among the module's objects -/
theorem Sim.at_ (S : Sim W ι m H) {n : Nat} {a : Addr} (h : ι[n]? = some a) : ∃ o, m[n]? = some o ∧ MOk W ι H a o := by
  have hn := (List.getElem?_eq_some_iff.mp h).1
  have hm : n < m.length := by rw [← S.len]; exact hn
  exact ⟨m[n], List.getElem?_eq_getElem hm, S.ob n a _ h (List.getElem?_eq_getElem hm)⟩
theorem Sim.addr (S : Sim W ι m H) {n : Nat} {o : MO} (h : m[n]? = some o) : ∃ a, ι[n]? = some a ∧ MOk W ι H a o := by
  have hn := (List.getElem?_eq_some_iff.mp h).1
  have hm : n < ι.length := by rw [S.len]; exact hn
  exact ⟨ι[n], List.getElem?_eq_getElem hm, S.ob n _ o (List.getElem?_eq_getElem hm) h⟩
/-- a thing laid outside the memory -/
theorem Sim.out (S : Sim W ι m H) {p : Addr} {o : HO} (hp : H p = none) : Sim W ι m (upd H p o) ∧ Ext ι H ι (upd H p o) := by
  have x : Ext ι H ι (upd H p o) := ⟨List.prefix_rfl, fun _ h => .inl h, fun a ob e _ => by rw [upd_ne (fun z => by subst z; rw [hp] at e; cases e)]; exact e, fun a ob u e => by rw [upd_ne (fun z => by subst z; rw [hp] at e; cases e)]; exact e⟩
  refine ⟨⟨S.len, S.nd, fun n a ob h1 h2 => ?_⟩, x⟩
  have ne : a ≠ p := fun z => S.free hp (z ▸ List.mem_of_getElem? h1)
  exact MOk.carry (S.carry x) (upd_ne ne) (S.ob n a ob h1 h2)
/-- an object of the memory is changed -/
theorem Sim.set (S : Sim W ι m H) {n : Nat} {a : Addr} {o u0 : HO} {mo : MO} (hn : ι[n]? = some a) (h0 : H a = some u0) (hf : isFrz u0 = false)
    (new : Carry W ι H ι (upd H a o) → MOk W ι (upd H a o) a mo) : Sim W ι (m.set n mo) (upd H a o) ∧ Ext ι H ι (upd H a o) := by
  have ha : a ∈ ι := List.mem_of_getElem? hn
  have x : Ext ι H ι (upd H a o) := ⟨List.prefix_rfl, fun _ h => .inl h, fun b ob e nb => by rw [upd_ne (fun (z : b = a) => nb (by rw [z]; exact ha))]; exact e, fun b ob u e => by rw [upd_ne (fun (z : b = a) => by rw [z, h0] at e; cases e; cases hf)]; exact e⟩
  refine ⟨⟨by rw [List.length_set]; exact S.len, S.nd, fun k b ob h1 h2 => ?_⟩, x⟩
  by_cases hk : k = n
  · subst hk
    rw [hn] at h1; cases h1
    rw [List.getElem?_set_self (by have := (List.getElem?_eq_some_iff.mp hn).1; rw [← S.len]; exact this)] at h2
    cases h2
    exact new (S.carry x)
  · rw [List.getElem?_set_ne (Ne.symm hk)] at h2
    have ne : b ≠ a := fun z => by
      subst z
      have h3 := (List.getElem?_eq_some_iff.mp hn)
      have h4 := (List.getElem?_eq_some_iff.mp h1)
      exact hk ((List.getElem_inj S.nd).mp (h4.2.trans h3.2.symm))
    exact MOk.carry (S.carry x) (upd_ne ne) (S.ob k b ob h1 h2)
/-- a new object of the memory -/
theorem Sim.new (S : Sim W ι m H) {p : Addr} {o : HO} {mo : MO} (hp : H p = none) (new : Carry W ι H (ι ++ [p]) (upd H p o) → MOk W (ι ++ [p]) (upd H p o) p mo) :
    Sim W (ι ++ [p]) (m ++ [mo]) (upd H p o) ∧ Ext ι H (ι ++ [p]) (upd H p o) := by
  have hni : p ∉ ι := S.free hp
  have x : Ext ι H (ι ++ [p]) (upd H p o) := ⟨⟨[p], rfl⟩, fun a h => by
      rcases List.mem_append.mp h with h | h
      · exact .inl h
      · rw [List.mem_singleton.mp h]; exact .inr hp, fun a ob e _ => by rw [upd_ne (fun z => by subst z; rw [hp] at e; cases e)]; exact e, fun a ob u e => by rw [upd_ne (fun z => by subst z; rw [hp] at e; cases e)]; exact e⟩
  refine ⟨⟨by rw [List.length_append, List.length_append, S.len]; rfl, ?_, fun n a ob h1 h2 => ?_⟩, x⟩
  · rw [List.nodup_append]
    refine ⟨S.nd, List.nodup_cons.mpr ⟨by simp, List.nodup_nil⟩, fun a ha b hb => ?_⟩
    rw [List.mem_singleton] at hb
    exact fun z => hni (hb ▸ z ▸ ha)
  · by_cases hn : n < ι.length
    · rw [List.getElem?_append_left hn] at h1
      rw [List.getElem?_append_left (by rw [← S.len]; exact hn)] at h2
      have ne : a ≠ p := fun z => hni (z ▸ List.mem_of_getElem? h1)
      exact MOk.carry (S.carry x) (upd_ne ne) (S.ob n a ob h1 h2)
    · rw [List.getElem?_append_right (by omega)] at h1
      rw [List.getElem?_append_right (by rw [← S.len]; omega)] at h2
      obtain ⟨z, e1⟩ := List.getElem?_eq_some_iff.mp h1
      have z0 : n - ι.length = 0 := by simp at z; omega
      have e2 : n - m.length = 0 := by rw [← S.len]; exact z0
      rw [z0] at h1; rw [e2] at h2
      cases h1; cases h2
      exact new (S.carry x)
/-- an object that has just come (outside) enters the memory -/
theorem Sim.enter (S : Sim W ι m H) {p : Addr} {mo : MO} (hni : p ∉ ι) (new : Carry W ι H (ι ++ [p]) H → MOk W (ι ++ [p]) H p mo) :
    Sim W (ι ++ [p]) (m ++ [mo]) H := by
  have c : Carry W ι H (ι ++ [p]) H := ⟨fun _ _ h => h, fun _ _ h => h, fun n a h => by rw [List.getElem?_append_left (List.getElem?_eq_some_iff.mp h).1]; exact h⟩
  refine ⟨by rw [List.length_append, List.length_append, S.len]; rfl, ?_, fun n a ob h1 h2 => ?_⟩
  · rw [List.nodup_append]
    refine ⟨S.nd, List.nodup_cons.mpr ⟨by simp, List.nodup_nil⟩, fun a ha b hb => ?_⟩
    rw [List.mem_singleton] at hb
    exact fun z => hni (hb ▸ z ▸ ha)
  · by_cases hn : n < ι.length
    · rw [List.getElem?_append_left hn] at h1
      rw [List.getElem?_append_left (by rw [← S.len]; exact hn)] at h2
      exact MOk.carry c rfl (S.ob n a ob h1 h2)
    · rw [List.getElem?_append_right (by omega)] at h1
      rw [List.getElem?_append_right (by rw [← S.len]; omega)] at h2
      obtain ⟨z, e1⟩ := List.getElem?_eq_some_iff.mp h1
      have z0 : n - ι.length = 0 := by simp at z; omega
      have e2 : n - m.length = 0 := by rw [← S.len]; exact z0
      rw [z0] at h1; rw [e2] at h2
      cases h1; cases h2
      exact new c
/-! ### lists of values -/
theorem Reps.length : ∀ {ts : List T} {vs : List V}, Reps W ι H ts vs → ts.length = vs.length
  | [], _, h => by simp only [Reps] at h; subst h; rfl
  | t :: ts, _, h => by
    simp only [Reps] at h
    obtain ⟨v, r, rfl, _, h⟩ := h
    rw [List.length_cons, List.length_cons, Reps.length h]
theorem Reps.nil : Reps W ι H [] [] := by simp only [Reps]
theorem Reps.cons {t : T} {ts : List T} {v : V} {vs : List V} (h : Rep W ι H t v) (r : Reps W ι H ts vs) : Reps W ι H (t :: ts) (v :: vs) := by
  simp only [Reps]; exact ⟨v, vs, rfl, h, r⟩
theorem Reps.get : ∀ {ts : List T} {vs : List V} {i : Nat} {t : T}, Reps W ι H ts vs → ts[i]? = some t → ∃ v, vs[i]? = some v ∧ Rep W ι H t v
  | [], _, i, t, _, e => by simp at e
  | a :: ts, _, i, t, h, e => by
    simp only [Reps] at h
    obtain ⟨v, r, rfl, h1, h2⟩ := h
    cases i with
    | zero => simp at e; subst e; exact ⟨v, rfl, h1⟩
    | succ i =>
      obtain ⟨w, e1, e2⟩ := Reps.get (i := i) h2 (by simpa using e)
      exact ⟨w, by simpa using e1, e2⟩
theorem Reps.of_get : ∀ {ts : List T} {vs : List V}, ts.length = vs.length → (∀ (i : Nat) (t : T) (v : V), ts[i]? = some t → vs[i]? = some v → Rep W ι H t v) → Reps W ι H ts vs
  | [], [], _, _ => Reps.nil
  | [], _ :: _, h, _ => by simp at h
  | _ :: _, [], h, _ => by simp at h
  | t :: ts, v :: vs, h, f => Reps.cons (f 0 t v rfl rfl) (Reps.of_get (by simpa using h) fun i a b h1 h2 => f (i + 1) a b (by simpa using h1) (by simpa using h2))
theorem Reps.append : ∀ {ts us : List T} {vs ws : List V}, Reps W ι H ts vs → Reps W ι H us ws → Reps W ι H (ts ++ us) (vs ++ ws)
  | [], us, vs, ws, h, r => by simp only [Reps] at h; subst h; exact r
  | t :: ts, us, vs, ws, h, r => by
    simp only [Reps] at h
    obtain ⟨v, q, rfl, h1, h2⟩ := h
    exact Reps.cons h1 (Reps.append h2 r)
theorem Reps.drop : ∀ (n : Nat) {ts : List T} {vs : List V}, Reps W ι H ts vs → Reps W ι H (ts.drop n) (vs.drop n)
  | 0, _, _, h => h
  | n + 1, [], _, h => by simp only [Reps] at h; subst h; exact Reps.nil
  | n + 1, t :: ts, _, h => by
    simp only [Reps] at h
    obtain ⟨v, q, rfl, h1, h2⟩ := h
    exact Reps.drop n h2
theorem Reps.take : ∀ (n : Nat) {ts : List T} {vs : List V}, Reps W ι H ts vs → Reps W ι H (ts.take n) (vs.take n)
  | 0, _, _, h => Reps.nil
  | n + 1, [], _, h => by simp only [Reps] at h; subst h; exact Reps.nil
  | n + 1, t :: ts, _, h => by
    simp only [Reps] at h
    obtain ⟨v, q, rfl, h1, h2⟩ := h
    exact Reps.cons h1 (Reps.take n h2)
theorem Reps.one {t : T} {v : V} (h : Rep W ι H t v) : Reps W ι H [t] [v] := Reps.cons h Reps.nil
theorem Reps.reverse : ∀ {ts : List T} {vs : List V}, Reps W ι H ts vs → Reps W ι H ts.reverse vs.reverse
  | [], _, h => by simp only [Reps] at h; subst h; exact Reps.nil
  | t :: ts, _, h => by
    simp only [Reps] at h
    obtain ⟨v, q, rfl, h1, h2⟩ := h
    rw [List.reverse_cons, List.reverse_cons]
    exact Reps.append (Reps.reverse h2) (Reps.one h1)
theorem Reps.ints : ∀ {ts : List T} {vs : List V} {ns : List Int}, Reps W ι H ts vs → intsOf ts = some ns → vs = ns.map V.int
  | [], vs, ns, h, e => by simp only [Reps] at h; simp [intsOf] at e; subst h; subst e; rfl
  | t :: ts, vs, ns, h, e => by
    simp only [Reps] at h
    obtain ⟨v, r, rfl, h1, h2⟩ := h
    cases t with
    | int i =>
      simp only [intsOf, Option.map_eq_some_iff] at e
      obtain ⟨l, e, rfl⟩ := e
      simp only [Rep] at h1
      rw [List.map_cons, h1, Reps.ints h2 e]
    | _ => simp [intsOf] at e
theorem Reps.bls : ∀ {ts : List T} {vs : List V} {ns : List Bool}, Reps W ι H ts vs → blsOf ts = some ns → vs = ns.map V.bl
  | [], vs, ns, h, e => by simp only [Reps] at h; simp [blsOf] at e; subst h; subst e; rfl
  | t :: ts, vs, ns, h, e => by
    simp only [Reps] at h
    obtain ⟨v, r, rfl, h1, h2⟩ := h
    cases t with
    | bl i =>
      simp only [blsOf, Option.map_eq_some_iff] at e
      obtain ⟨l, e, rfl⟩ := e
      simp only [Rep] at h1
      rw [List.map_cons, h1, Reps.bls h2 e]
    | _ => simp [blsOf] at e
theorem Reps.split : ∀ {ts : List T} {vs : List V} {i : Nat} {t : T}, Reps W ι H ts vs → ts[i]? = some t → ∃ v, vs[i]? = some v ∧ Rep W ι H t v := fun h e => Reps.get h e
/-! ### slots -/
theorem SlOk.carry (c : Carry W ι H ι' H') {τ : Lo} {σ : St} (h : SlOk W ι H τ σ) : SlOk W ι' H' τ σ :=
  ⟨h.len, fun i t e => let ⟨v, e1, e2⟩ := h.get i t e; ⟨v, e1, Rep.carry c t v e2⟩⟩
theorem SlOk.mono (S : Sim W ι m H) (x : Ext ι H ι' H') {τ : Lo} {σ : St} (h : SlOk W ι H τ σ) : SlOk W ι' H' τ σ := h.carry (S.carry x)
theorem SlOk.set {τ : Lo} {σ : St} (h : SlOk W ι H τ σ) (i : Nat) {t : T} {v : V} (r : Rep W ι H t v) : SlOk W ι H (τ.set i (some t)) (σ.set i (some v)) := by
  refine ⟨by rw [List.length_set, List.length_set]; exact h.len, fun j u e => ?_⟩
  by_cases hj : i = j
  · subst hj
    by_cases hi : i < τ.length
    · rw [List.getElem?_set_self hi] at e
      cases e
      exact ⟨v, List.getElem?_set_self (by rw [← h.len]; exact hi), r⟩
    · rw [List.getElem?_eq_none (by simpa using hi)] at e; cases e
  · rw [List.getElem?_set_ne hj] at e ⊢
    exact h.get j u e
theorem SlOk.unset {τ : Lo} {σ : St} (h : SlOk W ι H τ σ) (i : Nat) : SlOk W ι H (τ.set i none) (σ.set i none) := by
  refine ⟨by rw [List.length_set, List.length_set]; exact h.len, fun j u e => ?_⟩
  by_cases hj : i = j
  · subst hj
    by_cases hi : i < τ.length
    · rw [List.getElem?_set_self hi] at e; cases e
    · rw [List.getElem?_eq_none (by simpa using hi)] at e; cases e
  · rw [List.getElem?_set_ne hj] at e ⊢
    exact h.get j u e
theorem SlOk.wipe {τ : Lo} {σ : St} (h : SlOk W ι H τ σ) : ∀ vs : List Nat, SlOk W ι H (wipeT τ vs) (wipe σ vs)
  | [] => h
  | v :: vs => by
    unfold wipeT L2.wipe
    exact (SlOk.wipe h vs).unset v
theorem SlOk.start {ts : List T} {vs : List V} (r : Reps W ι H ts vs) (n k : Nat) (hn : n = k) : SlOk W ι H (ts.map some ++ List.replicate n none) (vs.map some ++ List.replicate k none) := by
  subst hn
  refine ⟨by simp [r.length], fun i t e => ?_⟩
  by_cases hi : i < ts.length
  · rw [List.getElem?_append_left (by simpa using hi), List.getElem?_map] at e
    cases q : ts[i]? with
    | none => rw [q] at e; simp at e
    | some u =>
      rw [q] at e
      simp at e
      subst e
      obtain ⟨v, e1, e2⟩ := r.get q
      refine ⟨v, ?_, e2⟩
      rw [List.getElem?_append_left (by rw [List.length_map, ← r.length]; exact hi), List.getElem?_map, e1]
      rfl
  · rw [List.getElem?_append_right (by simpa using hi), List.getElem?_replicate] at e
    split at e <;> simp at e
end
end Ev
end
section
set_option linter.all false
set_option maxRecDepth 10000
/-! Ev4: what is wanted of a result; operators. -/
namespace Ev
open PySem PySem.Spec PyProof.Rows L2

abbrev EW := Exn → List Addr → Hp → Prop
/-- what is wanted of a result: ew of an exception, kv of a value, wherever the memory then lies -/
def Wt {α : Type} (W : Wo) (ew : EW) (kv : α → List Addr → Hp → Prop) (ι : List Addr) (H : Hp) (res : Rm α) : Prop :=
  ∃ r m', res = some (r, m') ∧ ∀ ι' H', Ext ι H ι' H' → Sim W ι' m' H' → match r with
    | .ok a => kv a ι' H'
    | .ex e => ew e ι' H'
/-- a value's wish -/
def kvV (W : Wo) (Q : VK) : T → List Addr → Hp → Prop := fun t ι H => ∀ v, Rep W ι H t v → Q v H
section
variable {W : Wo} {α β : Type} {ew : EW} {ι ι1 ι' : List Addr} {H H1 H' : Hp} {m m1 : Mem} {Q : VK}
theorem Wt.none {kv : α → List Addr → Hp → Prop} (h : Wt W ew kv ι H none) : False := by
  obtain ⟨r, m', e, _⟩ := h
  cases e
theorem Wt.ret {kv : α → List Addr → Hp → Prop} {a : α} (h : Wt W ew kv ι H (ret a m)) (S : Sim W ι m H) : kv a ι H := by
  obtain ⟨r, m', e, q⟩ := h
  cases e
  exact q ι H (.refl _ _) S
theorem Wt.ret' {kv : α → List Addr → Hp → Prop} {a : α} (h : Wt W ew kv ι H (Ev.ret a m)) (S : Sim W ι' m H') (x : Ext ι H ι' H') : kv a ι' H' := by
  obtain ⟨r, m', e, q⟩ := h
  cases e
  exact q ι' H' x S
theorem Wt.mk {kv : α → List Addr → Hp → Prop} {a : α} (h : ∀ ι' H', Ext ι H ι' H' → Sim W ι' m H' → kv a ι' H') : Wt W ew kv ι H (Ev.ret a m) := ⟨_, _, rfl, h⟩
theorem Wt.later {kv : α → List Addr → Hp → Prop} {res : Rm α} (h : Wt W ew kv ι H res) (x : Ext ι H ι' H') : Wt W ew kv ι' H' res := by
  obtain ⟨r, m', e, q⟩ := h
  exact ⟨r, m', e, fun ι2 H2 y S => q ι2 H2 (x.trans y) S⟩
theorem Wt.guard {kv : α → List Addr → Hp → Prop} {c : Bool} {res : Rm α} (h : Wt W ew kv ι H (guard' c res)) : c = true ∧ Wt W ew kv ι H res := by
  cases c with
  | true => exact ⟨rfl, h⟩
  | false => exact h.none.elim
theorem Wt.opt {kv : α → List Addr → Hp → Prop} {o : Option α} (h : Wt W ew kv ι H (Ev.opt o m)) : ∃ a, o = some a ∧ Wt W ew kv ι H (Ev.ret a m) := by
  cases o with
  | none => exact h.none.elim
  | some a => exact ⟨a, rfl, h⟩
/-- one after another -/
theorem Wt.bnd {kv : β → List Addr → Hp → Prop} {res : Rm α} {f : α → Mem → Rm β} (h : Wt W ew kv ι H (Ev.bnd res f)) :
    Wt W ew (fun a ι1 H1 => ∃ m1, Sim W ι1 m1 H1 ∧ Ext ι H ι1 H1 ∧ Wt W ew kv ι1 H1 (f a m1)) ι H res := by
  obtain ⟨r, m', e, q⟩ := h
  cases res with
  | none => cases e
  | some p =>
    match p, e with
    | (.ok a, mm), e => exact ⟨.ok a, mm, rfl, fun ι1 H1 x S => ⟨mm, S, x, r, m', e, fun ι2 H2 y S2 => q ι2 H2 (x.trans y) S2⟩⟩
    | (.ex z, mm), e =>
      cases e
      exact ⟨.ex z, _, rfl, fun ι1 H1 x S => q ι1 H1 x S⟩
theorem Wt.imp {kv kv' : α → List Addr → Hp → Prop} {res : Rm α} (h : Wt W ew kv ι H res) (f : ∀ a ι' H', Ext ι H ι' H' → kv a ι' H' → kv' a ι' H') : Wt W ew kv' ι H res := by
  obtain ⟨r, m', e, q⟩ := h
  refine ⟨r, m', e, fun ι' H' x S => ?_⟩
  have z := q ι' H' x S
  cases r with
  | ok a => exact f a ι' H' x z
  | ex e => exact z
/-- a new object of the memory -/
theorem Wt.alloc {o : MO} (h : Wt W ew (kvV W Q) ι H (Ev.alloc o m)) (S : Sim W ι m H) {p : Addr} {ho : HO} (hp : H p = Option.none)
    (new : Carry W ι H (ι ++ [p]) (upd H p ho) → MOk W (ι ++ [p]) (upd H p ho) p o) : Q (.ref p) (upd H p ho) := by
  obtain ⟨S1, x1⟩ := S.new hp new
  refine h.ret' S1 x1 (.ref p) ?_
  simp only [Rep]
  refine ⟨p, rfl, ?_⟩
  rw [← S.len, List.getElem?_append_right (Nat.le_refl _)]
  simp
theorem Wt.allocL {l : List T} {vs : List V} (h : Wt W ew (kvV W Q) ι H (Ev.alloc (MO.lst l) m)) (S : Sim W ι m H) (r : Reps W ι H l vs) {p : Addr} (hp : H p = Option.none) :
    Q (.ref p) (upd H p (.lst vs)) := h.alloc S hp fun c => ⟨vs, upd_same, Reps.carry c _ _ r⟩
/-- a new tuple -/
theorem Wt.newT {l : List T} {vs : List V} (h : Wt W ew (kvV W Q) ι H (Ev.ret (.tup l) m)) (S : Sim W ι m H) (r : Reps W ι H l vs) {p : Addr} (hp : H p = Option.none) :
    Q (.ref p) (upd H p (.tup vs)) := by
  obtain ⟨S1, x1⟩ := S.out (o := .tup vs) hp
  refine h.ret' S1 x1 (.ref p) ?_
  simp only [Rep]
  exact ⟨p, vs, rfl, .inl (.inl upd_same), Reps.mono S x1 r⟩
end

theorem small_le {n : Nat} (h : small n = true) : n ≤ sizeLine := by
  rw [sizeLine_eq]
  have := of_decide_eq_true h
  omega
theorem small_lt {n : Nat} (h : small n = true) : n < sizeLine := by
  rw [sizeLine_eq]
  have := of_decide_eq_true h
  omega

/-! ### a truth less a truth -/
theorem gives_sub_bb (a b : Bool) : Gives (Builtin.«int.__sub__» ⟨[.bool a, .bool b], []⟩) (.int ((if a = true then (1 : Int) else 0) - (if b = true then (1 : Int) else 0))) :=
  .of_wp fun M A E s Q h => by obtain ⟨hp, g, d, tk, os⟩ := s; wp_walk; exact ⟨_, rfl, h⟩
theorem sub_bool_bool {prog : Program} {w : World} {A : Around} {E : Value → Shared → Prop} {s : Shared} {Q : Value → Shared → Prop} {a b : Bool}
    (h : Q (.int ((if a = true then (1 : Int) else 0) - (if b = true then (1 : Int) else 0)) s.toks) { s with toks := s.toks + 1 }) :
    wpAny (model prog w) A (binaryOp .Sub (.bool a) (.bool b)) Q E s :=
  binaryOp_gives (op := .Sub) (T := "bool") rfl rfl F.fills_bool_sub F.slot_bool_sub F.entry_int_sub (F.args_int_sub_2 _ _) (gives_sub_bb a b) trivial h

/-! ### an operation by plain values -/
abbrev _root_.L2.Cx.wo (X : Cx) (fa : Ad) : Wo := ⟨X.prog, X.w, X.K, fa⟩
/-- a two-place operation -/
def rT (W : Wo) (f : T → T → Mem → Rm T) : R2 := fun x y H Q =>
  ∃ ew ι m t u, Sim W ι m H ∧ Rep W ι H t x ∧ Rep W ι H u y ∧ Wt W ew (kvV W Q) ι H (f t u m)
def BOp.op : BOp → Operator
  | .add => .Add | .sub => .Sub | .mul => .Mult | .fdiv => .FloorDiv | .mod => .Mod | .pow => .Pow | .shl => .LShift | .band => .BitAnd

section
variable {X : Cx} {fa : Ad}
theorem rep_int {W : Wo} {ι : List Addr} {H : Hp} {i : Int} {v : V} : Rep W ι H (.int i) v ↔ v = .int i := by simp only [Rep]
theorem rep_bl {W : Wo} {ι : List Addr} {H : Hp} {b : Bool} {v : V} : Rep W ι H (.bl b) v ↔ v = .bl b := by simp only [Rep]
theorem rep_str {W : Wo} {ι : List Addr} {H : Hp} {b : Str} {v : V} : Rep W ι H (.str b) v ↔ v = .str b := by simp only [Rep]
theorem rep_non {W : Wo} {ι : List Addr} {H : Hp} {v : V} : Rep W ι H .non v ↔ v = .non := by simp only [Rep]
theorem rep_tup {W : Wo} {ι : List Addr} {H : Hp} {l : List T} {v : V} : Rep W ι H (.tup l) v ↔ ∃ a vs, v = .ref a ∧ SqT W.K H a vs ∧ Reps W ι H l vs := by simp only [Rep]
theorem rep_ro {W : Wo} {ι : List Addr} {H : Hp} {l : List T} {v : V} : Rep W ι H (.ro l) v ↔ ∃ a vs, v = .ref a ∧ Ro W.K H a vs ∧ Reps W ι H l vs := by simp only [Rep]
theorem rep_ref {W : Wo} {ι : List Addr} {H : Hp} {n : Nat} {v : V} : Rep W ι H (.ref n) v ↔ ∃ a, v = .ref a ∧ ι[n]? = some a := by simp only [Rep]
/-- a list of the memory as it stands in the heap -/
theorem Sim.lst {W : Wo} {ι : List Addr} {H : Hp} {m : Mem} (S : Sim W ι m H) {n : Nat} {v : V} {l : List T} (r : Rep W ι H (.ref n) v) (e : m[n]? = some (.lst l)) :
    ∃ a vs, v = .ref a ∧ ι[n]? = some a ∧ H a = some (.lst vs) ∧ Reps W ι H l vs := by
  obtain ⟨a, rfl, h⟩ := rep_ref.mp r
  obtain ⟨vs, h1, h2⟩ := S.ob n a _ h e
  exact ⟨a, vs, rfl, h, h1, h2⟩
/-- a sequence as it stands in the heap -/
theorem Sim.seq {W : Wo} {ι : List Addr} {H : Hp} {m : Mem} (S : Sim W ι m H) {t : T} {v : V} {l : List T} (r : Rep W ι H t v) (e : seqOf m t = some l) :
    ∃ a vs, v = .ref a ∧ Reps W ι H l vs ∧ ((SqT W.K H a vs ∧ t = .tup l) ∨ (SqL W.K H a vs ∧ ((t = .ro l ∧ Ro W.K H a vs) ∨ ∃ n, t = .ref n ∧ m[n]? = some (.lst l)))) := by
  cases t with
  | tup l' =>
    simp only [seqOf, Option.some.injEq] at e
    subst e
    obtain ⟨a, vs, rfl, h1, h2⟩ := rep_tup.mp r
    exact ⟨a, vs, rfl, h2, .inl ⟨h1, rfl⟩⟩
  | ro l' =>
    simp only [seqOf, Option.some.injEq] at e
    subst e
    obtain ⟨a, vs, rfl, h1, h2⟩ := rep_ro.mp r
    exact ⟨a, vs, rfl, h2, .inr ⟨h1.1, .inl ⟨rfl, h1⟩⟩⟩
  | ref n =>
    simp only [seqOf] at e
    split at e
    · rename_i l' h
      cases e
      obtain ⟨a, vs, rfl, _, h1, h2⟩ := S.lst r h
      exact ⟨a, vs, rfl, h2, .inr ⟨.inl (.inl h1), .inr ⟨n, rfl, h⟩⟩⟩
    · cases e
  | _ => simp [seqOf] at e

theorem op_bin (op : BOp) : OpR X (binaryOp op.op) (rT (X.wo fa) (binop op)) := by
  intro pins s σ H x y v u Q I rx ry h
  obtain ⟨ew, ι, m, t, w, S, rt, rw', h⟩ := h
  unfold binop at h
  split at h
  · -- int + int
    rw [rep_int.mp rt] at rx; rw [rep_int.mp rw'] at ry
    exact op_add pins s σ H _ _ v u Q I rx ry ⟨_, _, rfl, rfl, h.ret S _ (rep_int.mpr rfl)⟩
  · -- tuple + tuple
    obtain ⟨a, vs, rfl, h1, r1⟩ := rep_tup.mp rt
    obtain ⟨b, ws, rfl, h2, r2⟩ := rep_tup.mp rw'
    obtain ⟨hz, h⟩ := h.guard
    have hl : vs.length + ws.length ≤ sizeLine := by rw [← r1.length, ← r2.length]; exact small_le hz
    refine op_catA pins s σ H _ _ v u Q I rx ry ⟨a, b, vs, ws, rfl, rfl, h1, h2, hl, fun e => ?_, fun _ e => ?_, fun _ _ p hp => ?_⟩
    · have z := r1.length; rw [e] at z
      have z2 := List.length_eq_zero_iff.mp z
      subst z2
      exact h.ret S _ (rep_tup.mpr ⟨b, ws, rfl, h2, r2⟩)
    · have z := r2.length; rw [e] at z
      have z2 := List.length_eq_zero_iff.mp z
      subst z2
      exact h.ret S _ (rep_tup.mpr ⟨a, vs, rfl, h1, by rw [List.append_nil]; exact r1⟩)
    · exact h.newT S (r1.append r2) hp
  · -- text + text
    rw [rep_str.mp rt] at rx; rw [rep_str.mp rw'] at ry
    obtain ⟨hz, h⟩ := h.guard
    exact op_add_str pins s σ H _ _ v u Q I rx ry ⟨_, _, rfl, rfl, small_le hz, h.ret S _ (rep_str.mpr rfl)⟩
  · -- list + list
    split at h
    · rename_i e1 e2
      obtain ⟨hz, h⟩ := h.guard
      obtain ⟨a, vs, rfl, _, h1, r1⟩ := S.lst rt e1
      obtain ⟨b, ws, rfl, _, h2, r2⟩ := S.lst rw' e2
      have hl : vs.length + ws.length ≤ sizeLine := by rw [← r1.length, ← r2.length]; exact small_le hz
      exact op_cat pins s σ H _ _ v u Q I rx ry ⟨a, b, vs, ws, rfl, rfl, h1, h2, hl, fun p hp => h.allocL S (r1.append r2) hp⟩
    · exact h.none.elim
  · -- int - int
    rw [rep_int.mp rt] at rx; rw [rep_int.mp rw'] at ry
    exact op_sub pins s σ H _ _ v u Q I rx ry ⟨_, _, rfl, rfl, h.ret S _ (rep_int.mpr rfl)⟩
  · -- bool - bool
    rw [rep_bl.mp rt] at rx; rw [rep_bl.mp rw'] at ry
    cases rx; cases ry
    exact sub_bool_bool ⟨.int _, H, I.tok _, ⟨_, rfl⟩, h.ret S _ (rep_int.mpr rfl)⟩
  · -- int * int
    rw [rep_int.mp rt] at rx; rw [rep_int.mp rw'] at ry
    obtain ⟨hz, h⟩ := h.guard
    exact (opI (C := IntMulOk) fun _ _ _ _ _ _ _ hc q => PyProof.Rows.mul_int q hc) pins s σ H _ _ v u Q I rx ry ⟨_, _, rfl, rfl, mulOk_ok hz, h.ret S _ (rep_int.mpr rfl)⟩
  · -- list * int
    split at h
    · rename_i e1
      obtain ⟨hz, h⟩ := h.guard
      simp only [Bool.and_eq_true, decide_eq_true_eq] at hz
      obtain ⟨⟨hj, hz⟩, hk⟩ := hz
      obtain ⟨a, vs, rfl, _, h1, r1⟩ := S.lst rt e1
      rw [rep_int.mp rw'] at ry
      have hk' := of_decide_eq_true hk
      refine op_rep pins s σ H _ _ v u Q I rx ry ⟨a, _, vs, rfl, rfl, h1, by omega, by omega, by rw [← r1.length]; exact small_le hz, fun p hp => h.allocL S ?_ hp⟩
      generalize Int.toNat _ = n
      induction n with
      | zero => exact Reps.nil
      | succ n ih => rw [List.replicate_succ, List.replicate_succ, List.flatten_cons, List.flatten_cons]; exact r1.append ih
    · exact h.none.elim
  · -- int // int
    rw [rep_int.mp rt] at rx; rw [rep_int.mp rw'] at ry
    obtain ⟨hz, h⟩ := h.guard
    simp only [divOk, Bool.and_eq_true, decide_eq_true_eq] at hz
    exact op_fdivW pins s σ H _ _ v u Q I rx ry ⟨_, _, rfl, rfl, hz, h.ret S _ (rep_int.mpr rfl)⟩
  · -- int % int
    rw [rep_int.mp rt] at rx; rw [rep_int.mp rw'] at ry
    obtain ⟨hz, h⟩ := h.guard
    exact op_mod pins s σ H _ _ v u Q I rx ry ⟨_, _, rfl, rfl, of_decide_eq_true hz, h.ret S _ (rep_int.mpr rfl)⟩
  · -- int ** int
    rw [rep_int.mp rt] at rx; rw [rep_int.mp rw'] at ry
    obtain ⟨hz, h⟩ := h.guard
    simp only [powOk, Bool.and_eq_true, decide_eq_true_eq] at hz
    exact op_pow pins s σ H _ _ v u Q I rx ry ⟨_, _, rfl, rfl, ⟨hz.1.1, by omega, by omega⟩, h.ret S _ (rep_int.mpr rfl)⟩
  · -- int << int
    rw [rep_int.mp rt] at rx; rw [rep_int.mp rw'] at ry
    obtain ⟨hz, h⟩ := h.guard
    simp only [powOk, Bool.and_eq_true, decide_eq_true_eq] at hz
    exact op_shl pins s σ H _ _ v u Q I rx ry ⟨_, _, rfl, rfl, ⟨hz.1.1, by omega, by omega⟩, h.ret S _ (rep_int.mpr rfl)⟩
  · -- int & int
    rw [rep_int.mp rt] at rx; rw [rep_int.mp rw'] at ry
    exact op_and pins s σ H _ _ v u Q I rx ry ⟨_, _, rfl, rfl, h.ret S _ (rep_int.mpr rfl)⟩
  · exact h.none.elim
end
end Ev
end
section
set_option linter.all false
set_option maxRecDepth 10000
/-! Ev5: comparisons, places, slices, dicts. -/
namespace Ev
open PySem PySem.Spec PyProof.Rows L2
section
variable {W : Wo} {ι ι' : List Addr} {H H' : Hp} {m : Mem}
theorem Reps.cons_iff {t : T} {ts : List T} {vs : List V} : Reps W ι H (t :: ts) vs ↔ ∃ v r, vs = v :: r ∧ Rep W ι H t v ∧ Reps W ι H ts r := by simp only [Reps]
theorem Reps.nil_iff {vs : List V} : Reps W ι H [] vs ↔ vs = [] := by simp only [Reps]
theorem Reps.one' {t : T} {vs : List V} (h : Reps W ι H [t] vs) : ∃ v, vs = [v] ∧ Rep W ι H t v := by
  obtain ⟨v, r, rfl, h1, h2⟩ := Reps.cons_iff.mp h
  rw [Reps.nil_iff.mp h2]
  exact ⟨v, rfl, h1⟩
theorem Reps.two' {t u : T} {vs : List V} (h : Reps W ι H [t, u] vs) : ∃ v w, vs = [v, w] ∧ Rep W ι H t v ∧ Rep W ι H u w := by
  obtain ⟨v, r, rfl, h1, h2⟩ := Reps.cons_iff.mp h
  obtain ⟨w, rfl, h3⟩ := Reps.one' h2
  exact ⟨v, w, rfl, h1, h3⟩
theorem Reps.nil' {vs : List V} (h : Reps W ι H [] vs) : vs = [] := Reps.nil_iff.mp h

/-! ### values as data -/
mutual
theorem dpR {rf : Nat → Option T} (hr : ∀ k d v, rf k = some d → Rep W ι H (.ref k) v → Dp W.K H v (toPy d)) : ∀ (t d : T) (v : V), deepR rf t = some d → Rep W ι H t v → Dp W.K H v (toPy d)
  | .non, d, v, e, h => by
    simp only [deepR, Option.some.injEq] at e; subst e
    rw [rep_non.mp h]; simp only [toPy]; exact .non
  | .bl b, d, v, e, h => by
    simp only [deepR, Option.some.injEq] at e; subst e
    rw [rep_bl.mp h]; simp only [toPy]; exact .bl b
  | .int b, d, v, e, h => by
    simp only [deepR, Option.some.injEq] at e; subst e
    rw [rep_int.mp h]; simp only [toPy]; exact .int b
  | .str b, d, v, e, h => by
    simp only [deepR, Option.some.injEq] at e; subst e
    rw [rep_str.mp h]; simp only [toPy]; exact .str b
  | .tup l, d, v, e, h => by
    simp only [deepR, Option.map_eq_some_iff] at e
    obtain ⟨ds, e, rfl⟩ := e
    obtain ⟨a, vs, rfl, h1, h2⟩ := rep_tup.mp h
    simp only [toPy]
    exact .tup h1 (dpRs hr l ds vs e h2)
  | .ro l, d, v, e, h => by
    simp only [deepR, Option.map_eq_some_iff] at e
    obtain ⟨ds, e, rfl⟩ := e
    obtain ⟨a, vs, rfl, h1, h2⟩ := rep_ro.mp h
    simp only [toPy]
    exact .lst h1.1 (dpRs hr l ds vs e h2)
  | .ref k, d, v, e, h => by
    simp only [deepR] at e
    exact hr k d v e h
  | .lst _, _, _, e, _ => by simp [deepR] at e
  | .fn _, _, _, e, _ => by simp [deepR] at e
  | .rep _, _, _, e, _ => by simp [deepR] at e
theorem dpRs {rf : Nat → Option T} (hr : ∀ k d v, rf k = some d → Rep W ι H (.ref k) v → Dp W.K H v (toPy d)) : ∀ (ts ds : List T) (vs : List V), deepsR rf ts = some ds → Reps W ι H ts vs → DpAll W.K H vs (toPys ds)
  | [], ds, vs, e, h => by
    simp only [deepsR, Option.some.injEq] at e; subst e
    rw [Reps.nil_iff.mp h]; simp only [toPys]; exact .nil
  | t :: ts, ds, vs, e, h => by
    simp only [deepsR] at e
    obtain ⟨v, r, rfl, h1, h2⟩ := Reps.cons_iff.mp h
    split at e
    · rename_i a b e1 e2
      cases e
      simp only [toPys]
      exact .cons (dpR hr t a v e1 h1) (dpRs hr ts b r e2 h2)
    · cases e
end
theorem dp_rf (S : Sim W ι m H) : ∀ (n k : Nat) (d : T) (v : V), rfN m n k = some d → Rep W ι H (.ref k) v → Dp W.K H v (toPy d)
  | 0, _, _, _, e, _ => by simp [rfN] at e
  | n + 1, k, d, v, e, h => by
    simp only [rfN] at e
    split at e
    · rename_i l hl
      simp only [Option.map_eq_some_iff] at e
      obtain ⟨ds, e, rfl⟩ := e
      obtain ⟨a, vs, rfl, _, h1, r⟩ := S.lst h hl
      simp only [toPy]
      exact .lst (.of h1) (dpRs (dp_rf S n) l ds vs e r)
    · cases e
theorem Sim.dp (S : Sim W ι m H) {t d : T} {v : V} (e : deep m t = some d) (r : Rep W ι H t v) : Dp W.K H v (toPy d) := dpR (dp_rf S 4) t d v e r

/-! ### dicts -/
variable {κ β : Type} [DecidableEq κ]
theorem look_rel {fk : β → κ} {fv : β → V} : ∀ (kvs : List (κ × T)) (xs : List β), xs.map fk = kvs.map (·.1) → Reps W ι H (kvs.map (·.2)) (xs.map fv) → ∀ k : κ,
    (∀ t, look kvs k = some t → ∃ v, (xs.find? fun x => decide (fk x = k)).map fv = some v ∧ Rep W ι H t v) ∧ (look kvs k = none → (xs.find? fun x => decide (fk x = k)).map fv = none)
  | [], xs, e, _, k => by
    have z : xs = [] := by simpa using e
    subst z
    exact ⟨fun t h => by simp [look] at h, fun _ => rfl⟩
  | (a, t) :: kvs, [], e, _, k => by simp at e
  | (a, t) :: kvs, x :: xs, e, r, k => by
    simp only [List.map_cons, List.cons.injEq] at e
    obtain ⟨e1, e2⟩ := e
    obtain ⟨v, r', q, h1, h2⟩ := Reps.cons_iff.mp (show Reps W ι H (t :: kvs.map (·.2)) (fv x :: xs.map fv) from r)
    simp only [List.cons.injEq] at q
    obtain ⟨q1, q2⟩ := q
    subst q1 q2
    have ih := look_rel kvs xs e2 h2 k
    by_cases z : a = k
    · have z' : fk x = k := e1.trans z
      have l1 : look ((a, t) :: kvs) k = some t := by simp [look, List.find?_cons, z]
      have l2 : ((x :: xs).find? fun x => decide (fk x = k)).map fv = some (fv x) := by simp [List.find?_cons, z']
      rw [l1, l2]
      exact ⟨fun u hu => by cases hu; exact ⟨_, rfl, h1⟩, fun hu => by cases hu⟩
    · have z' : ¬ fk x = k := fun q => z (e1.symm.trans q)
      have l1 : look ((a, t) :: kvs) k = look kvs k := by simp [look, List.find?_cons, z]
      have l2 : ((x :: xs).find? fun x => decide (fk x = k)).map fv = (xs.find? fun x => decide (fk x = k)).map fv := by simp [List.find?_cons, z']
      rw [l1, l2]
      exact ih
theorem any_keys {fk : β → κ} {kvs : List (κ × T)} {xs : List β} (e : xs.map fk = kvs.map (·.1)) (k : κ) : (xs.any fun x => decide (fk x = k)) = kvs.any fun kv => decide (kv.1 = k) := by
  have h1 : (xs.any fun x => decide (fk x = k)) = (xs.map fk).any fun y => decide (y = k) := by rw [List.any_map]; rfl
  have h2 : (kvs.any fun x => decide (x.1 = k)) = (kvs.map (·.1)).any fun y => decide (y = k) := by rw [List.any_map]; rfl
  rw [h1, h2, e]
/-- a new value at a key: up replaces, nw is new -/
theorem put_rel {fk : β → κ} {fv : β → V} {kvs : List (κ × T)} {xs : List β} (e : xs.map fk = kvs.map (·.1)) (r : Reps W ι H (kvs.map (·.2)) (xs.map fv)) {k : κ} {t : T} {v : V} (rv : Rep W ι H t v)
    {up : β → β} {nw : β} (u1 : ∀ x, fk (up x) = fk x) (u2 : ∀ x, fv (up x) = v) (n1 : fk nw = k) (n2 : fv nw = v) {xs' : List β}
    (hx : xs' = if xs.any fun x => decide (fk x = k) then xs.map fun x => if fk x = k then up x else x else xs ++ [nw]) :
    xs'.map fk = (put kvs k t).map (·.1) ∧ Reps W ι H ((put kvs k t).map (·.2)) (xs'.map fv) := by
  subst hx
  unfold put
  rw [any_keys e k]
  by_cases q : (kvs.any fun kv => decide (kv.1 = k)) = true
  · rw [if_pos q, if_pos q]
    clear q
    induction kvs generalizing xs with
    | nil =>
      have z : xs = [] := by simpa using e
      subst z
      exact ⟨rfl, Reps.nil⟩
    | cons p kvs ih =>
      cases xs with
      | nil => simp at e
      | cons x xs =>
        simp only [List.map_cons, List.cons.injEq] at e
        obtain ⟨e1, e2⟩ := e
        obtain ⟨v', r', q, h1, h2⟩ := Reps.cons_iff.mp (show Reps W ι H (p.2 :: kvs.map (·.2)) (fv x :: xs.map fv) from r)
        simp only [List.cons.injEq] at q
        obtain ⟨q1, q2⟩ := q
        subst q1 q2
        obtain ⟨i1, i2⟩ := ih e2 h2
        simp only [List.map_cons]
        by_cases z : p.1 = k
        · have z' : fk x = k := e1.trans z
          rw [if_pos z, if_pos z', i1]
          exact ⟨by rw [u1, e1], Reps.cons (by rw [u2]; exact rv) i2⟩
        · have z' : ¬ fk x = k := fun q => z (e1.symm.trans q)
          rw [if_neg z, if_neg z', i1]
          exact ⟨by rw [e1], Reps.cons h1 i2⟩
  · rw [if_neg q, if_neg q]
    simp only [List.map_append, List.map_cons, List.map_nil, e, n1, n2, true_and]
    exact r.append (Reps.one rv)
theorem put_nodup {α : Type} {kvs : List (κ × α)} (h : (kvs.map (·.1)).Nodup) (k : κ) (v : α) : ((put kvs k v).map (·.1)).Nodup := by
  unfold put
  by_cases q : (kvs.any fun kv => decide (kv.1 = k)) = true
  · rw [if_pos q]
    have e : (kvs.map fun kv => if kv.1 = k then (kv.1, v) else kv).map (·.1) = kvs.map (·.1) := by
      rw [List.map_map]
      apply List.map_congr_left
      intro x _
      simp only [Function.comp]
      split <;> rfl
    rw [e]; exact h
  · rw [if_neg q]
    rw [List.map_append, List.nodup_append]
    refine ⟨h, by simp, fun a ha b hb => ?_⟩
    simp only [List.map_cons, List.map_nil, List.mem_singleton] at hb
    subst hb
    intro z
    subst z
    apply q
    rw [List.any_eq_true]
    obtain ⟨x, hx, e⟩ := List.mem_map.mp ha
    exact ⟨x, hx, decide_eq_true e⟩
theorem keyOf_rep {t : T} {k : Key} {v : V} (e : keyOf t = some k) (r : Rep W ι H t v) : v = kV k := by
  cases t <;> simp [keyOf] at e
  · subst e; rw [rep_int.mp r]; rfl
  · subst e; rw [rep_str.mp r]; rfl
theorem keysOf_rep : ∀ {l : List T} {k : List Key} {vs : List V}, keysOf l = some k → Reps W ι H l vs → vs = k.map kV
  | [], k, vs, e, r => by
    simp only [keysOf, Option.some.injEq] at e; subst e
    exact Reps.nil_iff.mp r
  | t :: l, k, vs, e, r => by
    simp only [keysOf] at e
    obtain ⟨v, r', rfl, h1, h2⟩ := Reps.cons_iff.mp r
    split at e
    · rename_i k1 ks e1 e2
      cases e
      rw [List.map_cons, keyOf_rep e1 h1, keysOf_rep e2 h2]
    · cases e
end

/-! ### a dict of tuple keys in the heap -/
section
variable {X : Cx} {pins : List (Addr × Obj)} {σ : L2.St} {H : Hp} {s : Shared} {a b : Addr} {A : Around} {E : Value → Shared → Prop}
theorem keyX (I : Inv X pins σ H s) {k : List Key} (h : SqT X.K H b (k.map kV)) : (tupleKind (mixKind X.prog X.w)).is s.heap k b := by
  obtain ⟨its, r, ⟨o, h1, h2, n, h3⟩, _⟩ := I.tuple h
  exact ⟨o, its.toArray, n, h1, h2, h3, by simpa using items_are r⟩
abbrev XU : List XE → List (List Key × Addr × Value) → Prop := Paired fun p q => p.1 = q.1 ∧ p.2.1 = q.2.1 ∧ RelV p.2.2 q.2.2
theorem rdX (I : Inv X pins σ H s) {xs : List XE} (h : Rd H a (dX X.prog X.w a xs)) (hk : ∀ x ∈ xs, SqT X.K H x.2.1 (x.1.map kV)) :
    xs.length ≤ sizeLine ∧ (a == sysModules) = false ∧ ∃ us, XU xs us ∧ s.heap.DictOfH (tupleKind (mixKind X.prog X.w)) a us := by
  obtain ⟨⟨z, y, us, r, o, es, ep, h1, h2, h3, h4, h5⟩, st⟩ := (show ObjOk X.prog X.w H s.heap a (.ext (dXφ X.prog X.w a xs)) from h.ok I.hok)
  refine ⟨z, y, us, r, o, es, ep, h1, h2, h3, h4, ?_, h5⟩
  clear h4 h5 z h st
  induction r with
  | nil => intro x hx; cases hx
  | @cons p q ps qs hq t ih =>
    intro x hx
    rcases List.mem_cons.mp hx with rfl | hx
    · rw [← hq.1, ← hq.2.1]
      exact keyX I (hk p (List.mem_cons_self ..))
    · exact ih (fun x hx => hk x (List.mem_cons_of_mem _ hx)) x hx
theorem xu_find {xs : List XE} {us : List (List Key × Addr × Value)} (r : XU xs us) (k : List Key) : RelO ((xs.find? fun x => decide (x.1 = k)).map (·.2.2)) ((atKey us k).map (·.2)) := by
  induction r with
  | nil => exact True.intro
  | @cons p q ps qs h t ih =>
    obtain ⟨h1, h2, h3⟩ := h
    by_cases e : p.1 = k
    · have e' : q.1 = k := h1.symm.trans e
      have b : atKey (q :: qs) k = some q.2 := by simp [atKey, List.find?_cons, e']
      have b2 : ((p :: ps).find? fun x => decide (x.1 = k)).map (·.2.2) = some p.2.2 := by simp [List.find?_cons, e]
      rw [b, b2]; exact h3
    · have e' : ¬ q.1 = k := fun z => e (h1.trans z)
      have b : atKey (q :: qs) k = atKey qs k := by simp [atKey, List.find?_cons, e']
      have b2 : ((p :: ps).find? fun x => decide (x.1 = k)).map (·.2.2) = (ps.find? fun x => decide (x.1 = k)).map (·.2.2) := by simp [List.find?_cons, e]
      rw [b, b2]; exact ih
def putX (xs : List XE) (k : List Key) (b : Addr) (v : V) : List XE :=
  if xs.any fun x => decide (x.1 = k) then xs.map fun x => if x.1 = k then (x.1, x.2.1, v) else x else xs ++ [(k, b, v)]
theorem xu_put {xs : List XE} {us : List (List Key × Addr × Value)} (r : XU xs us) (k : List Key) {v : V} {u : Value} (rv : RelV v u) : XU (putX xs k b v) (storedH us k b u) := by
  have e : (xs.any fun kv => decide (kv.1 = k)) = (atKey us k).isSome := by
    induction r with
    | nil => rfl
    | @cons p q ps qs h t ih =>
      by_cases z : p.1 = k
      · have z' : q.1 = k := h.1.symm.trans z
        simp [atKey, List.find?_cons, z, z']
      · have z' : ¬ q.1 = k := fun y => z (h.1.trans y)
        simp only [List.any_cons, decide_eq_false z, Bool.false_or, ih]
        simp [atKey, List.find?_cons, z']
  unfold putX storedH
  rw [e]
  by_cases q : (atKey us k).isSome = true
  · rw [if_pos q, if_pos q]
    clear e q
    induction r with
    | nil => exact .nil
    | @cons p q ps qs h t ih =>
      rw [List.map_cons, List.map_cons]
      refine .cons ?_ ih
      obtain ⟨h1, h2, h3⟩ := h
      unfold putAt
      by_cases e : p.1 = k
      · rw [if_pos e, if_pos (h1.symm.trans e)]; exact ⟨h1, h2, rv⟩
      · rw [if_neg e, if_neg (fun z => e (h1.trans z))]; exact ⟨h1, h2, h3⟩
  · rw [if_neg q, if_neg q]; exact Paired.snoc r ⟨rfl, rfl, rv⟩
theorem length_putX (xs : List XE) (k : List Key) (b : Addr) (v : V) : (putX xs k b v).length ≤ xs.length + 1 := by
  unfold putX
  split
  · rw [List.length_map]; omega
  · rw [List.length_append]; exact Nat.le_refl _
theorem dX_ok {P : Program} {w : World} {H' : Hp} {h' : Heap} {xs : List XE} {us : List (List Key × Addr × Value)} (z : xs.length ≤ sizeLine) (y : (a == sysModules) = false) (r : XU xs us) (d : h'.DictOfH (tupleKind (mixKind P w)) a us) :
    ObjOk P w H' h' a (dX P w a xs) := by
  obtain ⟨o, es, ep, h1, h2, h3, h4, _, h5⟩ := d
  refine ⟨⟨z, y, us, r, o, es, ep, h1, h2, h3, h4, h5⟩, ⟨o, h1⟩, ?_⟩
  rintro g1 g2 ⟨z, y, us, r, o, es, ep, h1, h2, h3, h4, h5⟩ k
  exact ⟨z, y, us, r, o, es, ep, k o h1, h2, h3, h4, h5⟩
theorem xX_put {xs : List XE} {k : List Key} {v : V} {rv : Value} {Q : Unit → Shared → Prop} (hu : A.units + 1 < cLine) (I : Inv X pins σ H s) (h : H a = some (dX X.prog X.w a xs)) (hk : ∀ x ∈ xs, SqT X.K H x.2.1 (x.1.map kV))
    (hb : SqT X.K H b (k.map kV)) (rr : RelV v rv) (hl : xs.length < sizeLine) (hQ : ∀ s', Inv X pins σ (upd H a (dX X.prog X.w a (putX xs k b v))) s' → Q () s') :
    wpAny (model X.prog X.w) A (setItem (.ref a) (.ref b) rv) Q E s := by
  obtain ⟨z, hd, us, rel, dd⟩ := rdX I (.inl h) hk
  have hz : us.length ≤ sizeLine := by rw [← Paired.length rel]; exact z
  have hl' : (putX xs k b v).length ≤ sizeLine := by have := length_putX xs k b v; omega
  refine wpAny_setItem_heap (hsz := hz) (tupleKind_room_in1 hu) (keyX I hb) dd fun h' dd' hs => hQ _ ?_
  have he : ∃ q, h'.get? a = some q := let ⟨q, _, _, hq, _⟩ := dd'; ⟨q, hq⟩
  exact d_write I (by rw [h]; exact True.intro) hs he (dX_ok hl' hd (xu_put rel k rr) dd')
end
end Ev
end
section
set_option linter.all false
set_option maxRecDepth 10000
/-! Ev6: comparisons, places, slices, repr, sorted. -/
namespace Ev
open PySem PySem.Spec PyProof.Rows L2
def COp.op : COp → CmpOp
  | .eq => .Eq | .ne => .NotEq | .lt => .Lt | .le => .LtE | .gt => .Gt | .ge => .GtE | .in_ => .In | .nin => .NotIn
section
variable {X : Cx} {fa : Ad}
theorem Wt.optb {W : Wo} {ew : EW} {kv : T → List Addr → Hp → Prop} {ι : List Addr} {H : Hp} {m : Mem} {o : Option Bool} (h : Wt W ew kv ι H (Ev.opt (o.map .bl) m)) : ∃ b, o = some b ∧ Wt W ew kv ι H (Ev.ret (.bl b) m) := by
  cases o with
  | none => exact h.none.elim
  | some b => exact ⟨b, rfl, h⟩
/-- equal as data -/
theorem eqOp_deep {m : Mem} {a b : T} {r : Bool} (e : eqOp m a b = some r) :
    (∃ t, a = .rep t ∧ b = .rep t ∧ r = true) ∨ (∃ x y, a = .str x ∧ b = .str y ∧ r = decide (x = y)) ∨ ∃ a' b', deep m a = some a' ∧ deep m b = some b' ∧ T.flat a' = true ∧ T.flat b' = true ∧ r = T.eqv a' b' := by
  unfold eqOp at e
  split at e
  · split at e
    · rename_i h
      cases e
      exact .inl ⟨_, rfl, by rw [T.eq_of_beq h], rfl⟩
    · cases e
  · cases e; exact .inr (.inl ⟨_, _, rfl, rfl, rfl⟩)
  · split at e
    · rename_i a' b' h1 h2
      split at e
      · rename_i h
        cases e
        rw [Bool.and_eq_true] at h
        exact .inr (.inr ⟨a', b', h1, h2, h.1, h.2, rfl⟩)
      · cases e
    · cases e
theorem op_eqT (hu : X.A.units + 64 < cLine) : OpR X (compareOp .Eq) (rT (X.wo fa) fun a b m => opt ((cmpop .eq a b m).map .bl) m) := by
  intro pins s σ H x y v u Q I rx ry h
  obtain ⟨ew, ι, m, t, w, S, rt, rw', h⟩ := h
  obtain ⟨r, e, h⟩ := h.optb
  have q := h.ret S
  rcases eqOp_deep (show eqOp m t w = some r from e) with ⟨z, rfl, rfl, rfl⟩ | ⟨a, b, rfl, rfl, rfl⟩ | ⟨a, b, h1, h2, f1, f2, rfl⟩
  · simp only [Rep] at rt rw'
    subst rt rw'
    exact op_eq pins s σ H _ _ v u Q I rx ry ⟨rfl, by rw [decide_eq_true rfl]; exact q _ (rep_bl.mpr rfl)⟩
  · rw [rep_str.mp rt] at rx; rw [rep_str.mp rw'] at ry
    refine op_eq pins s σ H _ _ v u Q I rx ry ⟨rfl, ?_⟩
    rw [dec_str, Bool.beq_eq_decide_eq]
    exact q _ (rep_bl.mpr rfl)
  · exact op_eqD hu pins s σ H x y v u Q I rx ry ⟨_, _, S.dp h1 rt, S.dp h2 rw', f1, f2, q _ (rep_bl.mpr rfl)⟩
theorem op_neT (hu : X.A.units + 64 < cLine) : OpR X (compareOp .NotEq) (rT (X.wo fa) fun a b m => opt ((cmpop .ne a b m).map .bl) m) := by
  intro pins s σ H x y v u Q I rx ry h
  obtain ⟨ew, ι, m, t, w, S, rt, rw', h⟩ := h
  obtain ⟨r, e, h⟩ := h.optb
  have q := h.ret S
  obtain ⟨r, e', rfl⟩ := Option.map_eq_some_iff.mp (show (eqOp m t w).map (!·) = some r from e)
  rcases eqOp_deep e' with ⟨z, rfl, rfl, rfl⟩ | ⟨a, b, rfl, rfl, rfl⟩ | ⟨a, b, h1, h2, f1, f2, rfl⟩
  · simp only [Rep] at rt rw'
    subst rt rw'
    exact op_ne pins s σ H _ _ v u Q I rx ry ⟨rfl, by rw [decide_eq_true rfl]; exact q _ (rep_bl.mpr rfl)⟩
  · rw [rep_str.mp rt] at rx; rw [rep_str.mp rw'] at ry
    refine op_ne pins s σ H _ _ v u Q I rx ry ⟨rfl, ?_⟩
    rw [dec_str, Bool.beq_eq_decide_eq]
    exact q _ (rep_bl.mpr rfl)
  · exact op_neD hu pins s σ H x y v u Q I rx ry ⟨_, _, S.dp h1 rt, S.dp h2 rw', f1, f2, q _ (rep_bl.mpr rfl)⟩
theorem cmp_int {op : COp} {p : Int → Int → Bool} (hp : ∀ m a b, cmpop op a b m = match a, b with | .int i, .int j => some (p i j) | _, _ => none) {m : Mem} {a b : T} {r : Bool} (e : cmpop op a b m = some r) : ∃ i j, a = .int i ∧ b = .int j ∧ r = p i j := by
  rw [hp] at e
  split at e
  · cases e; exact ⟨_, _, rfl, rfl, rfl⟩
  · cases e
theorem cmp_le (m : Mem) (a b : T) : cmpop .le a b m = match a, b with | .int i, .int j => some (decide (i ≤ j)) | _, _ => none := by cases a <;> cases b <;> rfl
theorem cmp_gt (m : Mem) (a b : T) : cmpop .gt a b m = match a, b with | .int i, .int j => some (decide (j < i)) | _, _ => none := by cases a <;> cases b <;> rfl
theorem cmp_ge (m : Mem) (a b : T) : cmpop .ge a b m = match a, b with | .int i, .int j => some (decide (j ≤ i)) | _, _ => none := by cases a <;> cases b <;> rfl
theorem cmp_lt (m : Mem) (a b : T) : cmpop .lt a b m = match a, b with | .int i, .int j => some (decide (i < j)) | .tup i, .tup j => ltOp m (.tup i) (.tup j) | _, _ => none := by cases a <;> cases b <;> rfl
theorem cmp_in (m : Mem) (a b : T) : cmpop .in_ a b m = match b with | .ref n => (dgetOp m n a).map (·.isSome) | _ => none := by cases b <;> rfl
theorem cmp_nin (m : Mem) (a b : T) : cmpop .nin a b m = match b with | .ref n => (dgetOp m n a).map (!·.isSome) | _ => none := by cases b <;> rfl
theorem op_ltT' (hu : X.A.units + 64 < cLine) : OpR X (compareOp .Lt) (rT (X.wo fa) fun a b m => opt ((cmpop .lt a b m).map .bl) m) := by
  intro pins s σ H x y v u Q I rx ry h
  obtain ⟨ew, ι, m, t, w, S, rt, rw', h⟩ := h
  obtain ⟨r, e, h⟩ := h.optb
  have q := h.ret S
  rw [cmp_lt] at e
  split at e
  · cases e
    rw [rep_int.mp rt] at rx; rw [rep_int.mp rw'] at ry
    exact op_lt pins s σ H _ _ v u Q I rx ry ⟨_, _, rfl, rfl, q _ (rep_bl.mpr rfl)⟩
  · rename_i i j
    unfold ltOp at e
    split at e
    · rename_i a' b' h1 h2
      split at e
      · rename_i g
        cases e
        simp only [Bool.and_eq_true, decide_eq_true_eq] at g
        obtain ⟨⟨g1, g2⟩, g3⟩ := g
        obtain ⟨as, r1⟩ := Dp.reads I _ x v (S.dp h1 rt) rx
        obtain ⟨bs, r2⟩ := Dp.reads I _ y u (S.dp h2 rw') ry
        have hn : toPy a' ≠ .none := by
          obtain ⟨ds, _, rfl⟩ := Option.map_eq_some_iff.mp (show (deepsR (rfN m 4) i).map T.tup = some a' from by simpa [deep, deepR] using h1)
          simp [toPy]
        exact PySem.W.rcLt_alike _ _ X.A s v u as bs r1 r2 g1 hn (by have : PyData.depth (toPy a') ≤ 60 := g3; omega) X.prog X.w X.xe _ ⟨.bl _, H, I, rfl, q _ (rep_bl.mpr rfl)⟩
      · cases e
    · cases e
  · cases e
theorem op_leT' : OpR X (compareOp .LtE) (rT (X.wo fa) fun a b m => opt ((cmpop .le a b m).map .bl) m) := by
  intro pins s σ H x y v u Q I rx ry h
  obtain ⟨ew, ι, m, t, w, S, rt, rw', h⟩ := h
  obtain ⟨r, e, h⟩ := h.optb
  have q := h.ret S
  obtain ⟨i, j, rfl, rfl, rfl⟩ := cmp_int cmp_le e
  rw [rep_int.mp rt] at rx; rw [rep_int.mp rw'] at ry
  exact op_le pins s σ H _ _ v u Q I rx ry ⟨_, _, rfl, rfl, q _ (rep_bl.mpr rfl)⟩
theorem op_gtT' : OpR X (compareOp .Gt) (rT (X.wo fa) fun a b m => opt ((cmpop .gt a b m).map .bl) m) := by
  intro pins s σ H x y v u Q I rx ry h
  obtain ⟨ew, ι, m, t, w, S, rt, rw', h⟩ := h
  obtain ⟨r, e, h⟩ := h.optb
  have q := h.ret S
  obtain ⟨i, j, rfl, rfl, rfl⟩ := cmp_int cmp_gt e
  rw [rep_int.mp rt] at rx; rw [rep_int.mp rw'] at ry
  exact op_gt pins s σ H _ _ v u Q I rx ry ⟨_, _, rfl, rfl, q _ (rep_bl.mpr rfl)⟩
theorem op_geT' : OpR X (compareOp .GtE) (rT (X.wo fa) fun a b m => opt ((cmpop .ge a b m).map .bl) m) := by
  intro pins s σ H x y v u Q I rx ry h
  obtain ⟨ew, ι, m, t, w, S, rt, rw', h⟩ := h
  obtain ⟨r, e, h⟩ := h.optb
  have q := h.ret S
  obtain ⟨i, j, rfl, rfl, rfl⟩ := cmp_int cmp_ge e
  rw [rep_int.mp rt] at rx; rw [rep_int.mp rw'] at ry
  exact op_ge pins s σ H _ _ v u Q I rx ry ⟨_, _, rfl, rfl, q _ (rep_bl.mpr rfl)⟩
/-! ### dict access -/
/-- what a dict of the memory answers in the heap -/
def XGet (X : Cx) (H : Hp) (a : Addr) (y : V) (o : Option V) : Prop := DGet H a y o ∨
  ∃ xs k b, Rd H a (dX X.prog X.w a xs) ∧ (∀ x ∈ xs, SqT X.K H x.2.1 (x.1.map kV)) ∧ y = .ref b ∧ SqT X.K H b (k.map kV) ∧ o = (xs.find? fun x => decide (x.1 = k)).map (·.2.2)
theorem sim_get {ι : List Addr} {m : Mem} {H : Hp} (S : Sim (X.wo fa) ι m H) {n : Nat} {v kv : V} {k : T} {o : Option T} (r : Rep (X.wo fa) ι H (.ref n) v) (rk : Rep (X.wo fa) ι H k kv) (e : dgetOp m n k = some o) :
    ∃ a o', v = .ref a ∧ XGet X H a kv o' ∧ (∀ t, o = some t → ∃ w, o' = some w ∧ Rep (X.wo fa) ι H t w) ∧ (o = none → o' = none) := by
  obtain ⟨a, rfl, hn⟩ := rep_ref.mp r
  unfold dgetOp at e
  split at e
  · rename_i lk kvs hm
    obtain ⟨vs, h1, h2, h3, _⟩ := S.ob n a _ hn hm
    obtain ⟨k', hk, rfl⟩ := Option.map_eq_some_iff.mp e
    obtain ⟨l1, l2⟩ := look_rel (fk := fun x : Key × V => x.1) (fv := fun x : Key × V => x.2) kvs vs h2 h3 k'
    refine ⟨a, valV vs k', rfl, .inl (.inl ⟨vs, k', ?_, keyOf_rep hk rk, rfl⟩), l1, l2⟩
    cases lk with
    | true => exact .inr h1
    | false => exact .inl h1
  · rename_i lk kvs hm
    obtain ⟨xs, h1, h2, hk, h3, _⟩ := S.ob n a _ hn hm
    split at e
    · rename_i l
      obtain ⟨k', hk', rfl⟩ := Option.map_eq_some_iff.mp e
      obtain ⟨b, vs, rfl, hb, rs⟩ := rep_tup.mp rk
      obtain ⟨l1, l2⟩ := look_rel (fk := fun x : XE => x.1) (fv := fun x : XE => x.2.2) kvs xs h2 h3 k'
      rw [keysOf_rep hk' rs] at hb
      refine ⟨a, _, rfl, .inr ⟨xs, k', b, ?_, hk, rfl, hb, rfl⟩, l1, l2⟩
      cases lk with
      | true => exact .inr h1
      | false => exact .inl h1
    · cases e
  · cases e
section
variable {pins : List (Addr × Obj)} {σ : L2.St} {H : Hp} {s : Shared} {a : Addr} {y d : V} {u r : Value} {o : Option V} {A : Around} {E : Value → Shared → Prop}
theorem x_getItem {v : V} {Q : Value → Shared → Prop} (hu : A.units + 1 < cLine) (I : Inv X pins σ H s) (g : XGet X H a y (some v)) (ry : RelV y u) (h : ∀ w' s', Inv X pins σ H s' → RelV v w' → Q w' s') :
    wpAny (model X.prog X.w) A (getItem (.ref a) u) Q E s := by
  rcases g with g | ⟨xs, k, b, hx, hk, rfl, hb, e⟩
  · exact d_getItem hu I g ry h
  · cases ry
    obtain ⟨z, hd, us, rel, dd⟩ := rdX I hx hk
    have q := xu_find rel k
    rw [← e] at q
    obtain ⟨w', hw, rw'⟩ := RelO.some_of q
    obtain ⟨p, hp, rfl⟩ := Option.map_eq_some_iff.mp hw
    exact wpAny_getItem_heap (tupleKind_room_in1 hu) (keyX I hb) dd hp (h _ _ (I.tok _) rw')
theorem x_in {Q : Value → Shared → Prop} (hu : A.units + 1 < cLine) (I : Inv X pins σ H s) (g : XGet X H a y o) (ry : RelV y u) (h : ∀ s', Inv X pins σ H s' → Q (.bool o.isSome) s') :
    wpAny (model X.prog X.w) A (compareOp .In u (.ref a)) Q E s := by
  rcases g with g | ⟨xs, k, b, hx, hk, rfl, hb, e⟩
  · exact d_in hu I g ry h
  · cases ry
    obtain ⟨z, hd, us, rel, dd⟩ := rdX I hx hk
    refine wpAny_in_heap (tupleKind_room_in1 hu) (keyX I hb) hd dd ?_
    have q := (xu_find rel k).isSome_eq
    rw [← e, Option.isSome_map] at q
    rw [← q]
    exact h _ (I.tok _)
theorem x_notIn {Q : Value → Shared → Prop} (hu : A.units + 1 < cLine) (I : Inv X pins σ H s) (g : XGet X H a y o) (ry : RelV y u) (h : ∀ s', Inv X pins σ H s' → Q (.bool (!o.isSome)) s') :
    wpAny (model X.prog X.w) A (compareOp .NotIn u (.ref a)) Q E s := by
  rcases g with g | ⟨xs, k, b, hx, hk, rfl, hb, e⟩
  · exact d_notIn hu I g ry h
  · cases ry
    obtain ⟨z, hd, us, rel, dd⟩ := rdX I hx hk
    refine wpAny_notIn_heap (tupleKind_room_in1 hu) (keyX I hb) hd dd ?_
    have q := (xu_find rel k).isSome_eq
    rw [← e, Option.isSome_map] at q
    rw [← q]
    exact h _ (I.tok _)
theorem x_get2 {Q : Value → Shared → Prop} (hu : A.units + 1 < cLine) (I : Inv X pins σ H s) (g : XGet X H a y o) (ry : RelV y u) (rd : RelV d r) (h : ∀ w' s', Inv X pins σ H s' → RelV (o.getD d) w' → Q w' s') :
    wpAny (model X.prog X.w) A (call (.builtin "dict.get") [.ref a, u, r]) Q E s := by
  rcases g with g | ⟨xs, k, b, hx, hk, rfl, hb, e⟩
  · exact d_get2 hu I g ry rd h
  · cases ry
    obtain ⟨z, hd, us, rel, dd⟩ := rdX I hx hk
    refine call_meetsIn PySem.F.slot_dict_get dd.typeIs PySem.F.entry_dict_get (PySem.F.args_dict_get_3 _ _ _) (meetsH_dict_get_default (tupleKind (mixKind X.prog X.w)) a b hd r) ⟨tupleKind_room_in1 hu, k, us, keyX I hb, dd, h _ _ (I.tok _) ?_⟩
    rw [e]
    exact (xu_find rel k).getD rd
/-- a is a dict of the memory -/
theorem isD_sim {ι : List Addr} {m : Mem} (S : Sim (X.wo fa) ι m H) {n : Nat} {v : V} (r : Rep (X.wo fa) ι H (.ref n) v) (e : mtyOk .get2 (.ref n) m = true) (I : Inv X pins σ H s) :
    ∃ a, v = .ref a ∧ s.TypeIs (.ref a) "dict" ∧ ∀ b, Value.ref a = .ref b → ∃ ob, s.heap.get? b = some ob ∧ ob.dict = none := by
  obtain ⟨a, rfl, hn⟩ := rep_ref.mp r
  refine ⟨a, rfl, ?_⟩
  simp only [mtyOk] at e
  split at e
  · rename_i lk kvs hm
    obtain ⟨vs, h1, h2, h3, _⟩ := S.ob n a _ hn hm
    have := isD_at I (.inl ⟨vs, by cases lk with | true => exact .inr h1 | false => exact .inl h1⟩)
    exact ⟨this.1, this.2.1⟩
  · rename_i lk kvs hm
    obtain ⟨xs, h1, h2, hk, h3, _⟩ := S.ob n a _ hn hm
    have hr : Rd H a (dX X.prog X.w a xs) := by cases lk with | true => exact .inr h1 | false => exact .inl h1
    obtain ⟨_, hd, us, _, dd⟩ := rdX I hr hk
    refine ⟨dd.typeIs, fun b q => ?_⟩
    cases q
    obtain ⟨ob, _, _, h1, h2, _⟩ := dd
    exact ⟨ob, h1, h2.2.1⟩
  · cases e
end
theorem op_inT (hu : X.A.units + 64 < cLine) : OpR X (compareOp .In) (rT (X.wo fa) fun a b m => opt ((cmpop .in_ a b m).map .bl) m) := by
  intro pins s σ H x y v u Q I rx ry h
  obtain ⟨ew, ι, m, t, w, S, rt, rw', h⟩ := h
  obtain ⟨r, e, h⟩ := h.optb
  have q := h.ret S
  rw [cmp_in] at e
  split at e <;> try contradiction
  obtain ⟨o, eo, rfl⟩ := Option.map_eq_some_iff.mp e
  obtain ⟨a, o', rfl, g, g1, g2⟩ := sim_get S rw' rt eo
  cases ry
  refine x_in (by omega) I g rx fun s' I' => ⟨.bl o.isSome, H, I', ?_, q _ (rep_bl.mpr rfl)⟩
  cases o with
  | none => rw [g2 rfl]; rfl
  | some z => obtain ⟨w, e, _⟩ := g1 z rfl; rw [e]; rfl
theorem op_ninT (hu : X.A.units + 64 < cLine) : OpR X (compareOp .NotIn) (rT (X.wo fa) fun a b m => opt ((cmpop .nin a b m).map .bl) m) := by
  intro pins s σ H x y v u Q I rx ry h
  obtain ⟨ew, ι, m, t, w, S, rt, rw', h⟩ := h
  obtain ⟨r, e, h⟩ := h.optb
  have q := h.ret S
  rw [cmp_nin] at e
  split at e <;> try contradiction
  obtain ⟨o, eo, rfl⟩ := Option.map_eq_some_iff.mp e
  obtain ⟨a, o', rfl, g, g1, g2⟩ := sim_get S rw' rt eo
  cases ry
  refine x_notIn (by omega) I g rx fun s' I' => ⟨.bl (!o.isSome), H, I', ?_, q _ (rep_bl.mpr rfl)⟩
  cases o with
  | none => rw [g2 rfl]; rfl
  | some z => obtain ⟨w, e, _⟩ := g1 z rfl; rw [e]; rfl
theorem op_cmp (hu : X.A.units + 64 < cLine) (op : COp) : OpR X (compareOp op.op) (rT (X.wo fa) fun a b m => opt ((cmpop op a b m).map .bl) m) := by
  cases op with
  | eq => exact op_eqT hu
  | ne => exact op_neT hu
  | lt => exact op_ltT' hu
  | le => exact op_leT'
  | gt => exact op_gtT'
  | ge => exact op_geT'
  | in_ => exact op_inT hu
  | nin => exact op_ninT hu
/-! ### places -/
theorem subTail_of {prog : Program} {w : World} {A : Around} {E : Value → Shared → Prop} {s : Shared} {value slice : Expr} {T id : String} {o i : Value} {Q : Value → Shared → Prop} (hT : s.TypeIs o T)
    (hl : typeLookup (.type T) "__getitem__" = pure (some (.builtin id))) (hs : subscripted slice false o i = operate [o, i] (getItem o i))
    (h : wpAny (model prog w) A (getItem o i) Q E s) : wpAny (model prog w) A (subscriptTail value slice o i) Q E s := by
  unfold subscriptTail
  refine wpAny_bind ?_
  rw [getitemInPython_of_ne hT.not_modules]
  refine wpAny_bind (wpAny_specialOf hT hl ?_)
  have fin : wpAny (model prog w) A (subscripted slice false o i) (fun r s₃ => wpAny (model prog w) A (letTemporaryGo value o r >>= fun _ => pure r) Q E s₃) E s := by
    rw [hs]
    exact wpAny_operating (wpAny_mono h (fun r s₃ h₃ => wpAny_bind (wpAny_letTemporaryGo (wpAny_pure h₃))) fun _ _ x => x)
  first
    | exact wpAny_pure (wpAny_bind fin)
    | exact wpAny_bind (wpAny_pure (wpAny_bind fin))
    | exact wpAny_bind fin
theorem reps_atI {W : Wo} {ι : List Addr} {H : Hp} {l : List T} {vs : List V} (r : Reps W ι H l vs) {i : Int} {t : T} (e : atI l i = some t) : ∃ v, atI vs i = some v ∧ Rep W ι H t v := by
  unfold atI at e ⊢
  rw [← r.length]
  obtain ⟨j, h1, h2⟩ := Option.bind_eq_some_iff.mp e
  rw [h1]
  exact r.get h2
theorem ix_T (hu : X.A.units + 64 < cLine) : IxR X (rT (X.wo fa) idxop) := by
  intro value slice pins s σ H x y v u Q I rx ry h hs
  obtain ⟨ew, ι, m, t, w, S, rt, rw', h⟩ := h
  have dict : ∀ n, t = .ref n → ∀ z, dgetOp m n w = some (some z) → Wt (X.wo fa) ew (kvV (X.wo fa) Q) ι H (Ev.ret z m) → wpAny (model X.prog X.w) X.A (subscriptTail value slice v u) (EP X pins σ Q) X.xe s := by
    intro n ht z hz hh
    subst ht
    obtain ⟨a, o', rfl, g, g1, g2⟩ := sim_get S rt rw' hz
    obtain ⟨wv, rfl, rz⟩ := g1 z rfl
    cases rx
    have hd : s.TypeIs (.ref a) "dict" := by
      rcases g with g | ⟨xs, k, b, hx, hk, rfl, hb, e⟩
      · exact dict_typeIs I g
      · obtain ⟨_, _, us, _, dd⟩ := rdX I hx hk; exact dd.typeIs
    exact subTail_of hd PySem.F.slot_dict_getitem.lookup hs (x_getItem (by omega) I g ry fun w' s' I' r' => ⟨wv, H, I', r', hh.ret S _ rz⟩)
  unfold idxop at h
  split at h
  · obtain ⟨z, ez, h⟩ := h.opt
    rw [rep_int.mp rw'] at ry
    obtain ⟨a, vs, rfl, h1, h2⟩ := rep_tup.mp rt
    obtain ⟨v', e', r'⟩ := reps_atI h2 ez
    exact ix_seq value slice pins s σ H _ _ v u Q I rx ry (.inr (.inl ⟨a, vs, _, v', rfl, rfl, h1, e', h.ret S _ r'⟩)) hs
  · obtain ⟨z, ez, h⟩ := h.opt
    rw [rep_int.mp rw'] at ry
    obtain ⟨a, vs, rfl, h1, h2⟩ := rep_ro.mp rt
    obtain ⟨v', e', r'⟩ := reps_atI h2 ez
    exact ix_seq value slice pins s σ H _ _ v u Q I rx ry (.inl ⟨a, vs, _, v', rfl, rfl, h1.1, e', h.ret S _ r'⟩) hs
  · split at h
    · rename_i hl
      obtain ⟨z, ez, h⟩ := h.opt
      rw [rep_int.mp rw'] at ry
      obtain ⟨a, vs, rfl, _, h1, h2⟩ := S.lst rt hl
      obtain ⟨v', e', r'⟩ := reps_atI h2 ez
      exact ix_seq value slice pins s σ H _ _ v u Q I rx ry (.inl ⟨a, vs, _, v', rfl, rfl, .of h1, e', h.ret S _ r'⟩) hs
    · split at h
      · rename_i hz
        exact dict _ rfl _ hz h
      · exact h.none.elim
  · exact h.none.elim
end
end Ev
end
section
set_option linter.all false
set_option maxRecDepth 10000
/-! Ev7: slices, builtins, methods, stores. -/
namespace Ev
open PySem PySem.Spec PyProof.Rows L2
section
variable {W : Wo} {ι ι' : List Addr} {H H' : Hp} {m : Mem}
theorem Reps.cut {l : List T} {vs : List V} (r : Reps W ι H l vs) (lo hi : Option Int) : Reps W ι H (cutT l lo hi) (cutV vs lo hi) := by
  unfold cutT cutV
  rw [← r.length]
  exact (r.drop _).take _
theorem Reps.set {ts : List T} {vs : List V} (r : Reps W ι H ts vs) (j : Nat) {t : T} {v : V} (rv : Rep W ι H t v) : Reps W ι H (ts.set j t) (vs.set j v) := by
  refine Reps.of_get (by rw [List.length_set, List.length_set]; exact r.length) fun i a b h1 h2 => ?_
  by_cases hj : j = i
  · subst hj
    by_cases hi : j < ts.length
    · rw [List.getElem?_set_self hi] at h1
      rw [List.getElem?_set_self (by rw [← r.length]; exact hi)] at h2
      cases h1; cases h2
      exact rv
    · rw [List.getElem?_eq_none (by simpa using hi)] at h1; cases h1
  · rw [List.getElem?_set_ne hj] at h1 h2
    obtain ⟨w, e, q⟩ := r.get h1
    rw [e] at h2; cases h2
    exact q
theorem Reps.at_ {ts : List T} {vs : List V} (r : Reps W ι H ts vs) {i : Nat} {t : T} {v : V} (h1 : ts[i]? = some t) (h2 : vs[i]? = some v) : Rep W ι H t v := by
  obtain ⟨w, e, q⟩ := r.get h1
  rw [e] at h2; cases h2
  exact q
theorem Reps.dropLast {ts : List T} {vs : List V} (r : Reps W ι H ts vs) : Reps W ι H ts.dropLast vs.dropLast := by
  rw [List.dropLast_eq_take, List.dropLast_eq_take, ← r.length]
  exact r.take _
theorem Reps.eraseIdx {ts : List T} {vs : List V} (r : Reps W ι H ts vs) (i : Nat) : Reps W ι H (ts.eraseIdx i) (vs.eraseIdx i) := by
  rw [List.eraseIdx_eq_take_drop_succ, List.eraseIdx_eq_take_drop_succ]
  exact (r.take _).append (r.drop _)
end
/-- a call with values -/
def rA (W : Wo) (f : List T → Mem → Rm T) : List V → Hp → VK → Prop := fun xs H Q => ∃ ew ι m ts, Sim W ι m H ∧ Reps W ι H ts xs ∧ Wt W ew (kvV W Q) ι H (f ts m)
/-- a method -/
def rM (W : Wo) (f : T → List T → Mem → Rm T) : V → List V → Hp → VK → Prop := fun x xs H Q => ∃ ew ι m t ts, Sim W ι m H ∧ Rep W ι H t x ∧ Reps W ι H ts xs ∧ Wt W ew (kvV W Q) ι H (f t ts m)
/-- a slice -/
def rS (W : Wo) : V → Option Int → Option Int → Hp → VK → Prop := fun x lo hi H Q => ∃ ew ι m t, Sim W ι m H ∧ Rep W ι H t x ∧ Wt W ew (kvV W Q) ι H (slcop t lo hi m)
section
variable {X : Cx} {fa : Ad}
theorem sl_T : SlR X (rS (X.wo fa)) := by
  intro pins s σ H x v vl vu lo hi sl Q I rx hs pl pu h
  obtain ⟨ew, ι, m, t, S, rt, h⟩ := h
  unfold slcop at h
  split at h
  · obtain ⟨a, vs, rfl, h1, h2⟩ := rep_tup.mp rt
    refine sl_tupA pins s σ H _ v vl vu lo hi sl Q I rx hs pl pu ⟨a, vs, rfl, h1, fun z => ?_, fun _ p hp => h.newT S (h2.cut lo hi) hp⟩
    refine h.ret S _ (rep_tup.mpr ⟨a, vs, rfl, h1, ?_⟩)
    have e : cutV vs lo hi = vs := by unfold cutV; rw [z.1, z.2]; simp
    rw [← e]
    exact h2.cut lo hi
  · obtain ⟨a, vs, rfl, h1, h2⟩ := rep_ro.mp rt
    exact sl_list pins s σ H _ v vl vu lo hi sl Q I rx hs pl pu ⟨a, vs, rfl, h1.1, fun p hp => h.allocL S (h2.cut lo hi) hp⟩
  · split at h
    · rename_i hl
      obtain ⟨a, vs, rfl, _, h1, h2⟩ := S.lst rt hl
      exact sl_list pins s σ H _ v vl vu lo hi sl Q I rx hs pl pu ⟨a, vs, rfl, .of h1, fun p hp => h.allocL S (h2.cut lo hi) hp⟩
    · exact h.none.elim
  · exact h.none.elim
/-! ### builtins -/
theorem b_len : CallR X (.builtin "len") (rA (X.wo fa) biLen) := by
  intro pins s σ H xs us Q I r h
  obtain ⟨ew, ι, m, ts, S, rs, h⟩ := h
  unfold biLen at h
  split at h
  any_goals exact h.none.elim
  · obtain ⟨x, rfl, rx⟩ := rs.one'
    obtain ⟨a, vs, rfl, h1, h2⟩ := rep_tup.mp rx
    exact call_len pins s σ H _ us Q I r ⟨_, vs.length, rfl, .inr ⟨vs, h1, rfl⟩, by rw [← h2.length]; exact h.ret S _ (rep_int.mpr rfl)⟩
  · obtain ⟨x, rfl, rx⟩ := rs.one'
    obtain ⟨a, vs, rfl, h1, h2⟩ := rep_ro.mp rx
    exact call_len pins s σ H _ us Q I r ⟨_, vs.length, rfl, .inl ⟨vs, h1.1, rfl⟩, by rw [← h2.length]; exact h.ret S _ (rep_int.mpr rfl)⟩
  · obtain ⟨x, rfl, rx⟩ := rs.one'
    obtain ⟨g, h⟩ := h.guard
    rw [rep_str.mp rx] at r
    exact call_len pins s σ H _ us Q I r ⟨_, _, rfl, ⟨small_le g, rfl⟩, h.ret S _ (rep_int.mpr rfl)⟩
  · obtain ⟨x, rfl, rx⟩ := rs.one'
    split at h
    · rename_i hl
      obtain ⟨a, vs, rfl, _, h1, h2⟩ := S.lst rx hl
      exact call_len pins s σ H _ us Q I r ⟨_, vs.length, rfl, .inl ⟨vs, .of h1, rfl⟩, by rw [← h2.length]; exact h.ret S _ (rep_int.mpr rfl)⟩
    · exact h.none.elim
theorem b_abs : CallR X (.builtin "abs") (rA (X.wo fa) biAbs) := by
  intro pins s σ H xs us Q I r h
  obtain ⟨ew, ι, m, ts, S, rs, h⟩ := h
  unfold biAbs at h
  split at h
  any_goals exact h.none.elim
  obtain ⟨x, rfl, rx⟩ := rs.one'
  rw [rep_int.mp rx] at r
  exact call_abs pins s σ H _ us Q I r ⟨_, rfl, h.ret S _ (rep_int.mpr rfl)⟩
theorem b_max2 (hc : X.calm = true) : CallR X (.builtin "max") (rA (X.wo fa) biMax2) := by
  intro pins s σ H xs us Q I r h
  obtain ⟨ew, ι, m, ts, S, rs, h⟩ := h
  unfold biMax2 at h
  split at h
  any_goals exact h.none.elim
  obtain ⟨x, y, rfl, rx, ry⟩ := rs.two'
  rw [rep_int.mp rx, rep_int.mp ry] at r
  exact call_max2 hc pins s σ H _ us Q I r ⟨_, _, rfl, h.ret S _ (rep_int.mpr rfl)⟩
theorem b_min2 (hc : X.calm = true) : CallR X (.builtin "min") (rA (X.wo fa) biMin2) := by
  intro pins s σ H xs us Q I r h
  obtain ⟨ew, ι, m, ts, S, rs, h⟩ := h
  unfold biMin2 at h
  split at h
  any_goals exact h.none.elim
  obtain ⟨x, y, rfl, rx, ry⟩ := rs.two'
  rw [rep_int.mp rx, rep_int.mp ry] at r
  exact call_min2 hc pins s σ H _ us Q I r ⟨_, _, rfl, h.ret S _ (rep_int.mpr rfl)⟩
theorem b_int : CallR X (.type "int") (rA (X.wo fa) biInt) := by
  intro pins s σ H xs us Q I r h
  obtain ⟨ew, ι, m, ts, S, rs, h⟩ := h
  unfold biInt at h
  split at h
  any_goals exact h.none.elim
  · obtain ⟨x, rfl, rx⟩ := rs.one'
    rw [rep_int.mp rx] at r
    exact call_int1 pins s σ H _ us Q I r (.inl ⟨_, rfl, h.ret S _ (rep_int.mpr rfl)⟩)
  · obtain ⟨x, rfl, rx⟩ := rs.one'
    rw [rep_bl.mp rx] at r
    exact call_int1 pins s σ H _ us Q I r (.inr ⟨_, rfl, h.ret S _ (rep_int.mpr rfl)⟩)
theorem b_gcd : CallR X (.builtin "math.gcd") (rA (X.wo fa) biGcd) := by
  intro pins s σ H xs us Q I r h
  obtain ⟨ew, ι, m, ts, S, rs, h⟩ := h
  unfold biGcd at h
  split at h
  any_goals exact h.none.elim
  obtain ⟨x, y, rfl, rx, ry⟩ := rs.two'
  rw [rep_int.mp rx, rep_int.mp ry] at r
  exact cr_gcd pins s σ H _ us Q I r ⟨_, _, rfl, h.ret S _ (rep_int.mpr rfl)⟩
theorem b_tuple : CallR X (.type "tuple") (rA (X.wo fa) biTuple) := by
  intro pins s σ H xs us Q I r h
  obtain ⟨ew, ι, m, ts, S, rs, h⟩ := h
  unfold biTuple at h
  split at h
  any_goals exact h.none.elim
  obtain ⟨x, rfl, rx⟩ := rs.one'
  split at h
  · rename_i l e
    obtain ⟨a, vs, rfl, h2, hh⟩ := S.seq rx e
    refine call_tuple_of pins s σ H _ us Q I r ⟨a, vs, rfl, ?_⟩
    rcases hh with ⟨h1, rfl⟩ | ⟨h1, _⟩
    · exact .inr ⟨h1, h.ret S _ rx⟩
    · exact .inl ⟨h1, fun p hp => h.newT S h2 hp⟩
  · exact h.none.elim
theorem b_list : CallR X (.type "list") (rA (X.wo fa) biList) := by
  intro pins s σ H xs us Q I r h
  obtain ⟨ew, ι, m, ts, S, rs, h⟩ := h
  unfold biList at h
  split at h
  any_goals exact h.none.elim
  obtain ⟨x, rfl, rx⟩ := rs.one'
  split at h
  · rename_i l e
    obtain ⟨a, vs, rfl, h2, hh⟩ := S.seq rx e
    refine call_list_of pins s σ H _ us Q I r ⟨a, vs, rfl, ?_, fun p hp => h.allocL S h2 hp⟩
    rcases hh with ⟨h1, rfl⟩ | ⟨h1, _⟩
    · exact .inr h1
    · exact .inl h1
  · exact h.none.elim
/-! the text of a value -/
theorem int_shown (i : Int) : (PyData.shown (.int i)).length + 2 ≤ i.natAbs.log2 + 8 := by
  have h : i.natAbs < 10 ^ (i.natAbs.log2 + 1) := Nat.lt_of_lt_of_le Nat.lt_log2_self (Nat.pow_le_pow_left (by decide) _)
  have e := int_text_length_le10 (k := i.natAbs.log2 + 1) (by omega) h
  show (Str.ofString (toString i)).length + 2 ≤ _
  have q : (Str.ofString (toString i)).length = (toString i).length := PySem.ofString_length _
  rw [q]; omega
mutual
theorem rsz_ok : ∀ t : T, T.shw t = true → (PyData.shown (toPy t)).length + 2 ≤ T.rsz t ∧ (toPy t).showable = true ∧ (toPy t).hasDict = false
  | .non, _ => by simp only [toPy, PyData.shown, T.rsz]; exact ⟨by decide, rfl, rfl⟩
  | .bl b, _ => by simp only [toPy, PyData.shown, T.rsz]; exact ⟨by cases b <;> decide, rfl, rfl⟩
  | .int i, h => by
    simp only [toPy, T.rsz]
    have h' : i.natAbs.log2 < 1900 := of_decide_eq_true (by simpa only [T.shw, big] using h)
    exact ⟨int_shown i, by simp only [PyData.showable]; exact decide_eq_true (by omega), rfl⟩
  | .str x, h => by
    simp only [T.shw, List.all_eq_true, decide_eq_true_eq] at h
    have := PySem.StrLaws.reprText_len x fun c hc => h c hc
    simp only [toPy, PyData.shown, T.rsz]
    exact ⟨by omega, rfl, rfl⟩
  | .tup l, h => by
    obtain ⟨h1, h2, h3⟩ := rszs_ok l (by simpa only [T.shw] using h)
    simp only [toPy, T.rsz, PyData.shown, PyData.showable, PyData.hasDict]
    exact ⟨by have := PySem.tupleText_len_le (PyData.shownAll (toPys l)); omega, h2, h3⟩
  | .lst l, h => by
    obtain ⟨h1, h2, h3⟩ := rszs_ok l (by simpa only [T.shw] using h)
    simp only [toPy, T.rsz, PyData.shown, PyData.showable, PyData.hasDict]
    exact ⟨by have := PySem.listText_len_le (PyData.shownAll (toPys l)); omega, h2, h3⟩
  | .ref _, _ => by simp only [toPy, PyData.shown, T.rsz]; exact ⟨by decide, rfl, rfl⟩
  | .fn _, _ => by simp only [toPy, PyData.shown, T.rsz]; exact ⟨by decide, rfl, rfl⟩
  | .rep _, _ => by simp only [toPy, PyData.shown, T.rsz]; exact ⟨by decide, rfl, rfl⟩
  | .ro _, _ => by simp only [toPy, PyData.shown, T.rsz]; exact ⟨by decide, rfl, rfl⟩
theorem rszs_ok : ∀ l : List T, T.shws l = true → ((PyData.shownAll (toPys l)).map (·.length)).sum + 2 * (PyData.shownAll (toPys l)).length ≤ T.rszs l ∧ PyData.showableAll (toPys l) = true ∧ PyData.hasDictAll (toPys l) = false
  | [], _ => by simp [toPys, PyData.shownAll, T.rszs, PyData.showableAll, PyData.hasDictAll]
  | t :: l, h => by
    simp only [T.shws, Bool.and_eq_true] at h
    obtain ⟨h1, h2, h3⟩ := rsz_ok t h.1
    obtain ⟨k1, k2, k3⟩ := rszs_ok l h.2
    simp only [toPys, PyData.shownAll, T.rszs, PyData.showableAll, PyData.hasDictAll, List.map_cons, List.sum_cons, List.length_cons, h2, k2, h3, k3, Bool.and_self, Bool.or_self, and_self, and_true]
    omega
end
theorem b_reprD (hu : X.A.units + 64 < cLine) (hg : X.A.guards = some []) {pins : List (Addr × Obj)} {s : Shared} {σ : L2.St} {H : Hp} {xs : List V} {us : List Value} {Q : VK} (I : Inv X pins σ H s) {a : Addr} {d : T}
    (hd : Dp X.K H (.ref a) (toPy d)) (h1 : T.shw d = true) (h2 : T.rsz d ≤ 8000000) (h3 : T.dep d ≤ 60) (q : Q (.str (toPy d).shown) H) : wpAny (model X.prog X.w) X.A (call (.builtin "repr") [.ref a]) (EP X pins σ Q) X.xe s := by
  obtain ⟨as, r⟩ := Dp.reads I _ _ (.ref a) hd rfl
  obtain ⟨k1, k2, k3⟩ := rsz_ok d h1
  exact repr_of_reads' r k2 (PyData.noDict_hsm k3) hg (by have : PyData.depth (toPy d) ≤ 60 := h3; omega) (fun _ _ e => e) (fun h' u tk hk => ⟨.str _, H, I.kept hk, ⟨_, rfl⟩, q⟩) (by rw [sizeLine_eq]; omega)
theorem b_repr (hu : X.A.units + 64 < cLine) (hg : X.A.guards = some []) : CallR X (.builtin "repr") (rA (X.wo fa) biRepr) := by
  intro pins s σ H xs us Q I r h
  obtain ⟨ew, ι, m, ts, S, rs, h⟩ := h
  have key : ∀ t x a, ts = [t] → x = V.ref a → Rep (X.wo fa) ι H t x → xs = [x] → Wt (X.wo fa) ew (kvV (X.wo fa) Q) ι H (reprOp t m) → wpAny (model X.prog X.w) X.A (call (.builtin "repr") us) (EP X pins σ Q) X.xe s := by
    intro t x a _ hx rx hxs h
    subst hx hxs
    rw [Vals.ref1 r]
    unfold reprOp at h
    split at h
    · rename_i d hd
      obtain ⟨g, h⟩ := h.guard
      simp only [Bool.and_eq_true, decide_eq_true_eq] at g
      exact b_reprD hu hg (xs := [.ref a]) (us := [.ref a]) I (S.dp hd rx) g.1.1 g.1.2 g.2 (h.ret S _ (by simp only [Rep]))
    · exact h.none.elim
  unfold biRepr at h
  split at h
  any_goals exact h.none.elim
  · obtain ⟨x, rfl, rx⟩ := rs.one'
    obtain ⟨a, vs, rfl, _⟩ := rep_tup.mp rx
    exact key _ _ a rfl rfl rx rfl h
  · obtain ⟨x, rfl, rx⟩ := rs.one'
    obtain ⟨a, vs, rfl, _⟩ := rep_ro.mp rx
    exact key _ _ a rfl rfl rx rfl h
  · obtain ⟨x, rfl, rx⟩ := rs.one'
    obtain ⟨a, rfl, _⟩ := rep_ref.mp rx
    exact key _ _ a rfl rfl rx rfl h
  · obtain ⟨x, rfl, rx⟩ := rs.one'
    rw [rep_non.mp rx] at r
    unfold reprOp at h
    simp only [deep, deepR] at h
    obtain ⟨g, h⟩ := h.guard
    obtain ⟨u, rfl, q1⟩ := Vals.one r
    cases q1
    exact PySem.P.repr_of_none ⟨.str _, H, I.tok _, ⟨_, rfl⟩, h.ret S _ (by simp only [Rep]; rfl)⟩
  · obtain ⟨x, rfl, rx⟩ := rs.one'
    rw [rep_bl.mp rx] at r
    unfold reprOp at h
    simp only [deep, deepR] at h
    obtain ⟨g, h⟩ := h.guard
    obtain ⟨u, rfl, q1⟩ := Vals.one r
    cases q1
    exact PySem.P.repr_of_bool ⟨.str _, H, I.tok _, ⟨_, rfl⟩, h.ret S _ (by simp only [Rep]; rfl)⟩
  · obtain ⟨x, rfl, rx⟩ := rs.one'
    rw [rep_int.mp rx] at r
    unfold reprOp at h
    simp only [deep, deepR] at h
    obtain ⟨g, h⟩ := h.guard
    simp only [Bool.and_eq_true, decide_eq_true_eq, T.shw, big] at g
    obtain ⟨u, rfl, ⟨tk, rfl⟩⟩ := Vals.one r
    exact PySem.P.repr_of_int (by omega) ⟨.str _, H, I.tok _, ⟨_, rfl⟩, h.ret S _ (by simp only [Rep]; rfl)⟩
  · obtain ⟨x, rfl, rx⟩ := rs.one'
    rw [rep_str.mp rx] at r
    unfold reprOp at h
    simp only [deep, deepR] at h
    obtain ⟨g, h⟩ := h.guard
    simp only [Bool.and_eq_true, decide_eq_true_eq] at g
    have g2 := (rsz_ok _ g.1.1).1
    obtain ⟨u, rfl, ⟨tk, rfl⟩⟩ := Vals.one r
    exact PySem.P.repr_of_str ⟨.str _, H, I.tok _, ⟨_, rfl⟩, h.ret S _ (by simp only [Rep]; rfl)⟩ (by
      refine Nat.le_trans (Nat.le_trans (Nat.le_add_right _ 2) g2) ?_
      rw [sizeLine_eq]; omega)
theorem b_str : CallR X (.type "str") (rA (X.wo fa) biStr) := by
  intro pins s σ H xs us Q I r h
  obtain ⟨ew, ι, m, ts, S, rs, h⟩ := h
  unfold biStr at h
  split at h
  any_goals exact h.none.elim
  obtain ⟨x, rfl, rx⟩ := rs.one'
  rw [rep_int.mp rx] at r
  obtain ⟨g, h⟩ := h.guard
  have g' := of_decide_eq_true g
  exact call_str_int pins s σ H _ us Q I r ⟨_, rfl, by omega, h.ret S _ (rep_str.mpr rfl)⟩
theorem b_sum (hc : X.calm = true) : CallR X (.builtin "sum") (rA (X.wo fa) biSum) := by
  intro pins s σ H xs us Q I r h
  obtain ⟨ew, ι, m, ts, S, rs, h⟩ := h
  unfold biSum at h
  split at h
  any_goals exact h.none.elim
  obtain ⟨x, rfl, rx⟩ := rs.one'
  split at h
  · exact h.none.elim
  · rename_i nt
    split at h
    · rename_i ns e
      obtain ⟨l, e1, e2⟩ := Option.bind_eq_some_iff.mp e
      obtain ⟨a, vs, rfl, h2, hh⟩ := S.seq rx e1
      rcases hh with ⟨h1, rfl⟩ | ⟨h1, _⟩
      · exact absurd rfl (nt _)
      · rw [h2.ints e2] at h1
        exact cr_sum hc pins s σ H _ us Q I r ⟨a, ns, rfl, h1, h.ret S _ (rep_int.mpr rfl)⟩
    · exact h.none.elim
/-! dict(pairs) -/
theorem reps_pairs {W : Wo} {ι : List Addr} {H : Hp} : ∀ {l : List T} {vs : List V} {kvs : List (Key × T)}, pairsOf l = some kvs → Reps W ι H l vs →
    ∃ (ps : List Addr) (kws : List (Key × V)), vs = ps.map V.ref ∧ Paired (fun p (kv : Key × V) => SqT W.K H p [kV kv.1, kv.2]) ps kws ∧ kws.map (·.1) = kvs.map (·.1) ∧ Reps W ι H (kvs.map (·.2)) (kws.map (·.2))
  | [], vs, kvs, e, r => by
    simp only [pairsOf, Option.some.injEq] at e; subst e
    rw [Reps.nil_iff.mp r]
    exact ⟨[], [], rfl, .nil, rfl, Reps.nil⟩
  | t :: l, vs, kvs, e, r => by
    obtain ⟨v, r', rfl, h1, h2⟩ := Reps.cons_iff.mp r
    unfold pairsOf at e
    split at e
    · rename_i heq; cases heq
    · rename_i k x l' heq
      cases heq
      split at e
      · rename_i k' l'' e1 e2
        cases e
        obtain ⟨a, ws, rfl, g1, g2⟩ := rep_tup.mp h1
        obtain ⟨y, z, rfl, g3, g4⟩ := g2.two'
        obtain ⟨ps, kws, rfl, i1, i2, i3⟩ := reps_pairs e2 h2
        refine ⟨a :: ps, (k', z) :: kws, rfl, .cons ?_ i1, by simp [i2], Reps.cons g4 i3⟩
        rw [keyOf_rep e1 g3] at g1
        exact g1
      · cases e
    · cases e
theorem merge_eq (acc : List (Key × V)) : ∀ kvs : List (Key × V), mergeK acc kvs = kvs.foldl (fun acc kv => putK acc kv.1 kv.2) acc := fun _ => rfl
theorem merge_rel {W : Wo} {ι : List Addr} {H : Hp} : ∀ (kvs : List (Key × T)) (kws : List (Key × V)) (acc : List (Key × T)) (acw : List (Key × V)), kws.map (·.1) = kvs.map (·.1) → Reps W ι H (kvs.map (·.2)) (kws.map (·.2)) →
    acw.map (·.1) = acc.map (·.1) → Reps W ι H (acc.map (·.2)) (acw.map (·.2)) → (acc.map (·.1)).Nodup →
    (mergeK acw kws).map (·.1) = (merge acc kvs).map (·.1) ∧ Reps W ι H ((merge acc kvs).map (·.2)) ((mergeK acw kws).map (·.2)) ∧ ((merge acc kvs).map (·.1)).Nodup
  | [], kws, acc, acw, e, _, h1, h2, h3 => by
    have z : kws = [] := by simpa using e
    subst z
    exact ⟨h1, h2, h3⟩
  | (k, t) :: kvs, [], acc, acw, e, _, h1, h2, h3 => by simp at e
  | (k, t) :: kvs, (k', v) :: kws, acc, acw, e, r, h1, h2, h3 => by
    simp only [List.map_cons, List.cons.injEq] at e
    obtain ⟨e1, e2⟩ := e
    subst e1
    obtain ⟨v', r', q, g1, g2⟩ := Reps.cons_iff.mp (show Reps W ι H (t :: kvs.map (·.2)) (v :: kws.map (·.2)) from r)
    simp only [List.cons.injEq] at q
    obtain ⟨q1, q2⟩ := q
    subst q1 q2
    obtain ⟨p1, p2⟩ := put_rel (fk := fun x : Key × V => x.1) (fv := fun x : Key × V => x.2) (up := fun x => (x.1, v)) (nw := (k', v)) h1 h2 (k := k') g1 (fun _ => rfl) (fun _ => rfl) rfl rfl (xs' := putK acw k' v) rfl
    exact merge_rel kvs kws _ _ e2 g2 p1 p2 (put_nodup h3 k' t)
theorem b_dictP (hc : X.calm = true) : CallR X (.type "dict") (rA (X.wo fa) biDictP) := by
  intro pins s σ H xs us Q I r h
  obtain ⟨ew, ι, m, ts, S, rs, h⟩ := h
  unfold biDictP at h
  split at h
  any_goals exact h.none.elim
  obtain ⟨x, rfl, rx⟩ := rs.one'
  split at h
  · rename_i l hl
    split at h
    · rename_i kvs e
      obtain ⟨a, vs, rfl, _, h1, h2⟩ := S.lst rx hl
      obtain ⟨ps, kws, rfl, i1, i2, i3⟩ := reps_pairs e h2
      obtain ⟨m1, m2, m3⟩ := merge_rel kvs kws [] [] i2 i3 rfl Reps.nil List.nodup_nil
      exact call_dictP hc pins s σ H _ us Q I r ⟨a, ps, kws, rfl, .of h1, i1, fun p hp => h.alloc S hp fun c => ⟨_, upd_same, m1, Reps.carry c _ _ m2, m3⟩⟩
    · exact h.none.elim
  · exact h.none.elim
/-! ### methods -/
theorem m_append : MtR X "list.append" (rM (X.wo fa) mtAppend) := by
  intro pins s σ H x xs v us Q I rx r h
  obtain ⟨ew, ι, m, t, ts, S, rt, rs, h⟩ := h
  unfold mtAppend at h
  split at h
  any_goals exact h.none.elim
  split at h
  · rename_i hl
    obtain ⟨g, h⟩ := h.guard
    obtain ⟨a, vs, rfl, hn, h1, h2⟩ := S.lst rt hl
    obtain ⟨y, rfl, ry⟩ := rs.one'
    refine mt_append pins s σ H _ _ v us Q I rx r ⟨a, vs, y, rfl, rfl, h1, by rw [← h2.length]; exact small_lt g, ?_⟩
    obtain ⟨S1, x1⟩ := S.set hn h1 rfl (o := .lst (vs ++ [y])) (mo := .lst _) fun c => ⟨_, upd_same, Reps.carry c _ _ (h2.append (Reps.one ry))⟩
    exact h.ret' S1 x1 _ (rep_non.mpr rfl)
  · exact h.none.elim
theorem m_extend : MtR X "list.extend" (rM (X.wo fa) mtExtend) := by
  intro pins s σ H x xs v us Q I rx r h
  obtain ⟨ew, ι, m, t, ts, S, rt, rs, h⟩ := h
  unfold mtExtend at h
  split at h
  any_goals exact h.none.elim
  split at h
  · rename_i hl hl2
    obtain ⟨g, h⟩ := h.guard
    obtain ⟨a, vs, rfl, hn, h1, h2⟩ := S.lst rt hl
    obtain ⟨y, rfl, ry⟩ := rs.one'
    obtain ⟨b, ws, rfl, _, g1, g2⟩ := S.lst ry hl2
    refine mt_extend pins s σ H _ _ v us Q I rx r ⟨a, b, vs, ws, rfl, rfl, h1, g1, by rw [← h2.length, ← g2.length]; exact small_le g, ?_⟩
    obtain ⟨S1, x1⟩ := S.set hn h1 rfl (o := .lst (vs ++ ws)) (mo := .lst _) fun c => ⟨_, upd_same, Reps.carry c _ _ (h2.append g2)⟩
    exact h.ret' S1 x1 _ (rep_non.mpr rfl)
  · exact h.none.elim
theorem m_pop : MtR X "list.pop" (rM (X.wo fa) mtPop) := by
  intro pins s σ H x xs v us Q I rx r h
  obtain ⟨ew, ι, m, t, ts, S, rt, rs, h⟩ := h
  unfold mtPop at h
  split at h
  any_goals exact h.none.elim
  split at h
  · rename_i hl
    split at h
    · rename_i y hy
      obtain ⟨a, vs, rfl, hn, h1, h2⟩ := S.lst rt hl
      rw [rs.nil'] at r
      rw [h2.length] at hy
      obtain ⟨w, e, rw'⟩ := h2.get hy
      refine mt_pop pins s σ H _ _ v us Q I rx r ⟨a, vs, w, rfl, rfl, h1, e, ?_⟩
      obtain ⟨S1, x1⟩ := S.set hn h1 rfl (o := .lst vs.dropLast) (mo := .lst _) fun c => ⟨_, upd_same, Reps.carry c _ _ h2.dropLast⟩
      exact h.ret' S1 x1 _ (Rep.mono S x1 rw')
    · exact h.none.elim
  · exact h.none.elim
theorem m_popAt : MtR X "list.pop" (rM (X.wo fa) mtPopAt) := by
  intro pins s σ H x xs v us Q I rx r h
  obtain ⟨ew, ι, m, t, ts, S, rt, rs, h⟩ := h
  unfold mtPopAt at h
  split at h
  any_goals exact h.none.elim
  split at h
  · rename_i hl
    split at h
    · rename_i k hk
      split at h
      · rename_i y hy
        obtain ⟨g, h⟩ := h.guard
        obtain ⟨a, vs, rfl, hn, h1, h2⟩ := S.lst rt hl
        obtain ⟨w, e, rw'⟩ := h2.get hy
        obtain ⟨z, rfl, rz⟩ := rs.one'
        rw [rep_int.mp rz] at r
        have hg := of_decide_eq_true g
        obtain ⟨q1, q2, q3, q4⟩ := ixN_seq hk
        rw [h2.length] at q1
        refine mt_popAt pins s σ H _ _ v us Q I rx r ⟨a, vs, _, k, w, rfl, rfl, h1, by omega, by omega, q1, e, ?_⟩
        obtain ⟨S1, x1⟩ := S.set hn h1 rfl (o := .lst (vs.eraseIdx k)) (mo := .lst _) fun c => ⟨_, upd_same, Reps.carry c _ _ (h2.eraseIdx k)⟩
        exact h.ret' S1 x1 _ (Rep.mono S x1 rw')
      · exact h.none.elim
    · exact h.none.elim
  · exact h.none.elim
theorem m_reverse : MtR X "list.reverse" (rM (X.wo fa) mtReverse) := by
  intro pins s σ H x xs v us Q I rx r h
  obtain ⟨ew, ι, m, t, ts, S, rt, rs, h⟩ := h
  unfold mtReverse at h
  split at h
  any_goals exact h.none.elim
  split at h
  · rename_i hl
    obtain ⟨a, vs, rfl, hn, h1, h2⟩ := S.lst rt hl
    rw [rs.nil'] at r
    refine mt_reverse pins s σ H _ _ v us Q I rx r ⟨a, vs, rfl, rfl, h1, ?_⟩
    obtain ⟨S1, x1⟩ := S.set hn h1 rfl (o := .lst vs.reverse) (mo := .lst _) fun c => ⟨_, upd_same, Reps.carry c _ _ h2.reverse⟩
    exact h.ret' S1 x1 _ (rep_non.mpr rfl)
  · exact h.none.elim
theorem m_clear : MtR X "list.clear" (rM (X.wo fa) mtClear) := by
  intro pins s σ H x xs v us Q I rx r h
  obtain ⟨ew, ι, m, t, ts, S, rt, rs, h⟩ := h
  unfold mtClear at h
  split at h
  any_goals exact h.none.elim
  split at h
  · rename_i hl
    obtain ⟨a, vs, rfl, hn, h1, h2⟩ := S.lst rt hl
    rw [rs.nil'] at r
    refine mt_clear pins s σ H _ _ v us Q I rx r ⟨a, vs, rfl, rfl, h1, ?_⟩
    obtain ⟨S1, x1⟩ := S.set hn h1 rfl (o := .lst []) (mo := .lst []) fun c => ⟨_, upd_same, Reps.nil⟩
    exact h.ret' S1 x1 _ (rep_non.mpr rfl)
  · exact h.none.elim
/-! ### stores -/
def rSet (W : Wo) : V → V → V → Hp → (Hp → Prop) → Prop := fun o i v H Q => ∃ ι m to ti tv m', Sim W ι m H ∧ Rep W ι H to o ∧ Rep W ι H ti i ∧ Rep W ι H tv v ∧ setop to ti tv m = some m' ∧ ∀ H', Sim W ι m' H' → Ext ι H ι H' → Q H'
theorem set_T (hu : X.A.units + 64 < cLine) : PSet X (rSet (X.wo fa)) := by
  intro pins s σ H o i v ov iv u Q I ro ri rv h
  obtain ⟨ι, m, to, ti, tv, m', S, h1, h2, h3, e, q⟩ := h
  unfold setop at e
  split at e
  · rename_i n
    split at e
    · rename_i l hl
      split at e
      · rename_i i'
        obtain ⟨j, hj, rfl⟩ := Option.map_eq_some_iff.mp e
        rw [rep_int.mp h2] at ri
        obtain ⟨a, vs, rfl, hn, g1, g2⟩ := S.lst h1 hl
        obtain ⟨S1, x1⟩ := S.set hn g1 rfl (o := .lst (vs.set j v)) (mo := .lst (l.set j tv)) fun c => ⟨_, upd_same, Reps.carry c _ _ (g2.set j h3)⟩
        exact set_list pins s σ H _ _ v ov iv u Q I ro ri rv ⟨a, vs, i', j, rfl, rfl, g1, by rw [← g2.length]; exact hj, q _ S1 x1⟩
      · cases e
    · rename_i kvs hl
      split at e
      · rename_i k hk
        split at e
        · rename_i g
          cases e
          obtain ⟨a, rfl, hn⟩ := rep_ref.mp h1
          obtain ⟨vs, g1, g2, g3, g4⟩ := S.ob n a _ hn hl
          have lv : vs.length = kvs.length := by simpa using congrArg List.length g2
          rw [keyOf_rep hk h2] at ri
          obtain ⟨p1, p2⟩ := put_rel (fk := fun x : Key × V => x.1) (fv := fun x : Key × V => x.2) (up := fun x => (x.1, v)) (nw := (k, v)) g2 g3 (k := k) h3 (fun _ => rfl) (fun _ => rfl) rfl rfl (xs' := putK vs k v) rfl
          obtain ⟨S1, x1⟩ := S.set hn (by simpa using g1) rfl (o := .dK (putK vs k v)) (mo := .dK false (put kvs k tv)) fun c => ⟨_, by simp only [Bool.false_eq_true, if_false]; exact upd_same, p1, Reps.carry c _ _ p2, put_nodup g4 k tv⟩
          cases ro
          exact d_setItem (by omega) I (.inl ⟨vs, k, by simpa using g1, rfl, by rw [lv]; exact small_lt g, rfl⟩) ri rv fun s' I' => ⟨_, I', q _ S1 x1⟩
        · cases e
      · cases e
    · rename_i kvs hl
      split at e
      · rename_i l
        split at e
        · rename_i k hk
          split at e
          · rename_i g
            cases e
            obtain ⟨a, rfl, hn⟩ := rep_ref.mp h1
            obtain ⟨xs, g1, g2, gk, g3, g4⟩ := S.ob n a _ hn hl
            have lv : xs.length = kvs.length := by simpa using congrArg List.length g2
            obtain ⟨b, ws, rfl, hb, rs⟩ := rep_tup.mp h2
            rw [keysOf_rep hk rs] at hb
            obtain ⟨p1, p2⟩ := put_rel (fk := fun x : XE => x.1) (fv := fun x : XE => x.2.2) (up := fun x => (x.1, x.2.1, v)) (nw := (k, b, v)) g2 g3 (k := k) h3 (fun _ => rfl) (fun _ => rfl) rfl rfl (xs' := putX xs k b v) rfl
            have kk : ∀ x ∈ putX xs k b v, SqT X.K H x.2.1 (x.1.map kV) := by
              intro x hx
              unfold putX at hx
              split at hx
              · obtain ⟨y, hy, rfl⟩ := List.mem_map.mp hx
                split
                · exact gk y hy
                · exact gk y hy
              · rcases List.mem_append.mp hx with hx | hx
                · exact gk x hx
                · rw [List.mem_singleton.mp hx]; exact hb
            obtain ⟨S1, x1⟩ := S.set hn (u0 := dX X.prog X.w a xs) (by simpa using g1) rfl (o := dX X.prog X.w a (putX xs k b v)) (mo := .dT false (put kvs k tv)) fun c => ⟨_, by simp only [Bool.false_eq_true, if_false]; exact upd_same, p1, fun x hx => c.tup _ _ (kk x hx), Reps.carry c _ _ p2, put_nodup g4 k tv⟩
            cases ro
            cases ri
            exact xX_put (by omega) I (by simpa using g1) gk hb rv (by rw [lv]; exact small_lt g) fun s' I' => ⟨_, I', q _ S1 x1⟩
          · cases e
        · cases e
      · cases e
    · cases e
  · cases e
end
end Ev
end
section
set_option linter.all false
set_option maxRecDepth 10000
/-! Ev7b: dict(pairs) where the keys are tuples. -/
namespace Ev
open PySem PySem.Spec PyProof.Rows L2
section
variable {prog : Program} {w : World} {A : Around} {E : Value → Shared → Prop}
abbrev KX (prog : Program) (w : World) := tupleKind (mixKind prog w)
abbrev EX := List Key × Addr × Value
/-- what a dict of pairs holds in the end -/
def allX : List EX → List EX → List EX
  | acc, [] => acc
  | acc, e :: r => allX (storedH acc e.1 e.2.1 e.2.2) r
theorem storedH_le (acc : List EX) (k : List Key) (a : Addr) (v : Value) : (storedH acc k a v).length ≤ acc.length + 1 := by
  unfold storedH
  split
  · rw [List.length_map]; omega
  · rw [List.length_append]; exact Nat.le_refl _
theorem key_keeps {h h' : Heap} {k : List Key} {a S I : Addr} (x : (KX prog w).is h k a) (k1 : ∀ b o, b ≠ S → b ≠ I → h.get? b = some o → h'.get? b = some o) (h1 : a ≠ S) (h2 : a ≠ I) : (KX prog w).is h' k a := by
  obtain ⟨o, its, n, e, r⟩ := x
  exact ⟨o, its, n, k1 a o h1 h2 e, r⟩
/-- one entry of the walk: a pair of a key tuple and a value -/
structure PairX (prog : Program) (w : World) (h : Heap) (S I : Addr) (items : Array Value) (i : Nat) (e : EX) : Prop where
  ex : ∃ b : Addr, items[i]? = some (.ref b) ∧ b ≠ S ∧ b ≠ I ∧ IsTup h b #[.ref e.2.1, e.2.2]
  key : (KX prog w).is h e.1 e.2.1
  n1 : e.2.1 ≠ S
  n2 : e.2.1 ≠ I
theorem PairX.keep {h h' : Heap} {S I : Addr} {items : Array Value} {i : Nat} {e : EX} (x : PairX prog w h S I items i e) (k1 : ∀ b o, b ≠ S → b ≠ I → h.get? b = some o → h'.get? b = some o) : PairX prog w h' S I items i e := by
  obtain ⟨⟨b, h1, h2, h3, o, h4, h5⟩, h6, h7, h8⟩ := x
  exact ⟨⟨b, h1, h2, h3, o, k1 b o h2 h3 h4, h5⟩, key_keeps h6 k1 h7 h8, h7, h8⟩
/-- the dict as it grows; its keys stand apart from the walk -/
structure DicX (prog : Program) (w : World) (h : Heap) (S I : Addr) (acc : List EX) : Prop where
  d : h.DictOfH (KX prog w) S acc
  n : ∀ e ∈ acc, e.2.1 ≠ S ∧ e.2.1 ≠ I
theorem DicX.keep {h h' : Heap} {S I : Addr} {acc : List EX} (x : DicX prog w h S I acc) (kS : ∀ o, h.get? S = some o → h'.get? S = some o) (k1 : ∀ b o, b ≠ S → b ≠ I → h.get? b = some o → h'.get? b = some o) : DicX prog w h' S I acc := by
  obtain ⟨o, es, ep, h1, h2, h3, h4, h5, h6⟩ := x.d
  exact ⟨⟨o, es, ep, kS o h1, h2, h3, h4, fun e he => key_keeps (h5 e he) k1 (x.n e he).1 (x.n e he).2, h6⟩, x.n⟩
theorem walkX {R : Result → Shared → Prop} {S I l : Addr} {items : Array Value} {res : Value} (hu : A.units + 1 < cLine) (hh : A.handled = none) (hlI : l ≠ I) (hSI : S ≠ I) (hSl : S ≠ l) :
    ∀ (rest : List EX) (i : Nat) (acc : List EX) (ix : Int) (t : Tok) (s : Shared), items.size = i + rest.length → acc.length + rest.length ≤ sizeLine → (∀ (j : Nat) (e : EX), rest[j]? = some e → PairX prog w s.heap S I items (i + j) e) →
      s.heap.IsListIter I l i → s.heap.IsList l items → DicX prog w s.heap S I acc →
      (∀ h' tk, DicX prog w h' S I (allX acc rest) → (∀ b o, b ≠ S → b ≠ I → s.heap.get? b = some o → h'.get? b = some o) → R (.ok (.ret res)) { s with heap := h', toks := tk }) →
      codeAny (model prog w) A (.builtin "dict.update.loop" ⟨[.ref S, .ref I, .int ix t, res], []⟩) R s
  | [], i, acc, ix, t, s, hsz, hln, ht, hit, hl, hm, hR => by
    refine codeAny_builtin ud_entry ?_
    rw [Around.under_plainId ud_plain _]
    refine wpAny_bind (wpAny_pyNext_list_end (A := A.in1) hh hit hl (Array.getElem?_eq_none (by rw [hsz]; exact Nat.le_refl _)) fun h' he => ?_)
    refine wpAny_bind (wpAny_pure (wpAny_pure ?_))
    exact hR h' s.toks (hm.keep (fun o e => he S o hSI e) fun b o _ hb e => he b o hb e) fun b o _ hb e => he b o hb e
  | q :: rest, i, acc, ix, t, s, hsz, hln, ht, hit, hl, hm, hR => by
    have p0 := ht 0 q rfl
    obtain ⟨b, hb, hbS, hbI, htup⟩ := p0.ex
    rw [List.length_cons] at hsz hln
    refine codeAny_builtin ud_entry ?_
    rw [Around.under_plainId ud_plain _]
    refine wpAny_bind (wpAny_pyNext_list_item (x := .ref b) hit hl (by simpa using hb) fun h1 hit1 hs1 => ?_)
    have kp1 : ∀ b o, b ≠ S → b ≠ I → s.heap.get? b = some o → h1.get? b = some o := fun c o _ hc e => hs1.extBut c o hc e
    have hm1 := hm.keep (fun o e => hs1.extBut S o hSI e) kp1
    have p1 := p0.keep kp1
    obtain ⟨o, ho, hc, n, hd⟩ := htup.extBut hs1.extBut hbI
    refine wpAny_bind (wpAny_holding ?_)
    refine wpAny_bind (wpAny_tryCatch ?_)
    unfold Builtin.Dict.pairItems
    refine wpAny_bind (wpAny_typeOf (T := "tuple") ⟨o, ho, hc⟩ ?_)
    rw [if_pos (by first | decide | rfl | simp)]
    refine wpAny_bind (wpAny_seqItems ho hd (wpAny_pure ?_))
    refine wpAny_holding (wpAny_dictSet_heap (tupleKind_room_in1 hu) p1.key hm1.d (fun h2 hm2 hs2 => ?_) (by omega))
    have kp2 : ∀ b o, b ≠ S → b ≠ I → s.heap.get? b = some o → h2.get? b = some o := fun c o h3 h4 e => hs2.extBut c o h3 (kp1 c o h3 h4 e)
    refine wpAny_pure ⟨plainId_quiet ud_plain _, walkX (items := items) hu hh hlI hSI hSl rest (i + 1) (storedH acc q.1 q.2.1 q.2.2) (ix + 1) 0 _ (show items.size = i + 1 + rest.length by omega) ?_ (fun j q' e => ?_) ?_ ?_ ⟨hm2, fun e he => ?_⟩ fun h' tk hd' k => ?_⟩
    · have := storedH_le acc q.1 q.2.1 q.2.2; omega
    · have := (ht (j + 1) q' (by simpa using e)).keep kp2
      rw [show i + (j + 1) = i + 1 + j by omega] at this
      exact this
    · exact hit1.at fun o' e => hs2.extBut I o' (Ne.symm hSI) e
    · exact (hl.extBut hs1.extBut hlI).extBut hs2.extBut (Ne.symm hSl)
    · unfold storedH at he
      split at he
      · obtain ⟨y, hy, rfl⟩ := List.mem_map.mp he
        unfold putAt
        split
        · exact hm.n y hy
        · exact hm.n y hy
      · rcases List.mem_append.mp he with he | he
        · exact hm.n e he
        · rw [List.mem_singleton.mp he]; exact ⟨p0.n1, p0.n2⟩
    · exact hR h' tk hd' fun c oc h3 h4 e => k c oc h3 h4 (kp2 c oc h3 h4 e)
/-- dict(l) -/
theorem dict_ofX {s : Shared} {l : Addr} {ol : Obj} {items : Array Value} {n : Nat} {prs : List EX} {Q : Value → Shared → Prop} (hu : A.units + 2 < cLine) (hh : A.handled = none) (hl : s.heap.get? l = some ol) (hc : ol.cls = .type "list") (hd : ol.dict = none)
    (hdat : ol.data = .seq items n) (hsz : items.size = prs.length) (hln : prs.length ≤ sizeLine)
    (ht : ∀ (j : Nat) (q : EX), prs[j]? = some q → (∃ b : Addr, items[j]? = some (.ref b) ∧ IsTup s.heap b #[.ref q.2.1, q.2.2]) ∧ (KX prog w).is s.heap q.1 q.2.1)
    (h : ∀ h' tk, h'.DictOfH (KX prog w) s.heap.objs.size (allX [] prs) → (∀ b o, s.heap.get? b = some o → h'.get? b = some o) → Q (.ref s.heap.objs.size) { s with heap := h', toks := tk }) :
    wpAny (model prog w) A (call (.type "dict") [.ref l]) Q E s := by
  let N : Heap := s.heap.push { cls := .type "dict", data := .dict #[] }
  refine callType_codes (Q₁ := fun obj s₁ => obj = .ref s.heap.objs.size ∧ s₁ = { s with heap := N }) PySem.F.kt_called_dict (PySem.F.kt_typeCall_dict_1 _) PySem.F.entry_dict_init (kt_code_dict_new _ ⟨rfl, rfl⟩) ?_
  rintro obj s₁ ⟨rfl, rfl⟩
  have new : N.DictOfH (KX prog w) s.heap.objs.size [] := Heap.DictOfH.new s.heap
  have up : ∀ b o, s.heap.get? b = some o → N.get? b = some o := fun b o e => Heap.get?_push_of_some _ e
  refine ⟨new.typeIs, PySem.F.args_dict_init_2 _ _, ?_⟩
  unfold Builtin.«dict.__init__»
  refine wpAny_bind ?_
  unfold Builtin.Dict.selfAndRest
  refine wpAny_bind (wpAny_notOrdered_dict new.typeIs (wpAny_pure ?_))
  show wpAny _ _ (Builtin.Dict.updateFrom "dict.__init__" s.heap.objs.size (.ref l) [] .none) _ _ _
  unfold Builtin.Dict.updateFrom
  refine wpAny_bind (wpAny_typeOf (T := "list") ⟨ol, up _ _ hl, hc⟩ ?_)
  rw [if_pos (by first | decide | rfl | simp)]
  refine wpAny_bind (miss_list (up _ _ hl) hc hdat hd hh fun h1 tk1 hk1 => ?_)
  rw [if_pos (show (none : Option Value).isNone = true from rfl)]
  refine wpAny_bind (wpAny_rule ?_)
  have inN : N.get? s.heap.objs.size = some { cls := .type "dict", data := .dict #[] } := Heap.get?_push_size _ rfl
  have hS1 : s.heap.objs.size < h1.objs.size := Heap.lt_size (hk1 _ _ inN)
  have hl1 : h1.IsList l items := ⟨ol, hk1 _ _ (up _ _ hl), hc, n, hdat⟩
  refine wpAny_bind (wpAny_pyIter_list hl1 ?_)
  have up2 : ∀ b o, s.heap.get? b = some o → (h1.push { cls := .type "list_iterator", data := .fields #[.ref l, .int 0 0] }).get? b = some o := fun b o e => Heap.get?_push_of_some _ (hk1 _ _ (up _ _ e))
  have below : ∀ {b o}, s.heap.get? b = some o → b ≠ s.heap.objs.size ∧ b ≠ h1.objs.size := fun e => ⟨Nat.ne_of_lt (Heap.lt_size e), Nat.ne_of_lt (Nat.lt_trans (Heap.lt_size e) hS1)⟩
  have key := walkX (prog := prog) (w := w) (A := A.in1) (R := wants (fun r s₂ => r = .none ∧ Q (.ref s.heap.objs.size) s₂) E) (S := s.heap.objs.size) (I := h1.objs.size) (l := l) (items := items) (res := Value.none) (show A.units + 1 + 1 < cLine by omega) hh
    (below hl).2 (Nat.ne_of_lt hS1) (Ne.symm (below hl).1) prs 0 [] 0 0
    { s with heap := h1.push { cls := .type "list_iterator", data := .fields #[.ref l, .int 0 0] }, toks := tk1 } (by rw [hsz, Nat.zero_add]) (by rw [List.length_nil, Nat.zero_add]; exact hln)
    (fun j q e => by
      obtain ⟨⟨b, e1, ob, e2, e3⟩, ok, its, m, e4, e5⟩ := ht j q e
      rw [Nat.zero_add]
      exact ⟨⟨b, e1, (below e2).1, (below e2).2, ob, up2 _ _ e2, e3⟩, ⟨ok, its, m, up2 _ _ e4, e5⟩, (below e4).1, (below e4).2⟩)
    ⟨_, Heap.get?_push_size _ rfl, rfl, rfl⟩ (hl1.at fun o e => Heap.get?_push_of_some _ e)
    ⟨⟨_, #[], 0, Heap.get?_push_of_some _ (hk1 _ _ inN), ⟨rfl, rfl, rfl⟩, rfl, rfl, fun _ z => (by cases z), List.nodup_nil⟩, fun _ z => (by cases z)⟩
    (fun h' tk hd' k => ⟨rfl, h h' tk hd'.d fun b o e => k b o (below e).1 (below e).2 (up2 _ _ e)⟩)
  first
    | exact wpAny_pure ⟨plainId_quiet ud_plain _, key⟩
    | exact wpAny_bind (wpAny_pure (wpAny_pure ⟨plainId_quiet ud_plain _, key⟩))
end
/-- .. told by abstract values -/
def allXV : List XE → List XE → List XE
  | acc, [] => acc
  | acc, e :: r => allXV (putX acc e.1 e.2.1 e.2.2) r
theorem allXV_u {r : List XE} {ru : List EX} (hr : XU r ru) : ∀ {acc : List XE} {au : List EX}, XU acc au → XU (allXV acc r) (allX au ru) := by
  induction hr with
  | nil => intro acc au h; exact h
  | @cons a b _ _ hd t ih =>
    intro acc au h
    obtain ⟨k, p, v⟩ := a
    obtain ⟨k', p', u⟩ := b
    obtain ⟨e1, e2, e3⟩ := hd
    simp only at e1 e2 e3
    subst e1 e2
    exact ih (xu_put h k e3)
theorem allXV_len : ∀ (r acc : List XE), (allXV acc r).length ≤ acc.length + r.length
  | [], acc => Nat.le_refl _
  | e :: r, acc => by
    have h1 := allXV_len r (putX acc e.1 e.2.1 e.2.2)
    have h2 := length_putX acc e.1 e.2.1 e.2.2
    simp only [allXV, List.length_cons]
    omega
section
variable {W : Wo} {ι : List Addr} {H : Hp}
theorem putX_keys {xs : List XE} {k : List Key} {b : Addr} {v : V} (hx : ∀ x ∈ xs, SqT W.K H x.2.1 (x.1.map kV)) (hb : SqT W.K H b (k.map kV)) : ∀ x ∈ putX xs k b v, SqT W.K H x.2.1 (x.1.map kV) := by
  intro x h
  unfold putX at h
  split at h
  · obtain ⟨y, hy, rfl⟩ := List.mem_map.mp h
    split
    · exact hx y hy
    · exact hx y hy
  · rcases List.mem_append.mp h with h | h
    · exact hx x h
    · rw [List.mem_singleton.mp h]; exact hb
theorem allXV_rel : ∀ (kvs : List (List Key × T)) (xs : List XE) (acc : List (List Key × T)) (ax : List XE), xs.map (·.1) = kvs.map (·.1) → Reps W ι H (kvs.map (·.2)) (xs.map (·.2.2)) → (∀ x ∈ xs, SqT W.K H x.2.1 (x.1.map kV)) →
    ax.map (·.1) = acc.map (·.1) → Reps W ι H (acc.map (·.2)) (ax.map (·.2.2)) → (∀ x ∈ ax, SqT W.K H x.2.1 (x.1.map kV)) → (acc.map (·.1)).Nodup →
    (allXV ax xs).map (·.1) = (merge acc kvs).map (·.1) ∧ Reps W ι H ((merge acc kvs).map (·.2)) ((allXV ax xs).map (·.2.2)) ∧ (∀ x ∈ allXV ax xs, SqT W.K H x.2.1 (x.1.map kV)) ∧ ((merge acc kvs).map (·.1)).Nodup
  | [], xs, acc, ax, e, _, _, h1, h2, h3, h4 => by
    have z : xs = [] := by simpa using e
    subst z
    exact ⟨h1, h2, h3, h4⟩
  | (k, t) :: kvs, [], acc, ax, e, _, _, _, _, _, _ => by simp at e
  | (k, t) :: kvs, (k', b, v) :: xs, acc, ax, e, r, g, h1, h2, h3, h4 => by
    simp only [List.map_cons, List.cons.injEq] at e
    obtain ⟨e1, e2⟩ := e
    subst e1
    obtain ⟨v', r', q, g1, g2⟩ := Reps.cons_iff.mp (show Reps W ι H (t :: kvs.map (·.2)) (v :: xs.map (·.2.2)) from r)
    simp only [List.cons.injEq] at q
    obtain ⟨q1, q2⟩ := q
    subst q1 q2
    have gb := g _ (List.mem_cons_self ..)
    obtain ⟨p1, p2⟩ := put_rel (fk := fun x : XE => x.1) (fv := fun x : XE => x.2.2) (up := fun x => (x.1, x.2.1, v)) (nw := (k', b, v)) h1 h2 (k := k') g1 (fun _ => rfl) (fun _ => rfl) rfl rfl (xs' := putX ax k' b v) rfl
    exact allXV_rel kvs xs _ _ e2 g2 (fun x hx => g x (List.mem_cons_of_mem _ hx)) p1 p2 (putX_keys h3 gb) (put_nodup h4 k' t)
theorem reps_tpairs : ∀ {l : List T} {vs : List V} {kvs : List (List Key × T)}, tpairsOf l = some kvs → Reps W ι H l vs →
    ∃ (ps : List Addr) (xs : List XE), vs = ps.map V.ref ∧ Paired (fun p (x : XE) => SqT W.K H p [.ref x.2.1, x.2.2]) ps xs ∧ xs.map (·.1) = kvs.map (·.1) ∧ Reps W ι H (kvs.map (·.2)) (xs.map (·.2.2)) ∧ ∀ x ∈ xs, SqT W.K H x.2.1 (x.1.map kV)
  | [], vs, kvs, e, r => by
    simp only [tpairsOf, Option.some.injEq] at e; subst e
    rw [Reps.nil_iff.mp r]
    exact ⟨[], [], rfl, .nil, rfl, Reps.nil, fun _ z => by cases z⟩
  | t :: l, vs, kvs, e, r => by
    obtain ⟨v, r', rfl, h1, h2⟩ := Reps.cons_iff.mp r
    unfold tpairsOf at e
    split at e
    · rename_i heq; cases heq
    · rename_i k x l' heq
      cases heq
      split at e
      · rename_i k' l'' e1 e2
        cases e
        obtain ⟨a, ws, rfl, g1, g2⟩ := rep_tup.mp h1
        obtain ⟨y, z, rfl, g3, g4⟩ := g2.two'
        obtain ⟨b, us, rfl, g5, g6⟩ := rep_tup.mp g3
        obtain ⟨ps, xs, rfl, i1, i2, i3, i4⟩ := reps_tpairs e2 h2
        rw [keysOf_rep e1 g6] at g5
        refine ⟨a :: ps, (k', b, z) :: xs, rfl, .cons g1 i1, by simp [i2], Reps.cons g4 i3, fun x hx => ?_⟩
        rcases List.mem_cons.mp hx with rfl | hx
        · exact g5
        · exact i4 x hx
      · cases e
    · cases e
end
section
variable {X : Cx} {fa : Ad}
theorem ents_of {pins : List (Addr × Obj)} {σ : L2.St} {H : Hp} {s : Shared} (I : Inv X pins σ H s) : ∀ {ps : List Addr} {xs : List XE}, Paired (fun p (x : XE) => SqT X.K H p [.ref x.2.1, x.2.2]) ps xs → (∀ x ∈ xs, SqT X.K H x.2.1 (x.1.map kV)) →
    ∃ prs : List EX, XU xs prs ∧ prs.length = ps.length ∧ ∀ (j : Nat) (q : EX), prs[j]? = some q → ∃ b : Addr, ps[j]? = some b ∧ IsTup s.heap b #[.ref q.2.1, q.2.2] ∧ (KX X.prog X.w).is s.heap q.1 q.2.1
  | _, _, .nil, _ => ⟨[], .nil, rfl, fun j q e => by simp at e⟩
  | _, _, .cons (a := p) (b := x) h t, hk => by
    obtain ⟨prs, r, hl, hp⟩ := ents_of I t fun y hy => hk y (List.mem_cons_of_mem _ hy)
    obtain ⟨its, rv, ht, _⟩ := I.tuple h
    obtain ⟨u1, u2, rfl, q1, q2⟩ := Vals.two rv
    cases q1
    refine ⟨(x.1, x.2.1, u2) :: prs, .cons ⟨rfl, rfl, q2⟩ r, by simp [hl], fun j q e => ?_⟩
    cases j with
    | zero =>
      simp at e
      subst e
      exact ⟨p, rfl, ht, keyX I (hk x (List.mem_cons_self ..))⟩
    | succ j =>
      obtain ⟨b, e1, e2⟩ := hp j q (by simpa using e)
      exact ⟨b, by simpa using e1, e2⟩
theorem b_dictT (hu : X.A.units + 64 < cLine) (hc : X.calm = true) {pins : List (Addr × Obj)} {s : Shared} {σ : L2.St} {H : Hp} {ι : List Addr} {m : Mem} {ew : EW} {l : List T} {vs : List V} {kvs : List (List Key × T)} {a : Addr} {Q : VK}
    (I : Inv X pins σ H s) (S : Sim (X.wo fa) ι m H) (hH : H a = some (.lst vs)) (rs : Reps (X.wo fa) ι H l vs) (e : tpairsOf l = some kvs) (h : Wt (X.wo fa) ew (kvV (X.wo fa) Q) ι H (alloc (.dT false (merge [] kvs)) m)) :
    wpAny (model X.prog X.w) X.A (call (.type "dict") [.ref a]) (EP X pins σ Q) X.xe s := by
  obtain ⟨ps, xs, rfl, i1, i2, i3, i4⟩ := reps_tpairs e rs
  obtain ⟨prs, r1, r2, r3⟩ := ents_of I i1 i4
  obtain ⟨z, its, n, rv, hl, ho⟩ := I.lstM hH
  have hits : its = ps.map Value.ref := refs_at rv
  subst hits
  have hlen : prs.length ≤ sizeLine := by rw [r2]; simpa using z
  refine dict_ofX (prs := prs) (by omega) (I.ok.hd hc) ho rfl rfl rfl (by simp [r2]) hlen (fun j q hq => ?_) fun h' tk d k => ?_
  · obtain ⟨b, e1, e2, e3⟩ := r3 j q hq
    exact ⟨⟨b, by simp [e1], e2⟩, e3⟩
  · obtain ⟨m1, m2, m3, m4⟩ := allXV_rel (W := X.wo fa) kvs xs [] [] i2 i3 i4 rfl Reps.nil (fun _ z => by cases z) List.nodup_nil
    have hp : H s.heap.objs.size = none := I.hok.fresh (Nat.le_refl _)
    have hz : (allXV [] xs).length ≤ sizeLine := by
      have := allXV_len xs []
      have e2 : xs.length = prs.length := Paired.length r1
      simp only [List.length_nil] at this
      omega
    exact ⟨.ref s.heap.objs.size, _, I.laid (o := dX X.prog X.w s.heap.objs.size (allXV [] xs)) (t' := tk) k (Nat.le_refl _) (dX_ok hz (beq_eq_false_iff_ne.mpr (Ne.symm (Nat.ne_of_lt I.big))) (allXV_u r1 .nil) d), rfl,
      h.alloc S hp fun c => ⟨_, by simp only [Bool.false_eq_true, ↓reduceIte]; exact upd_same, m1, fun x hx => c.tup _ _ (m3 x hx), Reps.carry c _ _ m2, m4⟩⟩
theorem b_dictT' (hu : X.A.units + 64 < cLine) (hc : X.calm = true) : CallR X (.type "dict") (rA (X.wo fa) biDictT) := by
  intro pins s σ H xs us Q I r h
  obtain ⟨ew, ι, m, ts, S, rs, h⟩ := h
  unfold biDictT at h
  split at h
  any_goals exact h.none.elim
  obtain ⟨x, rfl, rx⟩ := rs.one'
  split at h
  · rename_i l hl
    split at h
    · rename_i kvs e
      obtain ⟨a, vs, rfl, _, h1, h2⟩ := S.lst rx hl
      rw [Vals.ref1 r]
      exact b_dictT hu hc I S h1 h2 e h
    · exact h.none.elim
  · exact h.none.elim
end
end Ev
end
section
set_option linter.all false
set_option maxRecDepth 10000
/-! Ev8: readings by plain steps; what loops walk; comprehensions. -/
namespace Ev
open PySem PySem.Spec PyProof.Rows L2
/-- a wish about exceptions, told of plain ones -/
def ewx (W : Wo) (E : XK) : EW := fun e ι H => ∀ cls d, RepX W ι H e cls d → E cls d H
abbrev WX := L2.WX
def Wx0 : WX := fun _ _ _ _ => False
/-- a reading by a plain step: q says what is wanted of a result -/
def xT {α γ : Type} (W : Wo) (Wx : WX) (q : γ → α → List Addr → Hp → Prop) (f : Lo → Mem → Rm α) : L2.St → Hp → γ → Prop := fun σ H Q =>
  ∃ ι m τ, Sim W ι m H ∧ SlOk W ι H τ σ ∧ Wt W (ewx W fun c d H => Wx c d σ H) (q Q) ι H (f τ m)
def qA (W : Wo) (Q : List V → Hp → Prop) : List T → List Addr → Hp → Prop := fun l ι H => ∀ vs, Reps W ι H l vs → Q vs H
def qB (Q : Bool → Hp → Prop) : Bool → List Addr → Hp → Prop := fun b _ H => Q b H
def qO (Q : Option Int → Hp → Prop) : Option Int → List Addr → Hp → Prop := fun b _ H => Q b H
/-- a new list that is outside the memory -/
def qQ (W : Wo) (Q : VK) : List T → List Addr → Hp → Prop := fun l ι H => ∀ D vs, H D = none → Reps W ι H l vs → Q (.ref D) (upd H D (.lst vs))
/-- what walks l, while st stays -/
def Wlk (W : Wo) (J : It) (l : List T) (st : Stay) (ι0 : List Addr) (H0 : Hp) : Prop := ∀ (i : Nat) (ι : List Addr) (m : Mem) (H : Hp), Ext ι0 H0 ι H → Sim W ι m H → st.ok m = true →
  (∀ t, l[i]? = some t → J.go i H ∧ ∀ x H', J.yld i H x H' → Sim W ι m H' ∧ Ext ι H ι H' ∧ Rep W ι H' t x) ∧ (l.length ≤ i → J.stop i H)
def qI (W : Wo) (R : It → Hp → Prop) : List T × Stay → List Addr → Hp → Prop := fun p ι H => ∀ J, Wlk W J p.1 p.2 ι H → R J H
abbrev eT (W : Wo) (Wx : WX) (f : Lo → Mem → Rm T) : TE := xT W Wx (kvV W) f
abbrev aT (W : Wo) (Wx : WX) (f : Lo → Mem → Rm (List T)) : TA := xT W Wx (qA W) f
abbrev bT (W : Wo) (Wx : WX) (f : Lo → Mem → Rm Bool) : TT := xT W Wx qB f
abbrev oT (W : Wo) (Wx : WX) (f : Lo → Mem → Rm (Option Int)) : TO := xT W Wx qO f
abbrev lT (W : Wo) (Wx : WX) (f : Lo → Mem → Rm (List T)) : TE := xT W Wx (qQ W) f
abbrev iT (W : Wo) (Wx : WX) (f : Lo → Mem → Rm (List T × Stay)) : TI := xT W Wx (qI W) f
section
variable {W : Wo} {Wx : WX} {α β γ : Type} {ι ι1 ι' : List Addr} {H H1 H' : Hp} {m m1 m' : Mem} {τ : Lo} {σ : L2.St} {ew ew' : EW}
/-- first f, then the rest -/
theorem xT.bnd {q : γ → α → List Addr → Hp → Prop} {Q : γ} {kv : β → List Addr → Hp → Prop} {f : Lo → Mem → Rm α} {g : α → Mem → Rm β} (S : Sim W ι m H) (sl : SlOk W ι H τ σ)
    (h : Wt W (ewx W fun c d H => Wx c d σ H) kv ι H (Ev.bnd (f τ m) g))
    (k : ∀ a ι1 H1 m1, Sim W ι1 m1 H1 → Ext ι H ι1 H1 → SlOk W ι1 H1 τ σ → Wt W (ewx W fun c d H => Wx c d σ H) kv ι1 H1 (g a m1) → q Q a ι1 H1) : xT W Wx q f σ H Q := by
  refine ⟨ι, m, τ, S, sl, h.bnd.imp fun a ι1 H1 x ⟨m1, S1, _, w⟩ => k a ι1 H1 m1 S1 x (sl.mono S x) w⟩
theorem Wt.one {kv : α → List Addr → Hp → Prop} {a : α} (h : ∀ ι' H', Ext ι H ι' H' → Sim W ι' m H' → kv a ι' H') : Wt W ew kv ι H (some (.ok a, m)) := ⟨_, _, rfl, h⟩
theorem Wt.ok {kv kv' : α → List Addr → Hp → Prop} {a : α} {res : Rm α} (h : Wt W ew kv ι H res) (e : res = some (.ok a, m)) (k : ∀ ι' H', Ext ι H ι' H' → Sim W ι' m H' → kv a ι' H' → kv' a ι' H') : Wt W ew' kv' ι H res := by
  subst e
  obtain ⟨r, m2, e, q⟩ := h
  cases e
  exact ⟨_, _, rfl, fun ι' H' x S => k ι' H' x S (q ι' H' x S)⟩
/-- a list that is laid outside -/
theorem Wt.outL {kv : List T → List Addr → Hp → Prop} {l : List T} (Q : VK) (h : Wt W ew (qQ W Q) ι H (Ev.ret l m)) (S : Sim W ι m H) {D : Addr} {vs : List V} (hp : H D = Option.none) (r : Reps W ι H l vs) : Q (.ref D) (upd H D (.lst vs)) := h.ret S D vs hp r
/-- a list outside the memory is taken away -/
def ers (H : Hp) (D : Addr) : Hp := fun b => if b = D then none else H b
theorem ers_upd {D : Addr} {o : HO} (h : H D = some o) : upd (ers H D) D o = H := by
  funext b; unfold upd ers
  by_cases e : b = D
  · rw [if_pos e, e, h]
  · rw [if_neg e, if_neg e]
theorem ers_ne {D b : Addr} (h : b ≠ D) : ers H D b = H b := by unfold ers; rw [if_neg h]
theorem ers_self {D : Addr} : ers H D D = none := by unfold ers; rw [if_pos rfl]
/-- no tuple, nothing locked -/
def plainO : HO → Bool
  | .tup _ => false
  | .frz _ (.tup _) => false
  | .frz _ (.lst _) => false
  | _ => true
theorem carry_of {D : Addr} {o : HO} {H' : Hp} (h : H D = some o) (ho : plainO o = true) (hne : ∀ a, a ≠ D → H' a = H a) : Carry W ι H ι H' := by
  have nt : ∀ a xs, (Rd H a (.tup xs)) → a ≠ D := fun a xs r z => by
    subst z
    rcases r with r | ⟨o, r⟩ <;> (rw [h] at r; cases r; cases ho)
  refine ⟨fun a vs q => ?_, fun a vs q => ?_, fun _ _ q => q⟩
  · rcases q with q | q
    · have ne := nt a vs q
      rcases q with q | ⟨o, q⟩
      · exact .inl (.inl (by rw [hne a ne]; exact q))
      · exact .inl (.inr ⟨o, by rw [hne a ne]; exact q⟩)
    · exact .inr q
  · rcases q with ⟨_, ⟨o, q⟩ | q⟩
    · have ne : a ≠ D := fun z => by subst z; rw [h] at q; cases q; cases ho
      have q' : H' a = some (.frz o (.lst vs)) := by rw [hne a ne]; exact q
      exact ⟨.inl (.inr ⟨o, q'⟩), .inl ⟨o, q'⟩⟩
    · exact ⟨.inr q, .inr q⟩
theorem carry_ers {D : Addr} {o : HO} (h : H D = some o) (ho : plainO o = true) : Carry W ι H ι (ers H D) := carry_of h ho fun _ ne => ers_ne ne
theorem Sim.ers (S : Sim W ι m H) {D : Addr} {o : HO} (h : H D = some o) (ho : plainO o = true) (hn : D ∉ ι) : Sim W ι m (ers H D) :=
  ⟨S.len, S.nd, fun n a o h1 h2 => MOk.carry (carry_ers h ho) (ers_ne fun z => hn (z ▸ List.mem_of_getElem? h1)) (S.ob n a o h1 h2)⟩
theorem Ext.ers (x : Ext ι H ι' H') {D : Addr} (hn : H D = Option.none) : Ext ι H ι' (Ev.ers H' D) :=
  ⟨x.pre, x.fr, fun a o e n => by rw [ers_ne (fun z => by rw [z, hn] at e; cases e)]; exact x.keep a o e n, fun a o u e => by rw [ers_ne (fun z => by rw [z, hn] at e; cases e)]; exact x.frz a o u e⟩
/-- the list that grows outside the memory -/
theorem Sim.grow (S : Sim W ι m H) {D : Addr} {o o' : HO} (h : H D = some o) (ho : plainO o = true) (hn : D ∉ ι) : Sim W ι m (upd H D o') ∧ Carry W ι H ι (upd H D o') := by
  have c : Carry W ι H ι (upd H D o') := carry_of h ho fun _ ne => upd_ne ne
  exact ⟨⟨S.len, S.nd, fun n a o h1 h2 => MOk.carry c (upd_ne fun z => hn (z ▸ List.mem_of_getElem? h1)) (S.ob n a o h1 h2)⟩, c⟩
/-- an object of the memory is replaced, locked or not -/
theorem Sim.put (S : Sim W ι m H) {n : Nat} {a : Addr} {o u0 : HO} {mo : MO} (hn : ι[n]? = some a) (h0 : H a = some u0) (hp : plainO u0 = true)
    (new : Carry W ι H ι (upd H a o) → MOk W ι (upd H a o) a mo) : Sim W ι (m.set n mo) (upd H a o) ∧ Carry W ι H ι (upd H a o) := by
  have c : Carry W ι H ι (upd H a o) := carry_of h0 hp fun _ ne => upd_ne ne
  refine ⟨⟨by rw [List.length_set]; exact S.len, S.nd, fun k b ob h1 h2 => ?_⟩, c⟩
  by_cases hk : k = n
  · subst hk
    rw [hn] at h1; cases h1
    rw [List.getElem?_set_self (by have := (List.getElem?_eq_some_iff.mp hn).1; rw [← S.len]; exact this)] at h2
    cases h2
    exact new c
  · rw [List.getElem?_set_ne (Ne.symm hk)] at h2
    have ne : b ≠ a := fun z => by
      subst z
      have h3 := (List.getElem?_eq_some_iff.mp hn)
      have h4 := (List.getElem?_eq_some_iff.mp h1)
      exact hk ((List.getElem_inj S.nd).mp (h4.2.trans h3.2.symm))
    exact MOk.carry c (upd_ne ne) (S.ob k b ob h1 h2)
theorem Ext.unlock {a : Addr} {od : Obj} {u : HO} (h0 : H a = some u) (hf : isFrz u = false) (ha : a ∈ ι) (x : Ext ι (upd H a (.frz od u)) ι' H') : Ext ι H ι' (upd H' a u) := by
  refine ⟨x.pre, fun b hb => ?_, fun b o e nb => ?_, fun b o w e => ?_⟩
  · rcases x.fr b hb with z | z
    · exact .inl z
    · by_cases hba : b = a
      · rw [hba, upd_same] at z; cases z
      · rw [upd_ne hba] at z; exact .inr z
  · have ne : b ≠ a := fun z => nb (by rw [z]; exact ha)
    rw [upd_ne ne]
    exact x.keep b o (by rw [upd_ne ne]; exact e) nb
  · have ne : b ≠ a := fun z => by rw [z, h0] at e; cases e; cases hf
    rw [upd_ne ne]
    exact x.frz b o w (by rw [upd_ne ne]; exact e)
theorem upd_swap {a b : Addr} {o u : HO} (h : a ≠ b) : upd (upd H a o) b u = upd (upd H b u) a o := by
  funext c; unfold upd
  by_cases e : c = b
  · rw [if_pos e, if_neg (fun z => h (z.symm.trans e)), if_pos e]
  · rw [if_neg e]; by_cases z : c = a
    · rw [if_pos z, if_pos z]
    · rw [if_neg z, if_neg z, if_neg e]
/-- what stood outside, made ready there, enters the memory -/
theorem Sim.take (S : Sim W ι m H) {D : Addr} {o o' : HO} {mo : MO} (h : H D = some o) (ho : plainO o = true) (hn : D ∉ ι) (new : Carry W ι H (ι ++ [D]) (upd H D o') → MOk W (ι ++ [D]) (upd H D o') D mo) :
    Sim W (ι ++ [D]) (m ++ [mo]) (upd H D o') ∧ Carry W ι H (ι ++ [D]) (upd H D o') := by
  have S1 := S.ers h ho hn
  have e : upd (Ev.ers H D) D o' = upd H D o' := by
    funext b; unfold upd Ev.ers
    by_cases z : b = D
    · rw [if_pos z, if_pos z]
    · rw [if_neg z, if_neg z, if_neg z]
  have c0 : Carry W ι H ι (Ev.ers H D) := carry_ers h ho
  have tr : ∀ (c : Carry W ι (Ev.ers H D) (ι ++ [D]) (upd H D o')), Carry W ι H (ι ++ [D]) (upd H D o') := fun c => ⟨fun a vs q => c.tup a vs (c0.tup a vs q), fun a vs q => c.ro a vs (c0.ro a vs q), c.get⟩
  obtain ⟨S2, x2⟩ := S1.new (p := D) (o := o') (mo := mo) ers_self (by rw [e]; exact fun c => new (tr c))
  rw [e] at S2 x2
  exact ⟨S2, tr (S1.carry x2)⟩
theorem wipe_idem (σ : L2.St) : ∀ vs : List Nat, wipe (wipe σ vs) vs = wipe σ vs := by
  intro vs
  have key : ∀ (vs : List Nat) (σ : L2.St), (∀ i ∈ vs, σ[i]? = none ∨ σ[i]? = some none) → wipe σ vs = σ := by
    intro vs
    induction vs with
    | nil => intro σ _; rfl
    | cons v vs ih =>
      intro σ h
      unfold wipe
      rw [ih σ fun i hi => h i (List.mem_cons_of_mem _ hi)]
      rcases h v (List.mem_cons_self ..) with e | e
      · rw [List.set_eq_of_length_le (by simpa using e)]
      · obtain ⟨hl, e'⟩ := List.getElem?_eq_some_iff.mp e
        apply List.ext_getElem?
        intro j
        by_cases hj : v = j
        · subst hj; rw [List.getElem?_set_self hl, e]
        · rw [List.getElem?_set_ne hj]
  apply key
  intro i hi
  cases e : (wipe σ vs)[i]? with
  | none => exact .inl rfl
  | some o =>
    cases o with
    | none => exact .inr rfl
    | some x => exact absurd hi (wipe_some e).2
end

/-! ### targets -/
mutual
def ctNames : CT → List Nat
  | .name i => [i]
  | .tup l => ctsNames l
def ctsNames : CTs → List Nat
  | .nil => []
  | .cons a r => ctNames a ++ ctsNames r
end
/-- only these slots changed -/
def Only (is : List Nat) (σ σ' : L2.St) : Prop := σ'.length = σ.length ∧ ∀ i, i ∉ is → σ'[i]? = σ[i]?
theorem Only.refl {is : List Nat} {σ : L2.St} : Only is σ σ := ⟨rfl, fun _ _ => rfl⟩
theorem Only.set {σ : L2.St} (i : Nat) (o : Option V) : Only [i] σ (σ.set i o) := ⟨List.length_set .., fun j hj => List.getElem?_set_ne (fun z => hj (by rw [z]; simp))⟩
theorem Only.trans {is js : List Nat} {σ σ1 σ2 : L2.St} (a : Only is σ σ1) (b : Only js σ1 σ2) : Only (is ++ js) σ σ2 :=
  ⟨b.1.trans a.1, fun i hi => (b.2 i fun z => hi (List.mem_append_right _ z)).trans (a.2 i fun z => hi (List.mem_append_left _ z))⟩
theorem Only.wipe {is vs : List Nat} {σ σ' : L2.St} (h : Only is σ σ') (hs : ∀ i ∈ is, i ∈ vs) : wipe σ' vs = wipe σ vs := by
  have len : ∀ (σ : L2.St) vs, (L2.wipe σ vs).length = σ.length := wipe_length
  have at_ : ∀ (σ : L2.St) (vs : List Nat) (i : Nat), i ∈ vs → i < σ.length → (L2.wipe σ vs)[i]? = some none := by
    intro σ vs i
    induction vs with
    | nil => intro h; cases h
    | cons v vs ih =>
      intro hm hl
      unfold L2.wipe
      by_cases e : v = i
      · subst e; exact List.getElem?_set_self (by rw [len]; exact hl)
      · rw [List.getElem?_set_ne e]
        exact ih ((List.mem_cons.mp hm).resolve_left fun z => e z.symm) hl
  apply List.ext_getElem?
  intro i
  by_cases hi : i < σ.length
  · by_cases hm : i ∈ vs
    · rw [at_ σ' vs i hm (by rw [h.1]; exact hi), at_ σ vs i hm hi]
    · rw [wipe_out hm, wipe_out hm]
      exact h.2 i fun z => hm (hs i z)
  · rw [List.getElem?_eq_none (by rw [len, h.1]; omega), List.getElem?_eq_none (by rw [len]; omega)]
def gT (W : Wo) (c : CT) : TG := fun v σ H Q => ∃ ι m t τ τ', Sim W ι m H ∧ Rep W ι H t v ∧ SlOk W ι H τ σ ∧ asgT c t τ = some τ' ∧ ∀ σ', SlOk W ι H τ' σ' → Only (ctNames c) σ σ' → Q σ' H
def gTs (W : Wo) (c : CTs) : TGs := fun vs σ H Q => ∃ ι m ts τ τ', Sim W ι m H ∧ Reps W ι H ts vs ∧ SlOk W ι H τ σ ∧ asgTs c ts τ = some τ' ∧ ∀ σ', SlOk W ι H τ' σ' → Only (ctsNames c) σ σ' → Q σ' H
/-- the targets of a def or a block -/
def sto (N : List Str) (fn : Str → Bool) (sc : Scope) (i : Nat) (x : Str) : Bool :=
  decide (N[i]? = some x) && (match sc.names.lookup x with
    | some .local => true
    | some .cell => fn x
    | _ => false)
mutual
def okG (N : List Str) (fn : Str → Bool) (sc : Scope) : CT → Expr → Bool
  | .name i, e => match e with
    | .Name x _ => sto N fn sc i x
    | _ => false
  | .tup l, e => match e with
    | .Tuple es _ _ => okGs N fn sc l es
    | _ => false
def okGs (N : List Str) (fn : Str → Bool) (sc : Scope) : CTs → List Expr → Bool
  | .nil, es => match es with
    | [] => true
    | _ => false
  | .cons c r, es => match es with
    | e :: es => (match e with | .Starred .. => false | _ => true) && okG N fn sc c e && okGs N fn sc r es
    | [] => false
end
theorem asgTs_len : ∀ {c : CTs} {ts : List T} {τ τ' : Lo} {N : List Str} {fn : Str → Bool} {sc : Scope} {es : List Expr}, asgTs c ts τ = some τ' → okGs N fn sc c es = true → ts.length = es.length
  | .nil, ts, τ, τ', N, fn, sc, es, h, k => by
    cases ts with
    | nil => cases es with
      | nil => rfl
      | cons e es => simp [okGs] at k
    | cons t ts => simp [asgTs] at h
  | .cons c r, ts, τ, τ', N, fn, sc, es, h, k => by
    cases ts with
    | nil => simp [asgTs] at h
    | cons t ts =>
      cases es with
      | nil => simp [okGs] at k
      | cons e es =>
        simp only [asgTs] at h
        simp only [okGs, Bool.and_eq_true] at k
        split at h
        · rename_i τ1 h1
          rw [List.length_cons, List.length_cons, asgTs_len h k.2]
        · cases h

section
variable {X : Cx} {fa : Ad}
theorem assignEach_ns {e : Expr} (h : (match e with | .Starred .. => false | _ => true) = true) (env : Env) (es : List Expr) : assignEach (e :: es) env = (false, assign e env) :: assignEach es env := by
  cases e <;> first | rfl | cases h
mutual
theorem pg_ok (hc : X.calm = true) (hN : X.N.Nodup) : ∀ (c : CT) (e : Expr), okG X.N X.fn X.env.scope c e = true → PG X e (gT (X.wo fa) c)
  | .name i, e, h => by
    unfold okG at h
    split at h
    · rename_i x pos
      unfold sto at h
      simp only [Bool.and_eq_true, decide_eq_true_eq] at h
      obtain ⟨h1, h2⟩ := h
      have key : Loc X.env.scope x ∧ (X.fn x = true ∨ X.env.scope.names.lookup x = some .local) := by
        split at h2
        · rename_i e; exact ⟨.inl e, .inr e⟩
        · rename_i e; exact ⟨.inr e, .inl h2⟩
        · cases h2
      refine ⟨fun pins s σ H v u Q I r h => ?_⟩
      obtain ⟨ι, m, t, τ, τ', S, rt, sl, e, q⟩ := h
      refine (pg_name hN h1 key.1 key.2).run pins s σ H v u Q I r ?_
      unfold asgT at e
      split at e
      · cases e
        exact q _ (sl.set i rt) (Only.set i _)
      · cases e
    · cases h
  | .tup l, e, h => by
    unfold okG at h
    split at h
    · rename_i es k pos
      have hs := pgs_ok hc hN l es h
      have hl : ∀ (c : CTs) (es : List Expr), okGs X.N X.fn X.env.scope c es = true → (assignEach es X.env).length = es.length ∧ (assignEach es X.env).findIdx? (·.1) = none := by
        intro c es
        induction es generalizing c with
        | nil => intro _; exact ⟨rfl, rfl⟩
        | cons e es ih =>
          intro k
          cases c with
          | nil => simp [okGs] at k
          | cons c r =>
            simp only [okGs, Bool.and_eq_true] at k
            obtain ⟨i1, i2⟩ := ih r k.2
            rw [assignEach_ns k.1.1]
            refine ⟨by rw [List.length_cons, List.length_cons, i1], ?_⟩
            rw [List.findIdx?_cons, i2]
            rfl
      obtain ⟨l1, l2⟩ := hl l es h
      refine ⟨fun pins s σ H v u Q I r h' => ?_⟩
      obtain ⟨ι, m, t, τ, τ', S, rt, sl, e, q⟩ := h'
      unfold asgT at e
      split at e
      · rename_i ts
        obtain ⟨a, vs, rfl, h1, h2⟩ := rep_tup.mp rt
        refine (pg_tup (k := k) (pos := pos) hc hs l1 l2).run pins s σ H _ u Q I r ⟨a, vs, rfl, h1, ?_, ι, m, ts, τ, τ', S, h2, sl, e, q⟩
        rw [← h2.length]
        exact asgTs_len e h
      · cases e
    · cases h
theorem pgs_ok (hc : X.calm = true) (hN : X.N.Nodup) : ∀ (c : CTs) (es : List Expr), okGs X.N X.fn X.env.scope c es = true → PGs X es (gTs (X.wo fa) c)
  | .nil, es, h => by
    unfold okGs at h
    split at h
    · refine ⟨fun pins s σ H vs us Q I r h' => ?_⟩
      obtain ⟨ι, m, ts, τ, τ', S, rt, sl, e, q⟩ := h'
      refine pgs_nil.run pins s σ H vs us Q I r ?_
      cases ts with
      | nil =>
        simp only [asgTs, Option.some.injEq] at e
        subst e
        exact ⟨rt.nil', q σ sl Only.refl⟩
      | cons t ts => simp [asgTs] at e
    · cases h
  | .cons c r, es, h => by
    unfold okGs at h
    split at h
    · rename_i e es
      simp only [Bool.and_eq_true] at h
      obtain ⟨⟨h0, h1⟩, h2⟩ := h
      have p1 := pg_ok hc hN c e h1
      have p2 := pgs_ok hc hN r es h2
      refine ⟨fun pins s σ H vs us Q I rr h' => ?_⟩
      obtain ⟨ι, m, ts, τ, τ', S, rt, sl, e', q⟩ := h'
      refine (pgs_cons p1 p2 (by rw [assignEach_ns h0]; rfl)).run pins s σ H vs us Q I rr ?_
      cases ts with
      | nil => simp [asgTs] at e'
      | cons t ts =>
        simp only [asgTs] at e'
        split at e'
        · rename_i τ1 h3
          obtain ⟨v, vr, rfl, g1, g2⟩ := Reps.cons_iff.mp rt
          exact ⟨v, vr, rfl, ι, m, t, τ, τ1, S, g1, sl, h3, fun σ1 sl1 o1 => ⟨ι, m, ts, τ1, τ', S, g2, sl1, e', fun σ2 sl2 o2 => q σ2 sl2 (o1.trans o2)⟩⟩
        · cases e'
    · cases h
end
end
/-! ### a comprehension -/
section
variable {W : Wo} {Wx : WX} {ew : EW} {σ : L2.St}
theorem asgT_names_len : True := trivial
theorem lc_go {g : TG} {tt : TT} {te : TE} {elt : Lo → Mem → Rm T} {tst : Lo → Mem → Rm Bool} {tg : CT} {own : List Nat} {Q : VK} {J : It} {l : List T} {st : Stay} {ι1 : List Addr} {H1 : Hp} {m1 mE : Mem} {lf : List T} {τ : Lo}
    (hg : ∀ v σ H (Q : L2.St → Hp → Prop), gT W tg v σ H Q → g v σ H Q) (ht : ∀ σ H (Q : Bool → Hp → Prop), bT W Wx0 tst σ H Q → tt σ H Q) (he : ∀ σ H (Q : VK), eT W Wx0 elt σ H Q → te σ H Q)
    (ho : ∀ i ∈ ctNames tg, i ∈ own) (S0 : Sim W ι1 m1 H1) (sl : SlOk W ι1 H1 τ σ) (w : Wlk W J l st ι1 H1)
    (e : lcLoop elt tst tg st (wipeT τ own) l m1 = some (.ok lf, mE)) (sm : small lf.length = true)
    (q : ∀ ι' H', Ext ι1 H1 ι' H' → Sim W ι' mE H' → qQ W Q lf ι' H') {D : Addr} (hD : H1 D = none) :
    ∃ Wi : Nat → Nat → Hp → Prop, (∃ k, Wi 0 k (upd H1 D (.lst []))) ∧ ∀ i k H, Wi i k H →
      (J.stop i H ∧ Q (.ref D) H) ∨ (J.go i H ∧ ∃ Nx : Hp → Prop, (∀ H', Nx H' → ∃ k', k' < k ∧ Wi (i + 1) k' H') ∧ ∀ x H', J.yld i H x H' → g x (wipe σ own) H' fun σ2 H2 => wipe σ2 own = wipe σ own ∧ tt σ2 H2 fun b H3 =>
        if b = true then te σ2 H3 fun y H4 => ∃ acc, H4 D = some (.lst acc) ∧ acc.length < sizeLine ∧ Nx (upd H4 D (.lst (acc ++ [y]))) else Nx H3) := by
  have sm' := of_decide_eq_true sm
  refine ⟨fun i k H => k = l.length - i ∧ i ≤ l.length ∧ ∃ ι m acc at_ rest, Sim W ι m H ∧ Ext ι1 H1 ι H ∧ D ∉ ι ∧ H D = some (.lst acc) ∧ Reps W ι H at_ acc ∧ lcLoop elt tst tg st (wipeT τ own) (l.drop i) m = some (.ok rest, mE) ∧ lf = at_ ++ rest,
    ⟨l.length, by simp, Nat.zero_le _, ?_⟩, ?_⟩
  · obtain ⟨S1, x1⟩ := S0.out (o := .lst []) hD
    exact ⟨ι1, m1, [], [], lf, S1, x1, S0.free hD, upd_same, Reps.nil, by simpa using e, by simp⟩
  rintro i k H ⟨rfl, hi, ι, m, acc, at_, rest, S, x, hn, hd, ra, er, el⟩
  have hst : st.ok m = true := by
    cases hl : l.drop i with
    | nil => rw [hl] at er; unfold lcLoop at er; by_cases z : st.ok m = true
             · exact z
             · rw [Bool.not_eq_true] at z; rw [z] at er; simp [guard'] at er
    | cons t r => rw [hl] at er; unfold lcLoop at er; by_cases z : st.ok m = true
                  · exact z
                  · rw [Bool.not_eq_true] at z; rw [z] at er; simp [guard'] at er
  by_cases hlt : i < l.length
  · have hdrop : l.drop i = l[i] :: l.drop (i + 1) := List.drop_eq_getElem_cons hlt
    rw [hdrop] at er
    unfold lcLoop at er
    rw [hst, guard'_true] at er
    obtain ⟨go, yl⟩ := (w i ι m H x S hst).1 l[i] (List.getElem?_eq_getElem hlt)
    split at er
    · cases er
    · rename_i τ1 h1
      refine .inr ⟨go, fun H' => ∃ ι m acc at_ rest, Sim W ι m H' ∧ Ext ι1 H1 ι H' ∧ D ∉ ι ∧ H' D = some (.lst acc) ∧ Reps W ι H' at_ acc ∧ lcLoop elt tst tg st (wipeT τ own) (l.drop (i + 1)) m = some (.ok rest, mE) ∧ lf = at_ ++ rest, fun H' h => ⟨l.length - (i + 1), by omega, rfl, hlt, h⟩, fun v H2 hy => ?_⟩
      obtain ⟨S2, x2, r2⟩ := yl v H2 hy
      have sl2 : SlOk W ι H2 (wipeT τ own) (wipe σ own) := (sl.mono S0 (x.trans x2)).wipe own
      refine hg _ _ _ _ ⟨ι, m, l[i], wipeT τ own, τ1, S2, r2, sl2, h1, fun σ3 sl3 on => ⟨(on.wipe ho).trans (wipe_idem σ own), ?_⟩⟩
      have hd2 : H2 D = some (.lst acc) := x2.keep _ _ hd hn
      have ra2 := Reps.mono S x2 ra
      split at er
      · -- the test holds
        rename_i mb hb
        split at er
        · rename_i y m2 hy2
          split at er
          · rename_i l3 m3 h3
            cases er
            refine ht _ _ _ ⟨ι, m, τ1, S2, sl3, ?_⟩
            rw [hb]
            refine Wt.one fun ι4 H4 x4 S4 => ?_
            simp only [qB, ↓reduceIte]
            refine he _ _ _ ⟨ι4, mb, τ1, S4, sl3.mono S2 x4, ?_⟩
            rw [hy2]
            refine Wt.one fun ι5 H5 x5 S5 v5 r5 => ?_
            have x25 := x4.trans x5
            have hd5 : H5 D = some (.lst acc) := x25.keep _ _ hd2 hn
            have hn5 : D ∉ ι5 := fun z => by
              rcases x25.fr D z with z | z
              · exact hn z
              · rw [hd2] at z; cases z
            have ra5 := Reps.mono S2 x25 ra2
            have hlen : acc.length < sizeLine := by
              rw [← ra.length, sizeLine_eq]
              have : lf.length = at_.length + (y :: l3).length := by rw [el]; simp
              rw [List.length_cons] at this
              omega
            refine ⟨acc, hd5, hlen, ?_⟩
            obtain ⟨S6, c6⟩ := S5.grow (o' := .lst (acc ++ [v5])) hd5 rfl hn5
            have x15 := x.trans (x2.trans x25)
            refine ⟨ι5, m2, acc ++ [v5], at_ ++ [y], l3, S6, ⟨x15.pre, x15.fr, fun a o ea na => ?_, fun a o u ea => ?_⟩, hn5, upd_same, (Reps.carry c6 _ _ ra5).append (Reps.one (Rep.carry c6 _ _ r5)), h3, by rw [el]; simp⟩
            · rw [upd_ne (fun z => by rw [z, hD] at ea; cases ea)]
              exact x15.keep a o ea na
            · rw [upd_ne (fun z => by rw [z, hD] at ea; cases ea)]
              exact x15.frz a o u ea
          · cases er
        · cases er
      · rename_i mb hb
        refine ht _ _ _ ⟨ι, m, τ1, S2, sl3, ?_⟩
        rw [hb]
        refine Wt.one fun ι4 H4 x4 S4 => ?_
        simp only [qB, Bool.false_eq_true, ↓reduceIte]
        have hn4 : D ∉ ι4 := fun z => by
          rcases x4.fr D z with z | z
          · exact hn z
          · rw [hd2] at z; cases z
        exact ⟨ι4, mb, acc, at_, rest, S4, x.trans (x2.trans x4), hn4, x4.keep _ _ hd2 hn, Reps.mono S2 x4 ra2, er, el⟩
      · cases er
  · have hi2 : i = l.length := by omega
    subst hi2
    rw [List.drop_length] at er
    unfold lcLoop at er
    rw [hst, guard'_true] at er
    cases er
    refine .inl ⟨(w l.length ι mE H x S hst).2 (Nat.le_refl _), ?_⟩
    have S' := S.ers hd rfl hn
    have z := q ι (ers H D) (x.ers hD) S' D acc ers_self (by rw [el, List.append_nil]; exact Reps.carry (carry_ers hd rfl) _ _ ra)
    rw [ers_upd hd] at z
    exact z
end
end Ev
end
section
set_option linter.all false
set_option maxRecDepth 10000
/-! Ev9: what a def's text leans on; the checker. -/
namespace Ev
open PySem PySem.Spec PyProof.Rows L2
/-! ### promises of defs -/
def FnG (P : Program) (w : World) (K : PySem.W.Frag) (mg : Str → Option Value) (base : Heap) (k : Nat) (f : Addr) (sp : Sp) : Prop :=
  ∀ (A : Around) (outer : List Env) (s : Shared) (H : Hp) (us : List Value) (vs : List V) (Q : VK) (E : XK), Room k A → A.guards = some [] → Env0 P w K mg base A outer s H → Vals vs us → sp vs H Q E →
    codeAny (model P w) A (.call (.ref f) ⟨us, []⟩) (CR (L2.CX P w) outer P w H s Q E) s
theorem FnG.mono {P : Program} {w : World} {K : PySem.W.Frag} {mg : Str → Option Value} {base : Heap} {j k : Nat} {f : Addr} {sp : Sp} (F : FnG P w K mg base j f sp) (h : j ≤ k) : FnG P w K mg base k f sp :=
  fun A outer s H us vs Q E hr => F A outer s H us vs Q E (hr.mono h)
/-- what a def does, by a plain step -/
def spT (W : Wo) (f : List T → Mem → Rm T) : Sp := fun vs H Q E => ∃ ι m ts, Sim W ι m H ∧ Reps W ι H ts vs ∧ Wt W (ewx W E) (kvV W Q) ι H (f ts m)
/-- what the checker knows -/
structure Gm where
  N : List Str
  gl : List (Str × T)
  fns : List Str
  bnd : Nat
  gcd : Bool
def bnames : List Str := ["len", "abs", "max", "min", "tuple", "list", "dict", "repr", "int", "str", "sum", "range", "zip", "sorted", "enumerate", "any", "all", "reversed", "divmod", "isinstance", "bool"]
structure Ct (Γ : Gm) (fa : Ad) (Φ : Fns) (Wx : WX) (fn : Str → Bool) (sc : Scope) (X : Cx) : Prop where
  N : X.N = Γ.N
  nd : Γ.N.Nodup
  sc : X.env.scope = sc
  fn : X.fn = fn
  calm : X.calm = true
  hg : X.A.guards = some []
  gl : ∀ x t, (x, t) ∈ Γ.gl → ∃ v u, X.mg x = some u ∧ RelV v u ∧ ∀ ι H, Rep (X.wo fa) ι H t v
  blt : ∀ x ∈ bnames, X.mg x = none
  gcd : Γ.gcd = true → X.mg "gcd" = some (.builtin "math.gcd")
  fns : ∀ k x, k < Γ.bnd → Γ.fns[k]? = some x → X.mg x = some (.ref (fa.fa k))
  keep : ∀ k, PySem.W.keepIn X.K (.ref (fa.fa k)) = true
  fok : ∀ k, k < Γ.bnd → FnG X.prog X.w X.K X.mg X.base Γ.bnd (fa.fa k) (spT (X.wo fa) (Φ k))
  low : ∀ k ts m, Γ.bnd ≤ k → Φ k ts m = none
  room : Room Γ.bnd X.A
  pass : ∀ σ, PassesAt (L2.CX X.prog X.w) X σ (fun c d H => Wx c d σ H)
theorem pass_no {X : Cx} {σ : L2.St} : PassesAt (L2.CX X.prog X.w) X σ (fun _ _ _ => False) := fun _ _ _ _ _ _ ⟨_, _, _, _, _, _, _, _, _, _, _, _, z⟩ => z.elim
/-- the context of a comprehension's block -/
theorem Ct.blk {Γ : Gm} {fa : Ad} {Φ : Fns} {Wx : WX} {fn : Str → Bool} {sc : Scope} {X : Cx} (C : Ct Γ fa Φ Wx fn sc X) (scope : Scope) (s : Shared) (H : Hp) (cl : List (Str × Addr)) (c : Addr) (fp : List Addr) :
    Ct Γ fa Φ Wx0 (fun x => scope.names.lookup x == some .cell) (relS scope sc) (X.blk s H scope (compEnvC scope cl c X.env) fp) :=
  ⟨C.N, C.nd, by rw [← C.sc]; rfl, rfl, C.calm, C.hg, C.gl, C.blt, C.gcd, C.fns, C.keep, C.fok, C.low, C.room, fun _ => pass_no⟩

/-! ### what is seen of a text -/
def vis (sc : Scope) (x : Str) : Bool := match sc.names.lookup x with
  | some .local => true
  | some .cell => true
  | some .free => true
  | _ => false
def glb (sc : Scope) (x : Str) : Bool := decide (sc.names.lookup x = some .globalImplicit)
def nodbg (x : Str) : Bool := !(x == ("__debug__" : Str)) && !(x == ("__classdict__" : Str))
theorem vis_ok {sc : Scope} {x : Str} (h : vis sc x = true) : Vis sc x := by
  unfold vis at h
  split at h
  · rename_i e; exact .inl e
  · rename_i e; exact .inr (.inl e)
  · rename_i e; exact .inr (.inr e)
  · cases h
def notStar : Expr → Bool
  | .Starred .. => false
  | _ => true
def notCall : Expr → Bool
  | .Call _ [] _ _ => false
  | _ => true
def notSlice : Expr → Bool
  | .Slice .. => false
  | _ => true
def notSet : Expr → Bool
  | .Set .. => false
  | _ => true
def plainTest : Expr → Bool
  | .UnaryOp .. => false
  | .BoolOp .. => false
  | .IfExp .. => false
  | .Compare .. => false
  | _ => true
theorem starEach_ns {e : Expr} (h : notStar e = true) (env : Env) (es : List Expr) : starEach (e :: es) env = (false, eval e env) :: starEach es env := by
  cases e <;> first | rfl | cases h
theorem base_nc {o : Expr} (h : notCall o = true) (nm : Str) (env : Env) (w : Sem Value) : attributeBase o nm env w = w := by
  cases o with
  | Call f args kws pos =>
    cases args with
    | nil => cases h
    | cons a as => cases f <;> rfl
  | _ => rfl
theorem sub_ns {b : Expr} (h : notSlice b = true) : PlainIx b := by
  intro o i
  cases b <;> first | rfl | cases h
theorem set_ns {e : Expr} (h : notSet e = true) (env : Env) : ∀ x, foldedSetIterable e env x = pure x := by
  intro x
  cases e <;> first | rfl | cases h
theorem mark_ns {e : Expr} (h : notSet e = true) (op : CmpOp) : behindInMarks op e = false := by
  cases e <;> first | rfl | cases h
theorem test_pl {e : Expr} {env : Env} (h : plainTest e = true) : ∀ whole, isTrue e env whole = (do let v ← whole; standAt e.pos; holding [v] (truthy v)) := by
  intro whole
  cases e <;> first | rfl | cases h
def noStars : List Expr → Bool
  | [] => true
  | e :: es => notStar e && noStars es
theorem noStars_any : ∀ {es : List Expr} (env : Env) (pos : Pos), noStars es = true → (backTo pos (starEach es env)).any (·.1) = false
  | [], _, _, _ => rfl
  | e :: es, env, pos, h => by
    simp only [noStars, Bool.and_eq_true] at h
    rw [starEach_ns h.1]
    show (false || (backTo pos (starEach es env)).any (·.1)) = false
    rw [noStars_any env pos h.2]
    rfl
def cstOk : T → Const → Bool
  | .int i, .int j => decide (i = j)
  | .bl a, .bool b => a == b
  | .non, .none => true
  | .str a, .str b => decide (a = b)
  | _, _ => false
def biNm : Bi → Str
  | .len => "len" | .abs => "abs" | .max2 => "max" | .min2 => "min" | .sum => "sum" | .tuple => "tuple" | .list => "list" | .dictP => "dict" | .dictT => "dict" | .repr => "repr" | .int => "int" | .gcd => "gcd" | .str => "str"
def bqNm : Bq → Str
  | .tuple => "tuple" | .sum => "sum" | .maxl => "max" | .minl => "min" | .any => "any" | .all => "all" | .len => "len" | .dictP => "dict" | .repr => "repr"
def mtNm : Mt → Str
  | .append => "append" | .extend => "extend" | .pop => "pop" | .popAt => "pop" | .reverse => "reverse" | .clear => "clear" | .get2 => "get" | .bits => "bit_length"
def mtAr : Mt → Nat
  | .append => 1 | .extend => 1 | .pop => 0 | .popAt => 1 | .reverse => 0 | .clear => 0 | .get2 => 2 | .bits => 0
def Gm.has (Γ : Gm) (x : Str) (t : T) : Bool := Γ.gl.any fun p => decide (p.1 = x) && T.beq p.2 t
theorem Gm.has_mem {Γ : Gm} {x : Str} {t : T} (h : Γ.has x t = true) : (x, t) ∈ Γ.gl := by
  unfold Gm.has at h
  rw [List.any_eq_true] at h
  obtain ⟨p, hp, e⟩ := h
  simp only [Bool.and_eq_true, decide_eq_true_eq] at e
  obtain ⟨rfl, e⟩ := e
  rw [← T.eq_of_beq e]
  exact hp
def lf (tst : Bool) (e : Expr) : Bool := !tst || plainTest e
/-- the names of a block, with their places -/
def ownOf (N : List Str) (is : List Nat) : List (Str × Nat) := is.filterMap fun i => (N[i]?).map fun x => (x, i)
/-- the keys of a display -/
def okK : List Str → List (Option Expr) → Bool
  | [], [] => true
  | k :: ks, some (.Constant (.str x) _ _) :: es => decide (x = k) && okK ks es
  | _, _ => false
mutual
def ok (Γ : Gm) (fn : Str → Bool) (sc : Scope) (tst : Bool) : CE → Expr → Bool
  | .var i, e => lf tst e && match e with
    | .Name x _ => decide (Γ.N[i]? = some x) && vis sc x && nodbg x
    | _ => false
  | .cst t, e => lf tst e && match e with
    | .Constant c _ _ => cstOk t c
    | _ => false
  | .glob x t, e => lf tst e && match e with
    | .Name y _ => decide (y = x) && glb sc x && nodbg x && Γ.has x t
    | _ => false
  | .bin op a b, e => lf tst e && match e with
    | .BinOp x o y _ => decide (o = op.op) && ok Γ fn sc false a x && ok Γ fn sc false b y
    | _ => false
  | .neg a, e => !tst && match e with
    | .UnaryOp .USub x _ => ok Γ fn sc false a x
    | _ => false
  | .nt a, e => match e with
    | .UnaryOp .Not x _ => ok Γ fn sc tst a x
    | _ => false
  | .isN neg a, e => match e with
    | .Compare x [op] [.Constant .none _ _] _ => decide (op = if neg then .IsNot else .Is) && ok Γ fn sc false a x
    | _ => false
  | .cmp op a b, e => match e with
    | .Compare x [o] [y] _ => decide (o = op.op) && notSet y && ok Γ fn sc false a x && ok Γ fn sc false b y
    | _ => false
  | .chain o1 o2 a b c, e => match e with
    | .Compare x [p, q] [y, z] _ => decide (p = o1.op) && decide (q = o2.op) && notSet y && notSet z && ok Γ fn sc false a x && ok Γ fn sc false b y && ok Γ fn sc false c z
    | _ => false
  | .and a b, e => match e with
    | .BoolOp .And (x :: y :: r) pos => ok Γ fn sc tst a x && (match r with
      | [] => ok Γ fn sc tst b y
      | _ => ok Γ fn sc tst b (.BoolOp .And (y :: r) pos))
    | _ => false
  | .or a b, e => match e with
    | .BoolOp .Or (x :: y :: r) pos => ok Γ fn sc tst a x && (match r with
      | [] => ok Γ fn sc tst b y
      | _ => ok Γ fn sc tst b (.BoolOp .Or (y :: r) pos))
    | _ => false
  | .ite c a b, e => !tst && match e with
    | .IfExp t x y _ => ok Γ fn sc true c t && ok Γ fn sc false a x && ok Γ fn sc false b y
    | _ => false
  | .tup es, e => lf tst e && match e with
    | .Tuple xs _ _ => okA Γ fn sc es xs
    | _ => false
  | .mk q, e => lf tst e && okQ Γ fn sc q e
  | .idx a i, e => lf tst e && match e with
    | .Subscript x y _ => notSlice y && ok Γ fn sc false a x && ok Γ fn sc false i y
    | _ => false
  | .slc a lo hi, e => lf tst e && match e with
    | .Subscript x (.Slice l h none _) _ => ok Γ fn sc false a x && okO Γ fn sc lo l && okO Γ fn sc hi h
    | _ => false
  | .revl a, e => lf tst e && match e with
    | .Subscript x (.Slice none none (some (.UnaryOp .USub (.Constant (.int 1) _ _) _)) _) _ => ok Γ fn sc false a x
    | _ => false
  | .call k es, e => lf tst e && match e with
    | .Call (.Name f _) (x :: xs) [] _ => decide (Γ.fns[k]? = some f) && decide (k < Γ.bnd) && glb sc f && nodbg f && noStars (x :: xs) && okA Γ fn sc es (x :: xs)
    | _ => false
  | .callv i es, e => lf tst e && match e with
    | .Call (.Name f _) (x :: xs) [] _ => decide (Γ.N[i]? = some f) && vis sc f && nodbg f && noStars (x :: xs) && okA Γ fn sc es (x :: xs)
    | _ => false
  | .bi b es, e => lf tst e && match e with
    | .Call (.Name f _) (x :: xs) [] _ => decide (f = biNm b) && (decide (b ≠ .gcd) || Γ.gcd) && glb sc f && noStars (x :: xs) && okA Γ fn sc es (x :: xs)
    | _ => false
  | .biq b q, e => lf tst e && match e with
    | .Call (.Name f _) [x] [] _ => decide (f = bqNm b) && glb sc f && notStar x && okQ Γ fn sc q x
    | _ => false
  | .meth mt o es, e => lf tst e && match e with
    | .Call (.Attribute x nm ap) xs [] cp => decide (nm = mtNm mt) && decide (xs.length = mtAr mt) && (ap.endLine == cp.line) && notCall x && noStars xs && ok Γ fn sc false o x && okA Γ fn sc es xs
    | _ => false
  | .dnew _, e => lf tst e && match e with
    | .Dict [] [] _ => true
    | _ => false
  | .ddisp ks es, e => lf tst e && match e with
    | .Dict keys vals _ => okK ks keys && noStars vals && decide (keys ≠ []) && decide (keys.length ≤ 15) && decide (keys.length = vals.length) && okA Γ fn sc es vals
    | _ => false
def okA (Γ : Gm) (fn : Str → Bool) (sc : Scope) : CEs → List Expr → Bool
  | .nil, xs => match xs with
    | [] => true
    | _ => false
  | .cons star a r, xs => match xs with
    | [] => false
    | x :: xs => (match star with
      | false => notStar x && ok Γ fn sc false a x
      | true => match x with
        | .Starred y _ => ok Γ fn sc false a y
        | _ => false) && okA Γ fn sc r xs
def okO (Γ : Gm) (fn : Str → Bool) (sc : Scope) : CO → Option Expr → Bool
  | .none, x => x.isNone
  | .some a, x => match x with
    | some x => ok Γ fn sc false a x
    | none => false
def okT (Γ : Gm) (fn : Str → Bool) (sc : Scope) : CO → List Expr → Bool
  | .none, x => x.isEmpty
  | .some a, x => match x with
    | [x] => ok Γ fn sc true a x
    | _ => false
def okQ (Γ : Gm) (fn : Str → Bool) (sc : Scope) : CQ → Expr → Bool
  | .lst es, e => match e with
    | .List xs _ => okA Γ fn sc es xs
    | _ => false
  | .lc elt tg it ifs own, e => match e with
    | .ListComp x [⟨t, i, fs, 0⟩] scope _ => notSet i && blkC Γ.N sc scope (ownOf Γ.N own) && decide ((ownOf Γ.N own).map (·.2) = own) && (ctNames tg).all (fun j => own.contains j) &&
        okI Γ fn sc it i && okG Γ.N (fun x => scope.names.lookup x == some .cell) (relS scope sc) tg t &&
        okT Γ (fun x => scope.names.lookup x == some .cell) (relS scope sc) ifs fs && ok Γ (fun x => scope.names.lookup x == some .cell) (relS scope sc) false elt x
    | _ => false
  | .lcd elt tg v ifs own, e => match e with
    | .ListComp x [⟨t, .Name d dp, fs, 0⟩] scope _ => blkC Γ.N sc scope (ownOf Γ.N own) && decide ((ownOf Γ.N own).map (·.2) = own) && (ctNames tg).all (fun j => own.contains j) &&
        decide (Γ.N[v]? = some d) && vis sc d && nodbg d && okG Γ.N (fun x => scope.names.lookup x == some .cell) (relS scope sc) tg t &&
        okT Γ (fun x => scope.names.lookup x == some .cell) (relS scope sc) ifs fs && ok Γ (fun x => scope.names.lookup x == some .cell) (relS scope sc) false elt x
    | _ => false
  | .rev q, e => match e with
    | .Subscript x (.Slice none none (some (.UnaryOp .USub (.Constant (.int 1) _ _) _)) _) _ => okQ Γ fn sc q x
    | _ => false
  | .sorted q, e => match e with
    | .Call (.Name f _) [x] [] _ => decide (f = ("sorted" : Str)) && glb sc f && notStar x && okQ Γ fn sc q x
    | _ => false
  | .cat a b, e => match e with
    | .BinOp x .Add y _ => okQ Γ fn sc a x && okQ Γ fn sc b y
    | _ => false
def okI (Γ : Gm) (fn : Str → Bool) (sc : Scope) : CI → Expr → Bool
  | .seq a, e => ok Γ fn sc false a e
  | .q q, e => okQ Γ fn sc q e
  | .rng a, e => match e with
    | .Call (.Name f _) [x] [] _ => decide (f = ("range" : Str)) && glb sc f && notStar x && ok Γ fn sc false a x
    | _ => false
  | .rng2 a b, e => match e with
    | .Call (.Name f _) [x, y] [] _ => decide (f = ("range" : Str)) && glb sc f && notStar x && notStar y && ok Γ fn sc false a x && ok Γ fn sc false b y
    | _ => false
  | .rngd a b, e => match e with
    | .Call (.Name f _) [x, y, .UnaryOp .USub (.Constant (.int 1) _ _) _] [] _ => decide (f = ("range" : Str)) && glb sc f && notStar x && notStar y && ok Γ fn sc false a x && ok Γ fn sc false b y
    | _ => false
  | .zip _ _, _ => false
end
/-! ### rules of one's own -/
section
variable {X : Cx} {tg : Expr}
theorem PE.imp {e : Expr} {t t' : TE} (h : PE X e t) (k : ∀ σ H Q, t' σ H Q → t σ H Q) : PE X e t' := ⟨fun pins s σ H Q I hw => h.run pins s σ H Q I (k σ H Q hw)⟩
theorem PT.imp {e : Expr} {t t' : TT} (h : PT X e t) (k : ∀ σ H Q, t' σ H Q → t σ H Q) : PT X e t' := ⟨fun pins s σ H Q I hw => h.run pins s σ H Q I (k σ H Q hw)⟩
theorem PA.imp {e : List Expr} {t t' : TA} (h : PA X e t) (k : ∀ σ H Q, t' σ H Q → t σ H Q) : PA X e t' := ⟨fun pos pins s σ H Q I hw => h.run pos pins s σ H Q I (k σ H Q hw)⟩
theorem PI.imp {tg e : Expr} {t t' : TI} (h : PI X tg e t) (k : ∀ σ H Q, t' σ H Q → t σ H Q) : PI X tg e t' := ⟨fun pins s σ H Q I hw => h.run pins s σ H Q I (k σ H Q hw)⟩
theorem pw_of {op : BoolOp} {vs : List Expr} {pos : Pos} {t : TT} (h : PT X (.BoolOp op vs pos) t) : PW X (.BoolOp op vs pos) t := ⟨fun whole => h.run⟩
/-- a list or a tuple is walked -/
def iSeq (K : PySem.W.Frag) (tl : TE) : TI := fun σ H R => tl σ H fun x H1 => (∃ a, x = .ref a ∧ (∃ xs, SqL K H1 a xs) ∧ R (Itl K a) H1) ∨ ∃ a, x = .ref a ∧ (∃ xs, SqT K H1 a xs) ∧ R (Itt K a) H1
theorem pi_seq {l : Expr} {tl : TE} (hl : PE X l tl) : PI X tg l (iSeq X.K tl) := by
  refine ⟨fun pins s σ H R I h => ?_⟩
  refine thn (hl.run pins s σ H _ I h) fun v s1 ⟨x, H1, I1, r1, q1⟩ => ?_
  rcases q1 with ⟨a, e, ⟨xs, hq⟩, q⟩ | ⟨a, e, ⟨xs, hq⟩, q⟩
  · subst e
    cases r1
    obtain ⟨its, rv, p, hz⟩ := I1.list hq
    refine wpAny_pyIter_list p.isList ?_
    refine ⟨s1.heap.objs.size, [s1.heap.objs.size], _, _, H1, rfl, I1.kept (t' := s1.toks) fun b o e => Heap.get?_push_of_some _ e, turn_list a _, ⟨_, Heap.get?_push_size _ rfl, rfl, rfl⟩, fun b hb => ?_, q⟩
    have e : b = s1.heap.objs.size := by simpa using hb
    subst e
    exact I1.fpOk (Nat.le_refl _) (I1.hok.fresh (Nat.le_refl _))
  · subst e
    cases r1
    obtain ⟨its, rv, p, hz⟩ := I1.tuple hq
    refine wpAny_pyIter_tuple (show s1.heap.IsTuple a its.toArray from p) ?_
    refine ⟨s1.heap.objs.size, [s1.heap.objs.size], _, _, H1, rfl, I1.kept (t' := s1.toks) fun b o e => Heap.get?_push_of_some _ e, turn_tuple a _, ⟨_, Heap.get?_push_size _ rfl, rfl, rfl⟩, fun b hb => ?_, q⟩
    have e : b = s1.heap.objs.size := by simpa using hb
    subst e
    exact I1.fpOk (Nat.le_refl _) (I1.hok.fresh (Nat.le_refl _))
theorem run_fnG {pins : List (Addr × Obj)} {σ : L2.St} {H : Hp} {s : Shared} {k : Nat} {f : Addr} {sp : Sp} {E : XK} {Q : VK} {us : List Value} {vs : List V} (F : FnG X.prog X.w X.K X.mg X.base k f sp) (hr : Room k X.A) (hg : X.A.guards = some []) (hx : PassesAt (L2.CX X.prog X.w) X σ E)
    (I : Inv X pins σ H s) (r : Vals vs us) (h : sp vs H Q E) : wpAny (model X.prog X.w) X.A (call (.ref f) us) (EP X pins σ Q) X.xe s := by
  refine wpAny_call (codeAny_mono (F X.A X.stack s H us vs Q E hr hg I.env0 r h) fun r s' hq => ?_)
  cases r with
  | error e => exact hx pins H s e s' I hq
  | ok fl =>
    cases fl with
    | ret u => exact I.after hq
    | next => exact False.elim hq
    | brk => exact False.elim hq
    | cont => exact False.elim hq
def tCallG (sp : Sp) (E : L2.St → XK) (t : TA) : TE := fun σ H Q => t σ H fun vs H1 => sp vs H1 Q (E σ)
theorem pe_callG {k : Nat} {f : Addr} {sp : Sp} {E : L2.St → XK} {x : Str} {e : Expr} {es : List Expr} {t : TA} {p pos : Pos} (F : FnG X.prog X.w X.K X.mg X.base k f sp) (hr : Room k X.A) (hgd : X.A.guards = some []) (hg : Gl X x) (hm : X.mg x = some (.ref f)) (hk : PySem.W.keepIn X.K (.ref f) = true)
    (hx : ∀ σ, PassesAt (L2.CX X.prog X.w) X σ (E σ)) (ha : PA X (e :: es) t) (hdb : (x == ("__debug__" : Str)) = false)
    (he : starEach (e :: es) X.env = (false, eval e X.env) :: starEach es X.env) (hpl : (backTo pos (starEach es X.env)).any (·.1) = false) : PE X (.Call (.Name x p) (e :: es) [] pos) (tCallG sp E t) := by
  refine ⟨fun pins s σ H Q I h => ?_⟩
  refine wpAny_Call_Name_kw (ld_glob I hg hm ?_ hdb)
  refine PySem.W.callWith_K (h₀ := X.base) I.ok.mod.kin hk (thn (ha.run pos pins s σ H _ I h) fun us s1 ⟨vs, H1, I1, r, q⟩ => ⟨I1.kIn, ?_⟩) he hpl
  exact run_fnG F hr hgd (hx σ) I1 r q
/-- a local name that holds a def -/
def tCallVG (i : Nat) (fa : Nat → Addr) (n : Nat) (sp : Nat → Sp) (E : L2.St → XK) (t : TA) : TE := fun σ H Q => ∃ k, σ[i]? = some (some (.ref (fa k))) ∧ t σ H fun vs H1 => k < n ∧ sp k vs H1 Q (E σ)
theorem pe_callVG {i n k : Nat} {fa : Nat → Addr} {sp : Nat → Sp} {E : L2.St → XK} {x : Str} {e : Expr} {es : List Expr} {t : TA} {p pos : Pos} (F : ∀ j, j < n → FnG X.prog X.w X.K X.mg X.base k (fa j) (sp j)) (hr : Room k X.A) (hgd : X.A.guards = some []) (hN : X.N[i]? = some x) (hv : Vis X.env.scope x)
    (hk : ∀ j, PySem.W.keepIn X.K (.ref (fa j)) = true) (hx : ∀ σ, PassesAt (L2.CX X.prog X.w) X σ (E σ)) (ha : PA X (e :: es) t) (hdb : (x == ("__debug__" : Str)) = false) (hcd : (x == ("__classdict__" : Str)) = false)
    (he : starEach (e :: es) X.env = (false, eval e X.env) :: starEach es X.env) (hpl : (backTo pos (starEach es X.env)).any (·.1) = false) : PE X (.Call (.Name x p) (e :: es) [] pos) (tCallVG i fa n sp E t) := by
  refine ⟨fun pins s σ H Q I h => ?_⟩
  obtain ⟨j, hs, ht⟩ := h
  refine wpAny_Call_Name_kw (thn ((pe_var (pos := p) hN hv hdb hcd).run pins s σ H (fun v H1 => v = .ref (fa j) ∧ H1 = H) I ⟨.ref (fa j), hs, rfl, rfl⟩) fun u s1 ⟨v, H1, I1, r1, q1⟩ => ?_)
  obtain ⟨rfl, rfl⟩ := q1
  cases r1
  refine PySem.W.callWith_K (h₀ := X.base) I.ok.mod.kin (hk j) (thn (ha.run pos pins s1 σ _ _ I1 ht) fun us s2 ⟨vs, H2, I2, r, hj, q⟩ => ⟨I2.kIn, ?_⟩) he hpl
  exact run_fnG (F j hj) hr hgd (hx σ) I2 r q
/-- d.get(y, x) on a dict of the memory -/
theorem pe_getX {fa : Ad} {Wx : WX} {o e f : Expr} {apos cpos : Pos} {to : TE} {t : TA} (hu : X.A.units + 64 < cLine) (ho : PE X o to) (ha : PA X [e, f] t) (hb : attributeBase o "get" X.env (eval o X.env) = eval o X.env) (he : notStar e = true) (hf : notStar f = true) (hl : (apos.endLine == cpos.line) = true) :
    PE X (.Call (.Attribute o "get" apos) [e, f] [] cpos) (fun σ H Q => to σ H fun x H1 => (∃ ι m n, Sim (X.wo fa) ι m H1 ∧ Rep (X.wo fa) ι H1 (.ref n) x ∧ mtyOk .get2 (.ref n) m = true) ∧ t σ H1 fun vs H2 => rM (X.wo fa) mtGet2 x vs H2 Q) := by
  refine ⟨fun pins s σ H Q I h => ?_⟩
  have tr : starEach [e, f] X.env = [(false, eval e X.env), (false, eval f X.env)] := by rw [starEach_ns he, starEach_ns hf]; rfl
  refine wpAny_Call_method hb (by rw [tr]; rfl) hl PySem.F.plainAttrs_dict PySem.F.slot_dict_get PySem.F.type_dict_get (thn (ho.run pins s σ H _ I h) fun u s1 ⟨x, H1, I1, rx, ⟨ι, m, n, S, rt, hd⟩, q1⟩ => ?_)
  obtain ⟨a, rfl, t1, t2⟩ := isD_sim S rt hd I1
  obtain rfl : u = Value.ref a := rx
  refine ⟨t1, t2, ?_⟩
  have hA := ha.run cpos pins s1 σ H1 _ I1 q1
  rw [tr] at hA ⊢
  refine Calls.callWith_builtin rfl (Calls.evalArgs_plain ?_)
  refine thn hA fun us s2 ⟨vs, H2, I2, r2, q2⟩ => ?_
  obtain ⟨ew, ι, m, t, ts, S, rt, rs, h⟩ := q2
  unfold mtGet2 at h
  split at h
  any_goals exact h.none.elim
  rename_i n k d
  split at h
  · rename_i o' eo
    obtain ⟨y, z, rfl, ry, rz⟩ := rs.two'
    obtain ⟨a', ov, ea, g, g1, g2⟩ := sim_get S rt ry eo
    cases ea
    obtain ⟨u1, u2, rfl, q1, q2⟩ := Vals.two r2
    refine x_get2 (by omega) I2 g q1 q2 fun w' s3 I3 rw' => ⟨_, H2, I3, rw', h.ret S _ ?_⟩
    cases o' with
    | none => rw [g2 rfl]; exact rz
    | some t' => obtain ⟨v, e, r⟩ := g1 t' rfl; rw [e]; exact r
  · exact h.none.elim
end
end Ev
end
section
set_option linter.all false
set_option maxRecDepth 10000
/-! Ev10: a text that the checker passes does what the core text tells: expressions. -/
namespace Ev
open PySem PySem.Spec PyProof.Rows L2
section
variable {W : Wo} {Wx : WX} {α β γ : Type} {ι ι1 ι' : List Addr} {H H1 H' : Hp} {m m1 m' : Mem} {τ : Lo} {σ : L2.St} {ew ew' : EW}
theorem truth_inv {kv : β → List Addr → Hp → Prop} {x : T} {f : Bool → Mem → Rm β} (h : Wt W ew kv ι H (Ev.bnd (truth x m) f)) : ∃ k, x = .bl k ∧ Wt W ew kv ι H (f k m) := by
  cases x with
  | bl k => exact ⟨k, rfl, h⟩
  | _ => exact h.none.elim
theorem truth_inv1 {kv : Bool → List Addr → Hp → Prop} {x : T} (h : Wt W ew kv ι H (truth x m)) : ∃ k, x = .bl k ∧ Wt W ew kv ι H (Ev.ret k m) := by
  cases x with
  | bl k => exact ⟨k, rfl, h⟩
  | _ => exact h.none.elim
theorem xT.imp {q : γ → α → List Addr → Hp → Prop} {Q Q' : γ} {f : Lo → Mem → Rm α} (h : xT W Wx q f σ H Q) (k : ∀ a ι1 H1, q Q a ι1 H1 → q Q' a ι1 H1) : xT W Wx q f σ H Q' := by
  obtain ⟨ι, m, τ, S, sl, h⟩ := h
  exact ⟨ι, m, τ, S, sl, h.imp fun a ι1 H1 _ z => k a ι1 H1 z⟩
/-- a value that a test asks -/
theorem bT_of {f : Lo → Mem → Rm T} {Q : Bool → Hp → Prop} (h : bT W Wx (fun τ m => Ev.bnd (f τ m) fun x m1 => truth x m1) σ H Q) : tB (eT W Wx f) σ H Q := by
  obtain ⟨ι, m, τ, S, sl, h⟩ := h
  refine xT.bnd S sl h fun x ι1 H1 m1 S1 x1 sl1 h1 v rv => ?_
  obtain ⟨k, rfl, h1⟩ := truth_inv1 h1
  exact ⟨k, rep_bl.mp rv, h1.ret S1⟩
end
def Snd (X : Cx) (tst : Bool) (e : Expr) (t : TE) : Prop := if tst = true then PT X e (tB t) else PE X e t
theorem Snd.pe {X : Cx} {e : Expr} {t : TE} (h : Snd X false e t) : PE X e t := by simpa [Snd] using h
theorem Snd.pt {X : Cx} {e : Expr} {t : TE} (h : Snd X true e t) : PT X e (tB t) := by simpa [Snd] using h
theorem Snd.leaf {X : Cx} {tst : Bool} {e : Expr} {t : TE} (h : lf tst e = true) (p : PE X e t) : Snd X tst e t := by
  unfold Snd
  cases tst with
  | false => simpa using p
  | true => simp only [↓reduceIte]; exact pt_val p (test_pl (by simpa [lf] using h))
theorem Snd.val {X : Cx} {tst : Bool} {e : Expr} {t : TE} (h : tst = false) (p : PE X e t) : Snd X tst e t := by
  subst h; simpa [Snd] using p
theorem walk_list {W : Wo} {ι : List Addr} {H : Hp} {a : Addr} {l : List T} {st : Stay}
    (inj : ∀ ι1 m1 H1, Ext ι H ι1 H1 → Sim W ι1 m1 H1 → st.ok m1 = true → ∃ ws, SqL W.K H1 a ws ∧ Reps W ι1 H1 l ws) : Wlk W (Itl W.K a) l st ι H := by
  intro i ι1 m1 H1 x S1 hs
  obtain ⟨ws, h1, r1⟩ := inj ι1 m1 H1 x S1 hs
  refine ⟨fun t ht => ?_, fun hi => ⟨ws, h1, by rw [← r1.length]; exact hi⟩⟩
  obtain ⟨w, e, rw'⟩ := r1.get ht
  refine ⟨⟨ws, w, h1, e⟩, fun x' H' hy => ?_⟩
  obtain ⟨rfl, hy⟩ := hy
  have e2 := hy ws h1
  rw [e] at e2
  cases e2
  exact ⟨S1, .refl _ _, rw'⟩
theorem walk_tup {W : Wo} {ι : List Addr} {H : Hp} {m : Mem} {a : Addr} {vs : List V} {l : List T} {st : Stay} (S : Sim W ι m H) (h : SqT W.K H a vs) (r : Reps W ι H l vs) : Wlk W (Itt W.K a) l st ι H := by
  intro i ι1 m1 H1 x S1 hs
  have h1 := SqT.mono S x h
  have r1 := Reps.mono S x r
  refine ⟨fun t ht => ?_, fun hi => ⟨vs, h1, by rw [← r1.length]; exact hi⟩⟩
  obtain ⟨w, e, rw'⟩ := r1.get ht
  refine ⟨⟨vs, w, h1, e⟩, fun x' H' hy => ?_⟩
  obtain ⟨rfl, hy⟩ := hy
  have e2 := hy vs h1
  rw [e] at e2
  cases e2
  exact ⟨S1, .refl _ _, rw'⟩
theorem beqs_lst {l l' : List T} (h : MO.beq (.lst l) (.lst l') = true) : l = l' := T.eq_of_beqs h
/-- what stands where a walked list stood -/
theorem stay_lst {m : Mem} {n : Nat} {l : List T} (h : Stay.ok (some (n, .lst l)) m = true) : m[n]? = some (.lst l) := by
  simp only [Stay.ok] at h
  split at h
  · rename_i o e
    rw [e]
    cases o with
    | lst l' => rw [beqs_lst h]
    | _ => simp [MO.beq] at h
  · cases h
theorem walk_seq {W : Wo} {ι : List Addr} {H : Hp} {m : Mem} {t : T} {v : V} {l : List T} (S : Sim W ι m H) (r : Rep W ι H t v) (e : seqOf m t = some l) :
    (∃ a, v = .ref a ∧ (∃ xs, SqL W.K H a xs) ∧ Wlk W (Itl W.K a) l (stayOf m t) ι H) ∨ ∃ a, v = .ref a ∧ (∃ xs, SqT W.K H a xs) ∧ Wlk W (Itt W.K a) l (stayOf m t) ι H := by
  cases t with
  | tup l' =>
    simp only [seqOf, Option.some.injEq] at e; subst e
    obtain ⟨a, vs, rfl, h1, h2⟩ := rep_tup.mp r
    exact .inr ⟨a, rfl, ⟨vs, h1⟩, walk_tup S h1 h2⟩
  | ro l' =>
    simp only [seqOf, Option.some.injEq] at e; subst e
    obtain ⟨a, vs, rfl, h1, h2⟩ := rep_ro.mp r
    exact .inl ⟨a, rfl, ⟨vs, h1.1⟩, walk_list fun ι1 m1 H1 x S1 _ => ⟨vs, (Ro.mono S x h1).1, Reps.mono S x h2⟩⟩
  | ref n =>
    simp only [seqOf] at e
    split at e
    · rename_i l' hl
      cases e
      obtain ⟨a, vs, rfl, hn, h1, h2⟩ := S.lst r hl
      refine .inl ⟨a, rfl, ⟨vs, .of h1⟩, walk_list fun ι1 m1 H1 x S1 hs => ?_⟩
      have hs' : Stay.ok (some (n, .lst l)) m1 = true := by simpa [stayOf, hl] using hs
      obtain ⟨ws, g1, g2⟩ := S1.ob n a _ (x.get hn) (stay_lst hs')
      exact ⟨ws, .of g1, g2⟩
    · cases e
  | _ => simp [seqOf] at e
section
variable {Γ : Gm} {fa : Ad} {Φ : Fns} {Wx : WX} {fn : Str → Bool} {sc : Scope} {X : Cx}
theorem Ct.hu (C : Ct Γ fa Φ Wx fn sc X) : X.A.units + 64 < cLine := C.room.units
theorem Ct.gl' (C : Ct Γ fa Φ Wx fn sc X) {x : Str} (h : glb sc x = true) : Gl X x := by
  have := of_decide_eq_true h
  show X.env.scope.names.lookup x = _
  rw [C.sc]; exact this
theorem nodbg_ok {x : Str} (h : nodbg x = true) : (x == ("__debug__" : Str)) = false ∧ (x == ("__classdict__" : Str)) = false := by
  unfold nodbg at h
  simpa using h
theorem Ct.vis' (C : Ct Γ fa Φ Wx fn sc X) {x : Str} (h : vis sc x = true) : Vis X.env.scope x := by rw [C.sc]; exact vis_ok h
/-- a built-in function called -/
theorem pe_bi (C : Ct Γ fa Φ Wx fn sc X) (b : Bi) {f : Str} {x : Expr} {xs : List Expr} {p pos : Pos} {t : TA} (hf : f = biNm b) (hgc : (decide (b ≠ .gcd) || Γ.gcd) = true) (hg : glb sc f = true) (hs : noStars (x :: xs) = true) (ha : PA X (x :: xs) t) :
    PE X (.Call (.Name f p) (x :: xs) [] pos) (tCB (rA (X.wo fa) (biop b)) t) := by
  subst hf
  have hg' := C.gl' hg
  simp only [noStars, Bool.and_eq_true] at hs
  have e1 := starEach_ns hs.1 X.env xs
  have e2 : (backTo pos (starEach xs X.env)).any (·.1) = false := noStars_any X.env pos hs.2
  cases b with
  | len => exact pe_callB b_len hg' (C.blt _ (by decide)) (by decide +kernel) ha (by decide) (by decide) e1 e2
  | abs => exact pe_callB b_abs hg' (C.blt _ (by decide)) (by decide +kernel) ha (by decide) (by decide) e1 e2
  | max2 => exact pe_callB (b_max2 C.calm) hg' (C.blt _ (by decide)) (by decide +kernel) ha (by decide) (by decide) e1 e2
  | min2 => exact pe_callB (b_min2 C.calm) hg' (C.blt _ (by decide)) (by decide +kernel) ha (by decide) (by decide) e1 e2
  | sum => exact pe_callB (b_sum C.calm) hg' (C.blt _ (by decide)) (by decide +kernel) ha (by decide) (by decide) e1 e2
  | tuple => exact pe_callTy b_tuple hg' (C.blt _ (by decide)) (by decide +kernel) ha (by decide) (by decide) e1 e2
  | list => exact pe_callTy b_list hg' (C.blt _ (by decide)) (by decide +kernel) ha (by decide) (by decide) e1 e2
  | dictP => exact pe_callTy (b_dictP C.calm) hg' (C.blt _ (by decide)) (by decide +kernel) ha (by decide) (by decide) e1 e2
  | dictT => exact pe_callTy (b_dictT' C.hu C.calm) hg' (C.blt _ (by decide)) (by decide +kernel) ha (by decide) (by decide) e1 e2
  | repr => exact pe_callB (b_repr C.hu C.hg) hg' (C.blt _ (by decide)) (by decide +kernel) ha (by decide) (by decide) e1 e2
  | int => exact pe_callTy b_int hg' (C.blt _ (by decide)) (by decide +kernel) ha (by decide) (by decide) e1 e2
  | gcd => exact pe_callBfun b_gcd hg' (C.gcd (by simpa using hgc)) ha (by decide) e1 e2
  | str => exact pe_callTy b_str hg' (C.blt _ (by decide)) (by decide +kernel) ha (by decide) (by decide) e1 e2
/-- .. with a new list -/
def rQ (W : Wo) (f : List T → Mem → Rm T) : List V → Hp → VK → Prop := fun xs H Q => ∃ ew ι m l D vs H0, xs = [.ref D] ∧ H0 D = none ∧ H = upd H0 D (.lst vs) ∧ Sim W ι m H0 ∧ Reps W ι H0 l vs ∧ Wt W ew (kvV W Q) ι H0 (f l m)
theorem maxI_spec : ∀ {ns : List Int} {k : Int}, maxI ns = some k → k ∈ ns ∧ ∀ y ∈ ns, y ≤ k
  | [], k, h => by simp [maxI] at h
  | [a], k, h => by simp [maxI] at h; subst h; simp
  | a :: b :: r, k, h => by
    simp only [maxI, Option.map_eq_some_iff] at h
    obtain ⟨j, h1, h2⟩ := h
    obtain ⟨i1, i2⟩ := maxI_spec h1
    subst h2
    split
    · rename_i z
      exact ⟨List.mem_cons_of_mem _ i1, fun y hy => by
        rcases List.mem_cons.mp hy with rfl | hy
        · omega
        · exact i2 y hy⟩
    · rename_i z
      exact ⟨List.mem_cons_self .., fun y hy => by
        rcases List.mem_cons.mp hy with rfl | hy
        · omega
        · have := i2 y hy; omega⟩
theorem minI_spec : ∀ {ns : List Int} {k : Int}, minI ns = some k → k ∈ ns ∧ ∀ y ∈ ns, k ≤ y
  | [], k, h => by simp [minI] at h
  | [a], k, h => by simp [minI] at h; subst h; simp
  | a :: b :: r, k, h => by
    simp only [minI, Option.map_eq_some_iff] at h
    obtain ⟨j, h1, h2⟩ := h
    obtain ⟨i1, i2⟩ := minI_spec h1
    subst h2
    split
    · rename_i z
      exact ⟨List.mem_cons_of_mem _ i1, fun y hy => by
        rcases List.mem_cons.mp hy with rfl | hy
        · omega
        · exact i2 y hy⟩
    · rename_i z
      exact ⟨List.mem_cons_self .., fun y hy => by
        rcases List.mem_cons.mp hy with rfl | hy
        · omega
        · have := i2 y hy; omega⟩
/-- the list outside is dropped from sight -/
theorem Wt.drop {W : Wo} {ew : EW} {kv : T → List Addr → Hp → Prop} {ι : List Addr} {H : Hp} {m : Mem} {t : T} {D : Addr} {vs : List V} (h : Wt W ew kv ι H (Ev.ret t m)) (S : Sim W ι m H) (hD : H D = Option.none) : kv t ι (upd H D (.lst vs)) := by
  obtain ⟨S1, x1⟩ := S.out (o := .lst vs) hD
  exact h.ret' S1 x1
theorem q_tuple : CallR X (.type "tuple") (rQ (X.wo fa) (bqop .tuple)) := by
  intro pins s σ H xs us Q I r h
  obtain ⟨ew, ι, m, l, D, vs, H0, rfl, hD, rfl, S, rs, h⟩ := h
  refine call_tuple_of pins s σ _ _ us Q I r ⟨D, vs, rfl, .inl ⟨.of upd_same, fun p hp => ?_⟩⟩
  obtain ⟨S1, x1⟩ := S.out (o := .lst vs) hD
  exact (h.later x1).newT S1 (Reps.mono S x1 rs) hp
theorem q_len : CallR X (.builtin "len") (rQ (X.wo fa) (bqop .len)) := by
  intro pins s σ H xs us Q I r h
  obtain ⟨ew, ι, m, l, D, vs, H0, rfl, hD, rfl, S, rs, h⟩ := h
  refine call_len pins s σ _ _ us Q I r ⟨_, vs.length, rfl, .inl ⟨vs, .of upd_same, rfl⟩, ?_⟩
  rw [← rs.length]
  exact h.drop S hD _ (rep_int.mpr rfl)
theorem q_sum (hc : X.calm = true) : CallR X (.builtin "sum") (rQ (X.wo fa) (bqop .sum)) := by
  intro pins s σ H xs us Q I r h
  obtain ⟨ew, ι, m, l, D, vs, H0, rfl, hD, rfl, S, rs, h⟩ := h
  simp only [bqop] at h
  split at h
  · rename_i ns e
    have ev := rs.ints e
    subst ev
    exact cr_sum hc pins s σ _ _ us Q I r ⟨D, ns, rfl, .of upd_same, h.drop S hD _ (rep_int.mpr rfl)⟩
  · exact h.none.elim
theorem ints_pos {ns : List Int} {k : Int} (h : k ∈ ns) : 0 < ns.length := by cases ns with | nil => cases h | cons a r => simp
theorem q_max (hc : X.calm = true) : CallR X (.builtin "max") (rQ (X.wo fa) (bqop .maxl)) := by
  intro pins s σ H xs us Q I r h
  obtain ⟨ew, ι, m, l, D, vs, H0, rfl, hD, rfl, S, rs, h⟩ := h
  simp only [bqop] at h
  split at h
  · rename_i ns e
    obtain ⟨z, ez, h⟩ := h.opt
    obtain ⟨k, ek, rfl⟩ := Option.map_eq_some_iff.mp ez
    obtain ⟨k1, k2⟩ := maxI_spec ek
    have ev := rs.ints e
    subst ev
    refine cr_max hc pins s σ _ _ us Q I r ⟨D, ns, rfl, .of upd_same, ints_pos k1, fun mx h1 h2 => ?_⟩
    have : mx = k := Int.le_antisymm (k2 mx h1) (h2 k k1)
    rw [this]
    exact h.drop S hD _ (rep_int.mpr rfl)
  · exact h.none.elim
theorem q_min (hc : X.calm = true) : CallR X (.builtin "min") (rQ (X.wo fa) (bqop .minl)) := by
  intro pins s σ H xs us Q I r h
  obtain ⟨ew, ι, m, l, D, vs, H0, rfl, hD, rfl, S, rs, h⟩ := h
  simp only [bqop] at h
  split at h
  · rename_i ns e
    obtain ⟨z, ez, h⟩ := h.opt
    obtain ⟨k, ek, rfl⟩ := Option.map_eq_some_iff.mp ez
    obtain ⟨k1, k2⟩ := minI_spec ek
    have ev := rs.ints e
    subst ev
    refine cr_min hc pins s σ _ _ us Q I r ⟨D, ns, rfl, .of upd_same, ints_pos k1, fun mx h1 h2 => ?_⟩
    have : mx = k := Int.le_antisymm (h2 k k1) (k2 mx h1)
    rw [this]
    exact h.drop S hD _ (rep_int.mpr rfl)
  · exact h.none.elim
theorem q_any (hc : X.calm = true) : CallR X (.builtin "any") (rQ (X.wo fa) (bqop .any)) := by
  intro pins s σ H xs us Q I r h
  obtain ⟨ew, ι, m, l, D, vs, H0, rfl, hD, rfl, S, rs, h⟩ := h
  simp only [bqop] at h
  split at h
  · rename_i ns e
    have ev := rs.bls e
    subst ev
    exact cr_any hc pins s σ _ _ us Q I r ⟨D, ns, rfl, .of upd_same, h.drop S hD _ (rep_bl.mpr rfl)⟩
  · exact h.none.elim
theorem q_all (hc : X.calm = true) : CallR X (.builtin "all") (rQ (X.wo fa) (bqop .all)) := by
  intro pins s σ H xs us Q I r h
  obtain ⟨ew, ι, m, l, D, vs, H0, rfl, hD, rfl, S, rs, h⟩ := h
  simp only [bqop] at h
  split at h
  · rename_i ns e
    have ev := rs.bls e
    subst ev
    exact cr_all hc pins s σ _ _ us Q I r ⟨D, ns, rfl, .of upd_same, h.drop S hD _ (rep_bl.mpr rfl)⟩
  · exact h.none.elim
theorem q_dict (hc : X.calm = true) : CallR X (.type "dict") (rQ (X.wo fa) (bqop .dictP)) := by
  intro pins s σ H xs us Q I r h
  obtain ⟨ew, ι, m, l, D, vs, H0, rfl, hD, rfl, S, rs, h⟩ := h
  simp only [bqop] at h
  split at h
  · rename_i kvs e
    obtain ⟨S1, x1⟩ := S.out (o := .lst vs) hD
    obtain ⟨ps, kws, rfl, i1, i2, i3⟩ := reps_pairs e (Reps.mono S x1 rs)
    obtain ⟨m1, m2, m3⟩ := merge_rel kvs kws [] [] i2 i3 rfl Reps.nil List.nodup_nil
    exact call_dictP hc pins s σ _ _ us Q I r ⟨D, ps, kws, rfl, .of upd_same, i1, fun p hp => (h.later x1).alloc S1 hp fun c => ⟨_, upd_same, m1, Reps.carry c _ _ m2, m3⟩⟩
  · exact h.none.elim
theorem q_repr (hu : X.A.units + 64 < cLine) (hg : X.A.guards = some []) : CallR X (.builtin "repr") (rQ (X.wo fa) (bqop .repr)) := by
  intro pins s σ H xs us Q I r h
  obtain ⟨ew, ι, m, l, D, vs, H0, rfl, hD, rfl, S, rs, h⟩ := h
  simp only [bqop] at h
  split at h
  · rename_i l' e
    obtain ⟨g, h⟩ := h.guard
    simp only [Bool.and_eq_true, decide_eq_true_eq] at g
    obtain ⟨S1, x1⟩ := S.out (o := .lst vs) hD
    rw [Vals.ref1 r]
    refine b_reprD hu hg (xs := [.ref D]) (us := [.ref D]) (d := .lst l') I ?_ g.1.1 g.1.2 g.2 (h.drop S hD _ (by simp only [Rep]))
    simp only [toPy]
    exact .lst (.of upd_same) (dpRs (dp_rf S1 4) l l' vs e (Reps.mono S x1 rs))
  · exact h.none.elim
theorem pe_bq (C : Ct Γ fa Φ Wx fn sc X) (b : Bq) {f : Str} {x : Expr} {p pos : Pos} {t : TA} (hf : f = bqNm b) (hg : glb sc f = true) (hs : notStar x = true) (ha : PA X [x] t) :
    PE X (.Call (.Name f p) [x] [] pos) (tCB (rQ (X.wo fa) (bqop b)) t) := by
  subst hf
  have hg' := C.gl' hg
  have e1 := starEach_ns hs X.env []
  have e2 : (backTo pos (starEach [] X.env)).any (·.1) = false := rfl
  cases b with
  | tuple => exact pe_callTy q_tuple hg' (C.blt _ (by decide)) (by decide +kernel) ha (by decide) (by decide) e1 e2
  | sum => exact pe_callB (q_sum C.calm) hg' (C.blt _ (by decide)) (by decide +kernel) ha (by decide) (by decide) e1 e2
  | maxl => exact pe_callB (q_max C.calm) hg' (C.blt _ (by decide)) (by decide +kernel) ha (by decide) (by decide) e1 e2
  | minl => exact pe_callB (q_min C.calm) hg' (C.blt _ (by decide)) (by decide +kernel) ha (by decide) (by decide) e1 e2
  | any => exact pe_callB (q_any C.calm) hg' (C.blt _ (by decide)) (by decide +kernel) ha (by decide) (by decide) e1 e2
  | all => exact pe_callB (q_all C.calm) hg' (C.blt _ (by decide)) (by decide +kernel) ha (by decide) (by decide) e1 e2
  | len => exact pe_callB q_len hg' (C.blt _ (by decide)) (by decide +kernel) ha (by decide) (by decide) e1 e2
  | dictP => exact pe_callTy (q_dict C.calm) hg' (C.blt _ (by decide)) (by decide +kernel) ha (by decide) (by decide) e1 e2
  | repr => exact pe_callB (q_repr C.hu C.hg) hg' (C.blt _ (by decide)) (by decide +kernel) ha (by decide) (by decide) e1 e2
end
end Ev
end
section
set_option linter.all false
set_option maxRecDepth 10000
/-! Ev10b: a dict's keys walked, sorted lists, dict displays. -/
namespace Ev
open PySem PySem.Spec PyProof.Rows L2
section
variable {X : Cx} {pins : List (Addr × Obj)} {σ : L2.St} {H : Hp} {s : Shared} {d : Addr} {o : Obj}
theorem xu_get {xs : List XE} {us : List (List Key × Addr × Value)} (r : XU xs us) : ∀ {i : Nat} {e : XE}, xs[i]? = some e → ∃ u, us[i]? = some u ∧ u.2.1 = e.2.1 := by
  induction r with
  | nil => intro i e h; simp at h
  | @cons p q ps qs h t ih =>
    intro i e hi
    cases i with
    | zero => simp at hi; subst hi; exact ⟨q, rfl, h.2.1.symm⟩
    | succ i => obtain ⟨u, h1, h2⟩ := ih (i := i) (by simpa using hi); exact ⟨u, by simpa using h1, h2⟩
theorem frzX (I : Inv X pins σ H s) {xs : List XE} (h : H d = some (.frz o (dX X.prog X.w d xs))) :
    (d == sysModules) = false ∧ s.heap.get? d = some o ∧ o.ExactDict ∧ ∃ (es : Array DictEntry) (ep : Nat), o.data = .dict es ep ∧ es.size = xs.length ∧
      ∀ (i : Nat) (e : XE), xs[i]? = some e → ∃ (en : DictEntry), es[i]? = some en ∧ en.key = .ref e.2.1 := by
  obtain ⟨hd, ⟨z, hs, us, pr, o', es, ep, ho, hx, hdt, he, _⟩, _⟩ := (show ObjOk X.prog X.w H s.heap d (.frz o (.ext (dXφ X.prog X.w d xs))) from I.hok d _ h)
  rw [hd] at ho
  cases ho
  refine ⟨hs, hd, hx, es, ep, hdt, ?_, fun i e hi => ?_⟩
  · have l1 : es.size = us.length := size_of_entries he
    have l2 : xs.length = us.length := Paired.length pr
    omega
  · obtain ⟨u, hu, e2⟩ := xu_get pr hi
    have q := entry_at he i
    rw [hu] at q
    exact ⟨_, q, by show Value.ref u.2.1 = _; rw [e2]⟩
/-- the keys of the locked dict at d -/
def ItX (X : Cx) (d : Addr) (o : Obj) (xs : List XE) : It :=
  ⟨fun i H => H d = some (.frz o (dX X.prog X.w d xs)) ∧ i < xs.length, fun i H x H' => H' = H ∧ ∃ e, xs[i]? = some e ∧ x = .ref e.2.1, fun i H => H d = some (.frz o (dX X.prog X.w d xs)) ∧ xs.length ≤ i⟩
theorem turn_keysX {Y : Cx} {tg : Expr} {es : Array DictEntry} {ep : Nat} {xs : List XE} (it : Addr) (hod : o.data = .dict es ep) : Turn Y.prog Y.w Y.K tg (ItX Y d o xs) [it] it (fun i h => h.IsKeyIter it d i xs.length ep) where
  mem := by simp
  obj := fun i h st b hb => by
    have e : b = it := by simpa using hb
    subst e
    obtain ⟨oi, e, c, dd⟩ := st
    exact ⟨oi, e, fun v z => by rw [dd] at z; cases z⟩
  keep := fun i h h' st k => st.at fun oi e => k it (by simp) oi e
  item := by
    intro X hP hw hK hc i pins s σ H E I hf st hg
    have hg' : H d = some (.frz o (dX X.prog X.w d xs)) ∧ i < xs.length := by rw [hP, hw]; exact hg
    rw [← hP, ← hw]
    obtain ⟨hd, hi⟩ := hg'
    obtain ⟨f0, f1, f2, f3, f4, f5⟩ := hf it (by simp)
    obtain ⟨hs, hgd, hx, es', ep', hdt, hsz, ent⟩ := frzX I hd
    obtain ⟨rfl, rfl⟩ := dict_ep hod hdt
    obtain ⟨e, he⟩ : ∃ p, xs[i]? = some p := ⟨xs[i], List.getElem?_eq_getElem hi⟩
    obtain ⟨en, hen, hkey⟩ := ent i e he
    refine next_key_item st hgd hdt hsz hen fun h' st' sb => ?_
    have I1 : Inv X pins σ H { s with heap := h' } := I.turned (t' := s.toks) (fun b ob hb e => (sb.2 b hb).trans e) f0 f1 f3 f4 f5
    obtain ⟨oi, e', c, dd⟩ := id st'
    exact ⟨en.key, rfl, go_of (s := { s with heap := h' }) e' c dd (by decide) ⟨.ref e.2.1, H, I1, hkey, ⟨rfl, e, he, rfl⟩, st', fun b hb => (hf b hb).1⟩⟩
  done := by
    intro X hP hw hK hc i pins s σ H E I hf st hg
    have hg' : H d = some (.frz o (dX X.prog X.w d xs)) ∧ xs.length ≤ i := by rw [hP, hw]; exact hg
    rw [← hP, ← hw]
    obtain ⟨hd, hi⟩ := hg'
    obtain ⟨f0, f1, f2, f3, f4, f5⟩ := hf it (by simp)
    obtain ⟨hs, hgd, hx, es', ep', hdt, hsz, ent⟩ := frzX I hd
    obtain ⟨rfl, rfl⟩ := dict_ep hod hdt
    exact next_key_end (I.ok.hd hc) st hgd hdt hsz hi fun h' eb => ⟨rfl, I.turned (t' := s.toks) (fun b ob hb e => eb b ob hb e) f0 f1 f3 f4 f5⟩
  self := fun A i s Q E st h => wpAny_pyIter_keyiter st h
def iKeyX (X : Cx) (td : TE) : TI := fun σ H R => td σ H fun x H1 => ∃ d o, x = .ref d ∧ ((∃ kvs, H1 d = some (.frz o (.dK kvs)) ∧ R (Itk d o kvs) H1) ∨ ∃ xs, H1 d = some (.frz o (dX X.prog X.w d xs)) ∧ R (ItX X d o xs) H1)
theorem pi_keyX {tg e : Expr} {td : TE} (he : PE X e td) : PI X tg e (iKeyX X td) := by
  refine ⟨fun pins s σ H R I h => ?_⟩
  refine thn (he.run pins s σ H _ I h) fun u s1 ⟨x, H1, I1, rx, d, o, ex, q⟩ => ?_
  subst ex
  obtain rfl : u = Value.ref d := rx
  rcases q with ⟨kvs, hd, q⟩ | ⟨xs, hd, q⟩
  · obtain ⟨hs, hgd, hx, es, ep, vs, hdt, hsz, kv, hm⟩ := I1.frzK hd
    refine iter_keys hs hgd hx hdt (pi_one (tk := s1.toks) I1 _ (turn_keys _ hdt) ⟨_, Heap.get?_push_size _ rfl, rfl, ?_⟩ q)
    rw [hsz] <;> rfl
  · obtain ⟨hs, hgd, hx, es, ep, hdt, hsz, ent⟩ := frzX I1 hd
    refine iter_keys hs hgd hx hdt (pi_one (tk := s1.toks) I1 _ (turn_keysX _ hdt) ⟨_, Heap.get?_push_size _ rfl, rfl, ?_⟩ q)
    rw [hsz] <;> rfl
end
section
variable {W : Wo} {ι : List Addr} {H : Hp} {m : Mem}
theorem beq_stay {n : Nat} {o : MO} {m : Mem} (h : Stay.ok (some (n, o)) m = true) : ∃ o', m[n]? = some o' ∧ MO.beq o' o = true := by
  simp only [Stay.ok] at h
  split at h
  · rename_i o' e; exact ⟨o', e, h⟩
  · cases h
theorem kvBeq_eq : ∀ {a b : List (Key × T)}, kvBeq a b = true → a = b
  | [], [], _ => rfl
  | [], _ :: _, h => by simp [kvBeq] at h
  | _ :: _, [], h => by simp [kvBeq] at h
  | a :: r, b :: q, h => by
    simp only [kvBeq, Bool.and_eq_true, decide_eq_true_eq] at h
    obtain ⟨⟨h1, h2⟩, h3⟩ := h
    rw [kvBeq_eq h3, Prod.ext h1 (T.eq_of_beq h2)]
theorem kvtBeq_eq : ∀ {a b : List (List Key × T)}, kvtBeq a b = true → a = b
  | [], [], _ => rfl
  | [], _ :: _, h => by simp [kvtBeq] at h
  | _ :: _, [], h => by simp [kvtBeq] at h
  | a :: r, b :: q, h => by
    simp only [kvtBeq, Bool.and_eq_true, decide_eq_true_eq] at h
    obtain ⟨⟨h1, h2⟩, h3⟩ := h
    rw [kvtBeq_eq h3, Prod.ext h1 (T.eq_of_beq h2)]
theorem kT_rep (k : Key) : Rep W ι H (kT k) (kV k) := by
  cases k with
  | inl i => exact rep_int.mpr rfl
  | inr x => exact rep_str.mpr rfl
theorem kTs_rep : ∀ k : List Key, Reps W ι H (k.map kT) (k.map kV)
  | [] => Reps.nil
  | a :: k => Reps.cons (kT_rep a) (kTs_rep k)
/-- the locked dict is walked -/
theorem walk_dK {d : Addr} {o : Obj} {vs : List (Key × V)} {kvs : List (Key × T)} {st : Stay} (h : H d = some (.frz o (.dK vs))) (hk : vs.map (·.1) = kvs.map (·.1)) :
    Wlk W (Itk d o vs) (kvs.map fun kv => kT kv.1) st ι H := by
  intro i ι1 m1 H1 x S1 _
  have h1 := x.frz _ _ _ h
  have hl : vs.length = kvs.length := by simpa using congrArg List.length hk
  refine ⟨fun t ht => ?_, fun hi => ⟨h1, by simp at hi; omega⟩⟩
  rw [List.getElem?_map] at ht
  obtain ⟨p, hp, rfl⟩ := Option.map_eq_some_iff.mp ht
  have hi := (List.getElem?_eq_some_iff.mp hp).1
  refine ⟨⟨h1, by omega⟩, fun x' H' hy => ?_⟩
  obtain ⟨rfl, k, v, hkv, rfl⟩ := hy
  have e1 : (vs.map (·.1))[i]? = some k := by rw [List.getElem?_map, hkv]; rfl
  rw [hk, List.getElem?_map, hp] at e1
  cases e1
  exact ⟨S1, .refl _ _, kT_rep _⟩
theorem walk_dX {X : Cx} {fa : Ad} {ι : List Addr} {H : Hp} {m : Mem} {d : Addr} {o : Obj} {xs : List XE} {kvs : List (List Key × T)} {st : Stay} (S : Sim (X.wo fa) ι m H) (h : H d = some (.frz o (dX X.prog X.w d xs))) (hk : xs.map (·.1) = kvs.map (·.1))
    (ht : ∀ x ∈ xs, SqT X.K H x.2.1 (x.1.map kV)) : Wlk (X.wo fa) (ItX X d o xs) (kvs.map fun kv => .tup (kv.1.map kT)) st ι H := by
  intro i ι1 m1 H1 x S1 _
  have h1 := x.frz _ _ _ h
  have hl : xs.length = kvs.length := by simpa using congrArg List.length hk
  refine ⟨fun t ht' => ?_, fun hi => ⟨h1, by simp at hi; omega⟩⟩
  rw [List.getElem?_map] at ht'
  obtain ⟨p, hp, rfl⟩ := Option.map_eq_some_iff.mp ht'
  have hi := (List.getElem?_eq_some_iff.mp hp).1
  refine ⟨⟨h1, by omega⟩, fun x' H' hy => ?_⟩
  obtain ⟨rfl, e, he, rfl⟩ := hy
  have e1 : (xs.map (·.1))[i]? = some e.1 := by rw [List.getElem?_map, he]; rfl
  rw [hk, List.getElem?_map, hp] at e1
  have e2 : p.1 = e.1 := Option.some.inj e1
  refine ⟨S1, .refl _ _, rep_tup.mpr ⟨e.2.1, e.1.map kV, rfl, SqT.mono S x (ht e (List.mem_of_getElem? he)), ?_⟩⟩
  rw [e2]
  exact kTs_rep e.1
end
/-! ### sorted -/
section
variable {X : Cx} {fa : Ad}
theorem each_of {R : Value → T → Prop} {W : Wo} {ι : List Addr} {H : Hp} : ∀ {ts : List T} {vs : List V} {us : List Value}, Reps W ι H ts vs → Vals vs us → (∀ t v u, t ∈ ts → Rep W ι H t v → RelV v u → R u t) → PySem.W.EachIs R us ts
  | [], _, _, r, q, _ => by rw [Reps.nil_iff.mp r] at q; cases q; exact .nil
  | t :: ts, _, _, r, q, f => by
    obtain ⟨v, r', rfl, h1, h2⟩ := Reps.cons_iff.mp r
    cases q with
    | cons q1 q2 => exact .cons (f t v _ (List.mem_cons_self ..) h1 q1) (each_of h2 q2 fun t v u ht => f t v u (List.mem_cons_of_mem _ ht))
theorem each_back {W : Wo} {ι : List Addr} {H : Hp} : ∀ {us : List Value} {ts : List T}, PySem.W.EachIs (fun u t => ∃ v, Rep W ι H t v ∧ RelV v u) us ts → ∃ vs, Reps W ι H ts vs ∧ Vals vs us
  | _, _, .nil => ⟨[], Reps.nil, .nil⟩
  | _, _, .cons ⟨v, h1, h2⟩ t => let ⟨vs, h3, h4⟩ := each_back t; ⟨v :: vs, Reps.cons h1 h3, .cons h2 h4⟩
def rSrt (W : Wo) : List V → Hp → VK → Prop := fun xs H Q => ∃ ι m l l' D vs H0, xs = [.ref D] ∧ H0 D = none ∧ H = upd H0 D (.lst vs) ∧ Sim W ι m H0 ∧ Reps W ι H0 l vs ∧ sortOp l m = some l' ∧ ∀ p ws, H p = none → Reps W ι H l' ws → Q (.ref p) (upd H p (.lst ws))
theorem q_sorted (hu : X.A.units + 64 < cLine) : CallR X (.builtin "sorted") (rSrt (X.wo fa)) := by
  intro pins s σ H xs us Q I r h
  obtain ⟨ι, m, l, l', D, vs, H0, rfl, hD, rfl, S, rs, e, q⟩ := h
  obtain ⟨S1, x1⟩ := S.out (o := .lst vs) hD
  have rs1 := Reps.mono S x1 rs
  unfold sortOp at e
  split at e
  · rename_i g
    cases e
    simp only [Bool.and_eq_true] at g
    obtain ⟨⟨⟨g1, g2⟩, g3⟩, g4⟩ := g
    rw [List.all_eq_true] at g1 g2
    rw [Vals.ref1 r]
    obtain ⟨its, rv, hl, _⟩ := I.list (SqL.of (K := X.K) (xs := vs) upd_same)
    have rd : ∀ t v u, t ∈ l → Rep (X.wo fa) ι (upd H0 D (.lst vs)) t v → RelV v u → ∃ as, Reads s.heap u (encT m t) as := by
      intro t v u ht rt ru
      have := g1 t ht
      simp only [Bool.and_eq_true] at this
      obtain ⟨d, hd⟩ := Option.isSome_iff_exists.mp this.1
      have q := S1.dp hd rt
      unfold encT
      rw [hd]
      exact Dp.reads I _ v u q ru
    have e1 := each_of (R := fun u t => ∃ v, Rep (X.wo fa) ι (upd H0 D (.lst vs)) t v ∧ RelV v u) rs1 rv fun t v u _ a b => ⟨v, a, b⟩
    have e2 := each_of (R := fun u t => ∃ as, Reads s.heap u (encT m t) as) rs1 rv rd
    refine PySem.W.sorted_data hl.isList e1 e2 ?_ ?_ (small_le g4) ?_ fun out ho eo => ?_
    · intro d hd d' hd'
      obtain ⟨t, ht, rfl⟩ := List.mem_map.mp hd
      obtain ⟨t', ht', rfl⟩ := List.mem_map.mp hd'
      have := g2 t ht
      rw [List.all_eq_true] at this
      exact this t' ht'
    · unfold sortableT at g3
      rw [Bool.or_eq_true, List.all_eq_true, List.all_eq_true] at g3
      rcases g3 with g3 | g3
      · refine .inl fun d hd => ?_
        obtain ⟨t, ht, rfl⟩ := List.mem_map.mp hd
        have := g3 t ht
        split at this
        · rename_i x r e; exact ⟨x, r, e⟩
        · cases this
      · refine .inr fun d hd => ?_
        obtain ⟨t, ht, rfl⟩ := List.mem_map.mp hd
        have := g3 t ht
        split at this
        · rename_i i e; rw [e]; exact ⟨by simp, fun xs => by simp⟩
        · rename_i i e; rw [e]; exact ⟨by simp, fun xs => by simp⟩
        · cases this
    · intro t ht
      have := g1 t ht
      simp only [Bool.and_eq_true, decide_eq_true_eq] at this
      omega
    · obtain ⟨ws, r1, r2⟩ := each_back eo
      obtain ⟨ep, he⟩ := PyProof.Rows.sortedAll_at s.heap its out.toArray
      have hp : upd H0 D (.lst vs) (s.heap.objs.size + 1) = none := I.hok.fresh (Nat.le_succ _)
      have hlen : ws.length ≤ sizeLine := by
        have a1 : ws.length = out.length := r2.length
        rw [a1, ho]
        exact small_le g4
      exact ⟨.ref (s.heap.objs.size + 1), _, I.laid (o := .lst ws) (t' := s.toks) (fun _ _ q => PyProof.Rows.sortedAll_old q) (Nat.le_succ _) ⟨hlen, out, ep, r2, he⟩, rfl, q _ ws hp r1⟩
  · cases e
end
end Ev
end
section
set_option linter.all false
set_option maxRecDepth 10000
/-! Ev11: a text that the checker passes does what the core text tells. -/
namespace Ev
open PySem PySem.Spec PyProof.Rows L2
section
variable {fa : Ad} {Φ : Fns} {Wx : WX}
theorem lcLoop_ok {elt : Lo → Mem → Rm T} {tst : Lo → Mem → Rm Bool} {tg : CT} {st : Stay} {τ0 : Lo} : ∀ {l : List T} {m m2 : Mem} {z : Exn}, lcLoop elt tst tg st τ0 l m = some (.ex z, m2) → False
  | [], m, m2, z, h => by
    unfold lcLoop guard' at h
    split at h <;> cases h
  | t :: r, m, m2, z, h => by
    unfold lcLoop guard' at h
    split at h
    · split at h
      · cases h
      · split at h
        · split at h
          · split at h
            · cases h
            · cases h
          · cases h
        · exact lcLoop_ok h
        · cases h
    · cases h
/-- what the receiver's type must be -/
theorem ty_lst {X : Cx} {ι : List Addr} {m : Mem} {H : Hp} {t : T} {v : V} {mt : Mt} (S : Sim (X.wo fa) ι m H) (r : Rep (X.wo fa) ι H t v) (h : mtyOk mt t m = true) (h1 : mt ≠ .get2) (h2 : mt ≠ .bits) : tyV X.K "list" v H := by
  have key : ∀ n, t = .ref n → (∃ l, m[n]? = some (.lst l)) → tyV X.K "list" v H := by
    intro n e ⟨l, hl⟩
    subst e
    obtain ⟨a, vs, rfl, _, g1, _⟩ := S.lst r hl
    exact .inl ⟨rfl, vs, .of g1⟩
  cases t with
  | ref n =>
    refine key n rfl ?_
    cases mt <;> first | exact absurd rfl h1 | exact absurd rfl h2 | (simp only [mtyOk] at h; split at h; (rename_i l hl; exact ⟨l, hl⟩); cases h)
  | _ => cases mt <;> first | exact absurd rfl h1 | exact absurd rfl h2 | cases h
theorem few1 {X : Cx} {e : Expr} {cpos : Pos} (he : notStar e = true) : ((backTo cpos (starEach [e] X.env)).all (fun x => !x.1) && (backToKw cpos (keywordEach [] X.env)).all (fun x => x.1.isSome)
      && decide (([e] : List Expr).length + ([] : List Keyword).length + (if ([] : List Keyword).isEmpty then 0 else 1) < 30)) = true := by
  rw [starEach_ns he]; rfl
/-- a comprehension's reading from the plain one -/
theorem lc_of {W : Wo} {σ : L2.St} {H : Hp} {Q : VK} {elt : CE} {tg : CT} {it : CI} {ifs : CO} {own : List Nat} (ho : ∀ j ∈ ctNames tg, j ∈ own) (hw : lT W Wx (evq Φ (.lc elt tg it ifs own)) σ H Q) :
    tLc (iT W Wx (evi Φ it)) (gT W tg) (bT W Wx0 (evt Φ ifs)) (eT W Wx0 (ev Φ elt)) own σ H Q := by
  obtain ⟨ι, m, τ, S, sl, hw⟩ := hw
  refine xT.bnd S sl hw fun p ι1 H1 m1 S1 x1 sl1 h1' J wl D hD => ?_
  obtain ⟨r, mE, e, q⟩ := h1'
  cases hl : lcLoop (fun τ m => ev Φ elt τ m) (fun τ m => evt Φ ifs τ m) tg p.2 (wipeT τ own) p.1 m1 with
  | none => rw [hl] at e; cases e
  | some z =>
    rw [hl] at e
    obtain ⟨z1, z2⟩ := z
    cases z1 with
    | ex w => exact (lcLoop_ok hl).elim
    | ok lf =>
      rw [bnd_ok] at e
      have sm : small lf.length = true := by
        by_cases z : small lf.length = true
        · exact z
        · rw [Bool.not_eq_true] at z; rw [z] at e; cases e
      rw [sm] at e
      cases e
      exact lc_go (W := W) (fun v σ H Q g => g) (fun σ H Q g => g) (fun σ H Q g => g) ho S1 sl1 wl hl sm (fun ι' H' x S => q ι' H' x S) hD
theorem okK_cons {k : Str} {ks : List Str} {keys : List (Option Expr)} (h : okK (k :: ks) keys = true) : ∃ j p es, keys = some (.Constant (.str k) j p) :: es ∧ okK ks es = true := by
  unfold okK at h
  split at h
  · contradiction
  · rename_i k' ks' x' j' p' es' heq
    injection heq with h1 h2
    subst h1 h2
    simp only [Bool.and_eq_true, decide_eq_true_eq] at h
    obtain ⟨rfl, h⟩ := h
    exact ⟨j', p', es', rfl, h⟩
  · cases h
def trsOf (X : Cx) (fa : Ad) (Wx : WX) (Φ : Fns) : List Str → CEs → List (TE × TE)
  | k :: ks, .cons _ e r => (tC (.str k), eT (X.wo fa) Wx (ev Φ e)) :: trsOf X fa Wx Φ ks r
  | _, _ => []
theorem pairs_go {X : Cx} : ∀ (ks : List Str) (es : CEs) {vals : List Expr} {Γ : Gm} {fn : Str → Bool} {sc : Scope} {σ : L2.St} {H : Hp} {Q : List (V × V) → Hp → Prop}, okA Γ fn sc es vals = true → noStars vals = true → ks.length = vals.length →
    aT (X.wo fa) Wx (evs Φ es) σ H (fun vs H1 => Q ((ks.map V.str).zip vs) H1) → tPairs (trsOf X fa Wx Φ ks es) σ H Q
  | [], es, [], Γ, fn, sc, σ, H, Q, h1, h2, h3, h => by
    cases es with
    | nil =>
      obtain ⟨ι, m, τ, S, sl, h⟩ := h
      exact h.ret S [] Reps.nil
    | cons s e r => simp [okA] at h1
  | k :: ks, es, v :: vals, Γ, fn, sc, σ, H, Q, h1, h2, h3, h => by
    cases es with
    | nil => simp [okA] at h1
    | cons s e r =>
      simp only [okA, Bool.and_eq_true] at h1
      simp only [noStars, Bool.and_eq_true] at h2
      have hs : s = false := by
        cases s with
        | false => rfl
        | true =>
          have := h1.1
          simp only at this
          split at this
          · simp [notStar] at h2
          · cases this
      subst hs
      obtain ⟨ι, m, τ, S, sl, h⟩ := h
      refine xT.bnd S sl h fun x ι1 H1 m1 S1 x1 sl1 h1' v rv => ?_
      refine pairs_go ks r h1.2 h2.2 (by simpa using h3) ?_
      refine xT.bnd S1 sl1 h1' fun l ι2 H2 m2 S2 x2 sl2 h2' ws rs => ?_
      exact h2'.ret S2 _ (Reps.cons (Rep.mono S1 x2 rv) rs)
  | [], _, _ :: _, _, _, _, _, _, _, _, _, h3, _ => by simp at h3
  | _ :: _, _, [], _, _, _, _, _, _, _, _, h3, _ => by simp at h3
end
mutual
theorem snd : ∀ (c : CE) {Γ : Gm} {fa : Ad} {Φ : Fns} {Wx : WX} {fn : Str → Bool} {sc : Scope} {X : Cx} (tst : Bool) (e : Expr), Ct Γ fa Φ Wx fn sc X → ok Γ fn sc tst c e = true → Snd X tst e (eT (X.wo fa) Wx (ev Φ c))
  | .var i, Γ, fa, Φ, Wx, fn, sc, X, tst, e, C, h => by
    simp only [ok, Bool.and_eq_true] at h
    obtain ⟨h0, h⟩ := h
    split at h
    · rename_i x pos
      simp only [Bool.and_eq_true, decide_eq_true_eq] at h
      obtain ⟨d1, d2⟩ := nodbg_ok h.2
      refine .leaf h0 (PE.imp (pe_var (by rw [C.N]; exact h.1.1) (C.vis' h.1.2) d1 d2) fun σ H Q hw => ?_)
      obtain ⟨ι, m, τ, S, sl, hw⟩ := hw
      simp only [ev] at hw
      split at hw
      · rename_i t ht
        obtain ⟨v, e1, r⟩ := sl.get _ _ ht
        exact ⟨v, e1, hw.ret S _ r⟩
      · exact hw.none.elim
    · cases h
  | .cst t, Γ, fa, Φ, Wx, fn, sc, X, tst, e, C, h => by
    simp only [ok, Bool.and_eq_true] at h
    obtain ⟨h0, h⟩ := h
    split at h
    · rename_i c k pos
      refine .leaf h0 ?_
      unfold cstOk at h
      split at h
      · rw [← of_decide_eq_true h]
        exact PE.imp pe_int fun σ H Q ⟨ι, m, τ, S, sl, hw⟩ => hw.ret S _ (rep_int.mpr rfl)
      · rw [← eq_of_beq h]
        exact PE.imp pe_bl fun σ H Q ⟨ι, m, τ, S, sl, hw⟩ => hw.ret S _ (rep_bl.mpr rfl)
      · exact PE.imp pe_non fun σ H Q ⟨ι, m, τ, S, sl, hw⟩ => hw.ret S _ (rep_non.mpr rfl)
      · rw [← of_decide_eq_true h]
        exact PE.imp pe_str fun σ H Q ⟨ι, m, τ, S, sl, hw⟩ => hw.ret S _ (rep_str.mpr rfl)
      · cases h
    · cases h
  | .glob x t, Γ, fa, Φ, Wx, fn, sc, X, tst, e, C, h => by
    simp only [ok, Bool.and_eq_true] at h
    obtain ⟨h0, h⟩ := h
    split at h
    · rename_i y pos
      simp only [Bool.and_eq_true, decide_eq_true_eq] at h
      obtain ⟨⟨⟨rfl, h1⟩, h2⟩, h3⟩ := h
      obtain ⟨v, u, g1, g2, g3⟩ := C.gl _ _ (Gm.has_mem h3)
      exact .leaf h0 (PE.imp (pe_glob (C.gl' h1) g1 g2 (nodbg_ok h2).1) fun σ H Q ⟨ι, m, τ, S, sl, hw⟩ => hw.ret S _ (g3 _ _))
    · cases h
  | .bin op a b, Γ, fa, Φ, Wx, fn, sc, X, tst, e, C, h => by
    simp only [ok, Bool.and_eq_true] at h
    obtain ⟨h0, h⟩ := h
    split at h
    · rename_i x o y pos
      simp only [Bool.and_eq_true, decide_eq_true_eq] at h
      obtain ⟨⟨rfl, h2⟩, h3⟩ := h
      refine .leaf h0 (PE.imp (pe_op (op_bin (fa := fa) op) (snd a false x C h2).pe (snd b false y C h3).pe) fun σ H Q hw => ?_)
      obtain ⟨ι, m, τ, S, sl, hw⟩ := hw
      refine xT.bnd S sl hw fun x ι1 H1 m1 S1 x1 sl1 h1 v rv => ?_
      refine xT.bnd S1 sl1 h1 fun y ι2 H2 m2 S2 x2 sl2 h2 u ru => ?_
      exact ⟨_, ι2, m2, x, y, S2, Rep.mono S1 x2 rv, ru, h2⟩
    · cases h
  | .neg a, Γ, fa, Φ, Wx, fn, sc, X, tst, e, C, h => by
    simp only [ok, Bool.and_eq_true, Bool.not_eq_true'] at h
    obtain ⟨h0, h⟩ := h
    split at h
    · rename_i x pos
      refine .val h0 (PE.imp (pe_un un_neg (snd a false x C h).pe) fun σ H Q hw => ?_)
      obtain ⟨ι, m, τ, S, sl, hw⟩ := hw
      refine xT.bnd S sl hw fun x ι1 H1 m1 S1 x1 sl1 h1 v rv => ?_
      cases x with
      | int i => exact ⟨i, rep_int.mp rv, h1.ret S1 _ (rep_int.mpr rfl)⟩
      | _ => exact h1.none.elim
    · cases h
  | .nt a, Γ, fa, Φ, Wx, fn, sc, X, tst, e, C, h => by
    simp only [ok] at h
    split at h
    · rename_i x pos
      have p := snd a tst x C h
      cases tst with
      | false =>
        refine .val rfl (PE.imp (pe_not p.pe) fun σ H Q hw => ?_)
        obtain ⟨ι, m, τ, S, sl, hw⟩ := hw
        refine xT.bnd S sl hw fun x ι1 H1 m1 S1 x1 sl1 h1 v rv => ?_
        obtain ⟨k, rfl, h1⟩ := truth_inv h1
        exact ⟨k, rep_bl.mp rv, h1.ret S1 _ (rep_bl.mpr rfl)⟩
      | true =>
        unfold Snd
        simp only [↓reduceIte]
        refine PT.imp (pt_not p.pt) fun σ H Q hw => ?_
        obtain ⟨ι, m, τ, S, sl, hw⟩ := hw
        refine xT.bnd S sl hw fun x ι1 H1 m1 S1 x1 sl1 h1 v rv => ?_
        obtain ⟨k, rfl, h1⟩ := truth_inv h1
        refine ⟨k, rep_bl.mp rv, ?_⟩
        obtain ⟨c, e, q⟩ := h1.ret S1 _ (rep_bl.mpr rfl)
        cases e
        exact q
    · cases h
  | .isN neg a, Γ, fa, Φ, Wx, fn, sc, X, tst, e, C, h => by
    simp only [ok] at h
    split at h
    · rename_i x op k pos2 pos
      simp only [Bool.and_eq_true, decide_eq_true_eq] at h
      obtain ⟨ho, h⟩ := h
      have p := (snd a false x C h).pe
      have nn : ∀ (t : T) (v : V) ι1 H1, Rep (X.wo fa) ι1 H1 t v → decide (v = V.non) = T.beq t .non := by
        intro t v ι1 H1 r
        cases t with
        | non => rw [rep_non.mp r]; rfl
        | bl b => rw [rep_bl.mp r]; rfl
        | int b => rw [rep_int.mp r]; rfl
        | str b => rw [rep_str.mp r]; rfl
        | tup b => obtain ⟨a, _, rfl, _⟩ := rep_tup.mp r; rfl
        | ref b => obtain ⟨a, rfl, _⟩ := rep_ref.mp r; rfl
        | ro b => obtain ⟨a, _, rfl, _⟩ := rep_ro.mp r; rfl
        | fn b => simp only [Rep] at r; rw [r]; rfl
        | rep b => simp only [Rep] at r; rw [r]; rfl
        | lst b => simp only [Rep] at r
      have pc : PC X op x (.Constant .none k pos2) (fun σ H Q => eT (X.wo fa) Wx (ev Φ (.isN neg a)) σ H Q) := by
        cases neg with
        | true =>
          simp only [↓reduceIte] at ho
          subst ho
          refine ⟨fun pins s σ H Q I hw => (pc_notN p).run pins s σ H Q I ?_⟩
          obtain ⟨ι, m, τ, S, sl, hw⟩ := hw
          refine xT.bnd S sl hw fun t ι1 H1 m1 S1 x1 sl1 h1 v rv => ?_
          exact h1.ret S1 _ (rep_bl.mpr (by rw [nn _ _ _ _ rv]; rfl))
        | false =>
          simp only [Bool.false_eq_true, ↓reduceIte] at ho
          subst ho
          refine ⟨fun pins s σ H Q I hw => (pc_isN p).run pins s σ H Q I ?_⟩
          obtain ⟨ι, m, τ, S, sl, hw⟩ := hw
          refine xT.bnd S sl hw fun t ι1 H1 m1 S1 x1 sl1 h1 v rv => ?_
          exact h1.ret S1 _ (rep_bl.mpr (by rw [nn _ _ _ _ rv]; rfl))
      cases tst with
      | false => exact .val rfl (pe_cmp pc rfl)
      | true => unfold Snd; simp only [↓reduceIte]; exact pt_cmp pc rfl
    · cases h
  | .cmp op a b, Γ, fa, Φ, Wx, fn, sc, X, tst, e, C, h => by
    simp only [ok] at h
    split at h
    · rename_i x o y pos
      simp only [Bool.and_eq_true, decide_eq_true_eq] at h
      obtain ⟨⟨⟨rfl, h1⟩, h2⟩, h3⟩ := h
      have pa := (snd a false x C h2).pe
      have pb := (snd b false y C h3).pe
      have key : ∀ σ H Q, eT (X.wo fa) Wx (ev Φ (.cmp op a b)) σ H Q → tOp (rT (X.wo fa) fun a b m => opt ((cmpop op a b m).map .bl) m) (eT (X.wo fa) Wx (ev Φ a)) (eT (X.wo fa) Wx (ev Φ b)) σ H Q := by
        intro σ H Q hw
        obtain ⟨ι, m, τ, S, sl, hw⟩ := hw
        refine xT.bnd S sl hw fun x ι1 H1 m1 S1 x1 sl1 h1 v rv => ?_
        refine xT.bnd S1 sl1 h1 fun y ι2 H2 m2 S2 x2 sl2 h2 u ru => ?_
        exact ⟨_, ι2, m2, x, y, S2, Rep.mono S1 x2 rv, ru, h2⟩
      cases tst with
      | false => exact .val rfl (PE.imp (pe_cmpR (op_cmp (fa := fa) C.hu op) pa pb (mark_ns h1 _)) key)
      | true => unfold Snd; simp only [↓reduceIte]; exact PT.imp (pt_cmpR (op_cmp (fa := fa) C.hu op) pa pb (mark_ns h1 _)) fun σ H Q hw => key σ H _ hw
    · cases h
  | .chain o1 o2 a b c, Γ, fa, Φ, Wx, fn, sc, X, tst, e, C, h => by
    simp only [ok] at h
    split at h
    · rename_i x p q y z pos
      simp only [Bool.and_eq_true, decide_eq_true_eq] at h
      obtain ⟨⟨⟨⟨⟨⟨rfl, rfl⟩, h0⟩, h1⟩, h2⟩, h3⟩, h4⟩ := h
      have pa := (snd a false x C h2).pe
      have pb := (snd b false y C h3).pe
      have pc := (snd c false z C h4).pe
      have hm : lastMarks [o1.op, o2.op] [y, z] = false := by
        show lastMarks [o2.op] [z] = false
        exact mark_ns h1 _
      have key : ∀ σ H Q, eT (X.wo fa) Wx (ev Φ (.chain o1 o2 a b c)) σ H Q → tChain (rT (X.wo fa) fun a b m => opt ((cmpop o1 a b m).map .bl) m) (rT (X.wo fa) fun a b m => opt ((cmpop o2 a b m).map .bl) m) (eT (X.wo fa) Wx (ev Φ a)) (eT (X.wo fa) Wx (ev Φ b)) (eT (X.wo fa) Wx (ev Φ c)) σ H Q := by
        intro σ H Q hw
        obtain ⟨ι, m, τ, S, sl, hw⟩ := hw
        refine xT.bnd S sl hw fun x ι1 H1 m1 S1 x1 sl1 h1 v rv => ?_
        refine xT.bnd S1 sl1 h1 fun y ι2 H2 m2 S2 x2 sl2 h2 u ru => ?_
        cases ek : cmpop o1 x y m2 with
        | none => rw [ek] at h2; exact h2.none.elim
        | some k =>
          rw [ek] at h2
          refine ⟨ewx (X.wo fa) (fun _ _ _ => True), ι2, m2, x, y, S2, Rep.mono S1 x2 rv, ru, ?_⟩
          simp only [ek]
          refine Wt.one fun ι3 H3 x3 S3 w rw' => ⟨k, rep_bl.mp rw', ?_⟩
          have h3 := h2.later x3
          cases k with
          | false =>
            simp only [Bool.false_eq_true, ↓reduceIte]
            exact h3.ret S3 _ (rep_bl.mpr rfl)
          | true =>
            simp only [↓reduceIte]
            refine xT.bnd S3 (sl2.mono S2 x3) h3 fun z ι4 H4 m4 S4 x4 sl4 h4 w2 rw2 => ?_
            exact ⟨_, ι4, m4, y, z, S4, Rep.mono S3 x4 (Rep.mono S2 x3 ru), rw2, h4⟩
      cases tst with
      | false => exact .val rfl (PE.imp (pe_chain (op_cmp (fa := fa) C.hu o1) (op_cmp (fa := fa) C.hu o2) pa pb pc hm) key)
      | true => unfold Snd; simp only [↓reduceIte]; exact PT.imp (pt_chain (op_cmp (fa := fa) C.hu o1) (op_cmp (fa := fa) C.hu o2) pa pb pc hm) fun σ H Q hw => key σ H _ hw
    · cases h
  | .and a b, Γ, fa, Φ, Wx, fn, sc, X, tst, e, C, h => by
    simp only [ok] at h
    split at h
    · rename_i x y r pos
      simp only [Bool.and_eq_true] at h
      obtain ⟨h1, h2⟩ := h
      have pa := snd a tst x C h1
      have kv : ∀ σ H Q, eT (X.wo fa) Wx (ev Φ (.and a b)) σ H Q → tAndV (eT (X.wo fa) Wx (ev Φ a)) (eT (X.wo fa) Wx (ev Φ b)) σ H Q := by
        intro σ H Q hw
        obtain ⟨ι, m, τ, S, sl, hw⟩ := hw
        refine xT.bnd S sl hw fun x ι1 H1 m1 S1 x1 sl1 h1 v rv => ?_
        obtain ⟨k, rfl, h1⟩ := truth_inv h1
        refine ⟨k, rep_bl.mp rv, ?_⟩
        cases k with
        | true => simp only [↓reduceIte] at h1 ⊢; exact ⟨ι1, m1, τ, S1, sl1, h1⟩
        | false => simp only [Bool.false_eq_true, ↓reduceIte] at h1 ⊢; exact h1.ret S1 _ (rep_bl.mpr rfl)
      have kt : ∀ σ H Q, tB (eT (X.wo fa) Wx (ev Φ (.and a b))) σ H Q → tAnd (tB (eT (X.wo fa) Wx (ev Φ a))) (tB (eT (X.wo fa) Wx (ev Φ b))) σ H Q := by
        intro σ H Q hw
        obtain ⟨ι, m, τ, S, sl, hw⟩ := hw
        refine xT.bnd S sl hw fun x ι1 H1 m1 S1 x1 sl1 h1 v rv => ?_
        obtain ⟨k, rfl, h1⟩ := truth_inv h1
        refine ⟨k, rep_bl.mp rv, ?_⟩
        cases k with
        | true => simp only [↓reduceIte] at h1 ⊢; exact ⟨ι1, m1, τ, S1, sl1, h1⟩
        | false =>
          simp only [Bool.false_eq_true, ↓reduceIte] at h1 ⊢
          obtain ⟨c, e, q⟩ := h1.ret S1 _ (rep_bl.mpr rfl)
          cases e; exact q
      split at h2
      · have pb := snd b tst y C h2
        cases tst with
        | false => exact .val rfl (PE.imp (pe_and pa.pe (pe_one pb.pe)) kv)
        | true => unfold Snd; simp only [↓reduceIte]; exact PT.imp (pw_and pa.pt (pw_and1 pb.pt)).pt kt
      · have pb := snd b tst _ C h2
        cases tst with
        | false => exact .val rfl (PE.imp (pe_and pa.pe pb.pe) kv)
        | true => unfold Snd; simp only [↓reduceIte]; exact PT.imp (pw_and pa.pt (pw_of pb.pt)).pt kt
    · cases h
  | .or a b, Γ, fa, Φ, Wx, fn, sc, X, tst, e, C, h => by
    simp only [ok] at h
    split at h
    · rename_i x y r pos
      simp only [Bool.and_eq_true] at h
      obtain ⟨h1, h2⟩ := h
      have pa := snd a tst x C h1
      have kv : ∀ σ H Q, eT (X.wo fa) Wx (ev Φ (.or a b)) σ H Q → tOrV (eT (X.wo fa) Wx (ev Φ a)) (eT (X.wo fa) Wx (ev Φ b)) σ H Q := by
        intro σ H Q hw
        obtain ⟨ι, m, τ, S, sl, hw⟩ := hw
        refine xT.bnd S sl hw fun x ι1 H1 m1 S1 x1 sl1 h1 v rv => ?_
        obtain ⟨k, rfl, h1⟩ := truth_inv h1
        refine ⟨k, rep_bl.mp rv, ?_⟩
        cases k with
        | true => simp only [↓reduceIte] at h1 ⊢; exact h1.ret S1 _ (rep_bl.mpr rfl)
        | false => simp only [Bool.false_eq_true, ↓reduceIte] at h1 ⊢; exact ⟨ι1, m1, τ, S1, sl1, h1⟩
      have kt : ∀ σ H Q, tB (eT (X.wo fa) Wx (ev Φ (.or a b))) σ H Q → tOr (tB (eT (X.wo fa) Wx (ev Φ a))) (tB (eT (X.wo fa) Wx (ev Φ b))) σ H Q := by
        intro σ H Q hw
        obtain ⟨ι, m, τ, S, sl, hw⟩ := hw
        refine xT.bnd S sl hw fun x ι1 H1 m1 S1 x1 sl1 h1 v rv => ?_
        obtain ⟨k, rfl, h1⟩ := truth_inv h1
        refine ⟨k, rep_bl.mp rv, ?_⟩
        cases k with
        | false => simp only [Bool.false_eq_true, ↓reduceIte] at h1 ⊢; exact ⟨ι1, m1, τ, S1, sl1, h1⟩
        | true =>
          simp only [↓reduceIte] at h1 ⊢
          obtain ⟨c, e, q⟩ := h1.ret S1 _ (rep_bl.mpr rfl)
          cases e; exact q
      split at h2
      · have pb := snd b tst y C h2
        cases tst with
        | false => exact .val rfl (PE.imp (pe_or pa.pe (pe_one pb.pe)) kv)
        | true => unfold Snd; simp only [↓reduceIte]; exact PT.imp (pw_or pa.pt (pw_or1 pb.pt)).pt kt
      · have pb := snd b tst _ C h2
        cases tst with
        | false => exact .val rfl (PE.imp (pe_or pa.pe pb.pe) kv)
        | true => unfold Snd; simp only [↓reduceIte]; exact PT.imp (pw_or pa.pt (pw_of pb.pt)).pt kt
    · cases h
  | .ite c a b, Γ, fa, Φ, Wx, fn, sc, X, tst, e, C, h => by
    simp only [ok, Bool.and_eq_true, Bool.not_eq_true'] at h
    obtain ⟨h0, h⟩ := h
    split at h
    · rename_i t x y pos
      simp only [Bool.and_eq_true] at h
      refine .val h0 (PE.imp (pe_ifExp (snd c true t C h.1.1).pt (snd a false x C h.1.2).pe (snd b false y C h.2).pe) fun σ H Q hw => ?_)
      obtain ⟨ι, m, τ, S, sl, hw⟩ := hw
      refine xT.bnd S sl hw fun x ι1 H1 m1 S1 x1 sl1 h1 v rv => ?_
      obtain ⟨k, rfl, h1⟩ := truth_inv h1
      refine ⟨k, rep_bl.mp rv, ?_⟩
      cases k with
      | true => simp only [↓reduceIte] at h1 ⊢; exact ⟨ι1, m1, τ, S1, sl1, h1⟩
      | false => simp only [Bool.false_eq_true, ↓reduceIte] at h1 ⊢; exact ⟨ι1, m1, τ, S1, sl1, h1⟩
    · cases h
  | .tup es, Γ, fa, Φ, Wx, fn, sc, X, tst, e, C, h => by
    simp only [ok, Bool.and_eq_true] at h
    obtain ⟨h0, h⟩ := h
    split at h
    · rename_i xs k pos
      refine .leaf h0 (PE.imp (pe_tup (sndA es xs C h)) fun σ H Q hw => ?_)
      obtain ⟨ι, m, τ, S, sl, hw⟩ := hw
      refine xT.bnd S sl hw fun l ι1 H1 m1 S1 x1 sl1 h1 vs rs => ?_
      obtain ⟨g, h1⟩ := h1.guard
      exact ⟨by rw [← rs.length]; exact small_le g, fun p hp => h1.newT S1 rs hp⟩
    · cases h
  | .mk q, Γ, fa, Φ, Wx, fn, sc, X, tst, e, C, h => by
    simp only [ok, Bool.and_eq_true] at h
    refine .leaf h.1 (PE.imp (sndQ q e C h.2) fun σ H Q hw => ?_)
    obtain ⟨ι, m, τ, S, sl, hw⟩ := hw
    refine xT.bnd S sl hw fun l ι1 H1 m1 S1 x1 sl1 h1 D vs hD rs => ?_
    exact h1.allocL S1 rs hD
  | .idx a i, Γ, fa, Φ, Wx, fn, sc, X, tst, e, C, h => by
    simp only [ok, Bool.and_eq_true] at h
    obtain ⟨h0, h⟩ := h
    split at h
    · rename_i x y pos
      simp only [Bool.and_eq_true] at h
      refine .leaf h0 (PE.imp (pe_ix (ix_T (fa := fa) C.hu) (snd a false x C h.1.2).pe (snd i false y C h.2).pe (sub_ns h.1.1)) fun σ H Q hw => ?_)
      obtain ⟨ι, m, τ, S, sl, hw⟩ := hw
      refine xT.bnd S sl hw fun x ι1 H1 m1 S1 x1 sl1 h1 v rv => ?_
      refine xT.bnd S1 sl1 h1 fun y ι2 H2 m2 S2 x2 sl2 h2 u ru => ?_
      exact ⟨_, ι2, m2, x, y, S2, Rep.mono S1 x2 rv, ru, h2⟩
    · cases h
  | .slc a lo hi, Γ, fa, Φ, Wx, fn, sc, X, tst, e, C, h => by
    simp only [ok, Bool.and_eq_true] at h
    obtain ⟨h0, h⟩ := h
    split at h
    · rename_i x l u p2 pos
      simp only [Bool.and_eq_true] at h
      refine .leaf h0 (PE.imp (pe_slice (sl_T (fa := fa)) (snd a false x C h.1.1).pe (sndO lo l C h.1.2) (sndO hi u C h.2)) fun σ H Q hw => ?_)
      obtain ⟨ι, m, τ, S, sl, hw⟩ := hw
      refine xT.bnd S sl hw fun x ι1 H1 m1 S1 x1 sl1 h1 v rv => ?_
      refine xT.bnd S1 sl1 h1 fun y ι2 H2 m2 S2 x2 sl2 h2 => ?_
      refine xT.bnd S2 sl2 h2 fun z ι3 H3 m3 S3 x3 sl3 h3 => ?_
      exact ⟨_, ι3, m3, x, S3, Rep.mono S1 (x2.trans x3) rv, h3⟩
    · cases h
  | .revl a, Γ, fa, Φ, Wx, fn, sc, X, tst, e, C, h => by
    simp only [ok, Bool.and_eq_true] at h
    obtain ⟨h0, h⟩ := h
    split at h
    · rename_i x k p1 p2 p3 pos
      refine .leaf h0 (PE.imp (pe_revL (snd a false x C h).pe) fun σ H Q hw => ?_)
      obtain ⟨ι, m, τ, S, sl, hw⟩ := hw
      refine xT.bnd S sl hw fun x ι1 H1 m1 S1 x1 sl1 h1 v rv => ?_
      split at h1
      · split at h1
        · rename_i l hl
          obtain ⟨a, vs, rfl, _, g1, g2⟩ := S1.lst rv hl
          exact ⟨a, vs, rfl, .of g1, fun p hp => h1.allocL S1 g2.reverse hp⟩
        · exact h1.none.elim
      · obtain ⟨a, vs, rfl, g1, g2⟩ := rep_ro.mp rv
        exact ⟨a, vs, rfl, g1.1, fun p hp => h1.allocL S1 g2.reverse hp⟩
      · exact h1.none.elim
    · cases h
  | .call k es, Γ, fa, Φ, Wx, fn, sc, X, tst, e, C, h => by
    simp only [ok, Bool.and_eq_true] at h
    obtain ⟨h0, h⟩ := h
    split at h
    · rename_i f fp x xs pos
      simp only [Bool.and_eq_true, decide_eq_true_eq] at h
      obtain ⟨⟨⟨⟨⟨h1, h2⟩, h3⟩, h4⟩, h5⟩, h6⟩ := h
      have hs := h5
      simp only [noStars, Bool.and_eq_true] at hs
      refine .leaf h0 (PE.imp (pe_callG (E := fun σ c d H => Wx c d σ H) (C.fok k h2) C.room C.hg (C.gl' h3) (C.fns k f h2 h1) (C.keep k) C.pass (sndA es (x :: xs) C h6) (nodbg_ok h4).1 (starEach_ns hs.1 _ _) (noStars_any _ _ hs.2)) fun σ H Q hw => ?_)
      obtain ⟨ι, m, τ, S, sl, hw⟩ := hw
      refine xT.bnd S sl hw fun l ι1 H1 m1 S1 x1 sl1 h1 vs rs => ?_
      exact ⟨ι1, m1, l, S1, rs, h1⟩
    · cases h
  | .callv i es, Γ, fa, Φ, Wx, fn, sc, X, tst, e, C, h => by
    simp only [ok, Bool.and_eq_true] at h
    obtain ⟨h0, h⟩ := h
    split at h
    · rename_i f fp x xs pos
      simp only [Bool.and_eq_true, decide_eq_true_eq] at h
      obtain ⟨⟨⟨⟨h1, h3⟩, h4⟩, h5⟩, h6⟩ := h
      have hs := h5
      simp only [noStars, Bool.and_eq_true] at hs
      refine .leaf h0 (PE.imp (pe_callVG (i := i) (n := Γ.bnd) (fa := fa.fa) (sp := fun k => spT (X.wo fa) (Φ k)) (E := fun σ c d H => Wx c d σ H) C.fok C.room C.hg (by rw [C.N]; exact h1) (C.vis' h3) C.keep C.pass (sndA es (x :: xs) C h6) (nodbg_ok h4).1 (nodbg_ok h4).2 (starEach_ns hs.1 _ _) (noStars_any _ _ hs.2)) fun σ H Q hw => ?_)
      obtain ⟨ι, m, τ, S, sl, hw⟩ := hw
      simp only [ev] at hw
      split at hw
      · rename_i k hk
        obtain ⟨v, e1, r⟩ := sl.get _ _ hk
        simp only [Rep] at r
        subst r
        refine ⟨k, e1, ?_⟩
        refine xT.bnd S sl hw fun l ι1 H1 m1 S1 x1 sl1 h1 vs rs => ?_
        by_cases hb : k < Γ.bnd
        · exact ⟨hb, ι1, m1, l, S1, rs, h1⟩
        · rw [C.low k l m1 (Nat.le_of_not_lt hb)] at h1
          exact h1.none.elim
      · exact hw.none.elim
    · cases h
  | .bi b es, Γ, fa, Φ, Wx, fn, sc, X, tst, e, C, h => by
    simp only [ok, Bool.and_eq_true] at h
    obtain ⟨h0, h⟩ := h
    split at h
    · rename_i f fp x xs pos
      simp only [Bool.and_eq_true, decide_eq_true_eq] at h
      obtain ⟨⟨⟨⟨h1, h2⟩, h3⟩, h5⟩, h6⟩ := h
      refine .leaf h0 (PE.imp (pe_bi C b h1 h2 h3 h5 (sndA es (x :: xs) C h6)) fun σ H Q hw => ?_)
      obtain ⟨ι, m, τ, S, sl, hw⟩ := hw
      refine xT.bnd S sl hw fun l ι1 H1 m1 S1 x1 sl1 h1 vs rs => ?_
      exact ⟨_, ι1, m1, l, S1, rs, h1⟩
    · cases h
  | .biq b q, Γ, fa, Φ, Wx, fn, sc, X, tst, e, C, h => by
    simp only [ok, Bool.and_eq_true] at h
    obtain ⟨h0, h⟩ := h
    split at h
    · rename_i f fp x pos
      simp only [Bool.and_eq_true, decide_eq_true_eq] at h
      obtain ⟨⟨⟨h1, h3⟩, h5⟩, h6⟩ := h
      refine .leaf h0 (PE.imp (pe_bq C b h1 h3 h5 (pa_cons (sndQ q x C h6) pa_nil (starEach_ns h5 _ _))) fun σ H Q hw => ?_)
      obtain ⟨ι, m, τ, S, sl, hw⟩ := hw
      refine xT.bnd S sl hw fun l ι1 H1 m1 S1 x1 sl1 h1 D vs hD rs => ?_
      exact ⟨_, ι1, m1, l, D, vs, H1, rfl, hD, rfl, S1, rs, h1⟩
    · cases h
  | .meth mt o es, Γ, fa, Φ, Wx, fn, sc, X, tst, e, C, h => by
    simp only [ok, Bool.and_eq_true] at h
    obtain ⟨h0, h⟩ := h
    split at h
    · rename_i x nm ap xs cp
      simp only [Bool.and_eq_true, decide_eq_true_eq] at h
      obtain ⟨⟨⟨⟨⟨⟨rfl, h1⟩, h2⟩, h3⟩, h4⟩, h5⟩, h6⟩ := h
      have po := (snd o false x C h5).pe
      have pa := sndA es xs C h6
      have hb := base_nc h3 (mtNm mt) X.env (eval x X.env)
      refine .leaf h0 ?_
      have fin0 : ∀ (f : T → List T → Mem → Rm T), methop mt = f → mt ≠ .get2 → mt ≠ .bits → es = .nil → ∀ σ H Q, eT (X.wo fa) Wx (ev Φ (.meth mt o es)) σ H Q → tBM0 X.K "list" (rM (X.wo fa) f) (eT (X.wo fa) Wx (ev Φ o)) σ H Q := by
        intro f hf n1 n2 he σ H Q hw
        subst he hf
        obtain ⟨ι, m, τ, S, sl, hw⟩ := hw
        refine xT.bnd S sl hw fun t ι1 H1 m1 S1 x1 sl1 h1 v rv => ?_
        obtain ⟨g, h1⟩ := h1.guard
        exact ⟨ty_lst S1 rv g n1 n2, _, ι1, m1, t, [], S1, rv, Reps.nil, h1⟩
      have fin1 : ∀ (f : T → List T → Mem → Rm T), methop mt = f → mt ≠ .get2 → mt ≠ .bits → ∀ σ H Q, eT (X.wo fa) Wx (ev Φ (.meth mt o es)) σ H Q → tBM X.K "list" (rM (X.wo fa) f) (eT (X.wo fa) Wx (ev Φ o)) (aT (X.wo fa) Wx (evs Φ es)) σ H Q := by
        intro f hf n1 n2 σ H Q hw
        subst hf
        obtain ⟨ι, m, τ, S, sl, hw⟩ := hw
        refine xT.bnd S sl hw fun t ι1 H1 m1 S1 x1 sl1 h1 v rv => ?_
        obtain ⟨g, h1⟩ := h1.guard
        refine ⟨ty_lst S1 rv g n1 n2, ?_⟩
        refine xT.bnd S1 sl1 h1 fun l ι2 H2 m2 S2 x2 sl2 h2 vs rs => ?_
        exact ⟨_, ι2, m2, t, l, S2, Rep.mono S1 x2 rv, rs, h2⟩
      have nil0 : xs = [] → es = .nil := by
        intro hx
        subst hx
        cases es with
        | nil => rfl
        | cons s a r => simp [okA] at h6
      have len1 : mtAr mt = 1 → ∃ y, xs = [y] ∧ notStar y = true := by
        intro hl
        rw [hl] at h1
        obtain ⟨y, rfl⟩ := List.length_eq_one_iff.mp h1
        simp only [noStars, Bool.and_eq_true] at h4
        exact ⟨y, rfl, h4.1⟩
      cases mt with
      | append =>
        obtain ⟨y, rfl, hy⟩ := len1 rfl
        exact PE.imp (pe_bm PySem.F.plainAttrs_list PySem.F.slot_list_append PySem.F.type_list_append (m_append (fa := fa)) po pa hb (few1 hy) h2 (starEach_ns hy _ _) rfl) (fin1 _ rfl (by simp) (by simp))
      | extend =>
        obtain ⟨y, rfl, hy⟩ := len1 rfl
        exact PE.imp (pe_bm PySem.F.plainAttrs_list PySem.F.slot_list_extend PySem.F.type_list_extend (m_extend (fa := fa)) po pa hb (few1 hy) h2 (starEach_ns hy _ _) rfl) (fin1 _ rfl (by simp) (by simp))
      | popAt =>
        obtain ⟨y, rfl, hy⟩ := len1 rfl
        exact PE.imp (pe_bm PySem.F.plainAttrs_list PySem.F.slot_list_pop PySem.F.type_list_pop (m_popAt (fa := fa)) po pa hb (few1 hy) h2 (starEach_ns hy _ _) rfl) (fin1 _ rfl (by simp) (by simp))
      | pop =>
        obtain rfl := List.length_eq_zero_iff.mp h1
        exact PE.imp (pe_bm0 PySem.F.plainAttrs_list PySem.F.slot_list_pop PySem.F.type_list_pop (m_pop (fa := fa)) po hb h2) (fin0 _ rfl (by simp) (by simp) (nil0 rfl))
      | reverse =>
        obtain rfl := List.length_eq_zero_iff.mp h1
        exact PE.imp (pe_bm0 PySem.F.plainAttrs_list PySem.F.slot_list_reverse PySem.F.type_list_reverse (m_reverse (fa := fa)) po hb h2) (fin0 _ rfl (by simp) (by simp) (nil0 rfl))
      | clear =>
        obtain rfl := List.length_eq_zero_iff.mp h1
        exact PE.imp (pe_bm0 PySem.F.plainAttrs_list PySem.F.slot_list_clear PySem.F.type_list_clear (m_clear (fa := fa)) po hb h2) (fin0 _ rfl (by simp) (by simp) (nil0 rfl))
      | get2 =>
        obtain ⟨y, z, rfl⟩ : ∃ y z, xs = [y, z] := by
          match xs, h1 with
          | [y, z], _ => exact ⟨y, z, rfl⟩
        simp only [noStars, Bool.and_eq_true] at h4
        refine PE.imp (pe_getX (fa := fa) (Wx := Wx) C.hu po pa hb h4.1 h4.2.1 h2) fun σ H Q hw => ?_
        obtain ⟨ι, m, τ, S, sl, hw⟩ := hw
        refine xT.bnd S sl hw fun t ι1 H1 m1 S1 x1 sl1 h1 v rv => ?_
        obtain ⟨g, h1⟩ := h1.guard
        obtain ⟨n, rfl⟩ : ∃ n, t = .ref n := by
          cases t with
          | ref n => exact ⟨n, rfl⟩
          | _ => simp [mtyOk] at g
        refine ⟨⟨ι1, m1, n, S1, rv, g⟩, ?_⟩
        refine xT.bnd S1 sl1 h1 fun l ι2 H2 m2 S2 x2 sl2 h2 vs rs => ?_
        exact ⟨_, ι2, m2, _, l, S2, Rep.mono S1 x2 rv, rs, h2⟩
      | bits =>
        obtain rfl := List.length_eq_zero_iff.mp h1
        have he := nil0 rfl
        subst he
        refine PE.imp (pe_bits po hb h2) fun σ H Q hw => ?_
        obtain ⟨ι, m, τ, S, sl, hw⟩ := hw
        refine xT.bnd S sl hw fun t ι1 H1 m1 S1 x1 sl1 h1 v rv => ?_
        obtain ⟨g, h1⟩ := h1.guard
        cases t with
        | int i => exact ⟨i, rep_int.mp rv, h1.ret S1 _ (rep_int.mpr rfl)⟩
        | _ => simp [mtyOk] at g
    · cases h
  | .dnew tk, Γ, fa, Φ, Wx, fn, sc, X, tst, e, C, h => by
    simp only [ok, Bool.and_eq_true] at h
    obtain ⟨h0, h⟩ := h
    split at h
    · rename_i pos
      refine .leaf h0 ?_
      cases tk with
      | false => exact PE.imp pe_dnewK fun σ H Q ⟨ι, m, τ, S, sl, hw⟩ p hp => hw.alloc S hp fun c => ⟨[], by simp only [Bool.false_eq_true, ↓reduceIte]; exact upd_same, rfl, Reps.nil, List.nodup_nil⟩
      | true =>
        refine ⟨fun pins s σ H Q I ⟨ι, m, τ, S, sl, hw⟩ => ?_⟩
        have hp := I.hok.fresh (Nat.le_refl s.heap.objs.size)
        refine wpAny_Dict_empty ⟨.ref s.heap.objs.size, _, I.laid (a := s.heap.objs.size) (o := dX X.prog X.w s.heap.objs.size []) (t' := s.toks) (fun _ _ q => Heap.get?_push_of_some _ q) (Nat.le_refl _)
          (dX_ok (Nat.zero_le _) (beq_eq_false_iff_ne.mpr (Ne.symm (Nat.ne_of_lt I.big))) .nil (Heap.DictOfH.new s.heap)), rfl, hw.alloc S hp fun c => ⟨[], by simp only [Bool.false_eq_true, ↓reduceIte]; exact upd_same, rfl, fun x hx => (by cases hx), Reps.nil, List.nodup_nil⟩⟩
    · cases h
  | .ddisp ks es, Γ, fa, Φ, Wx, fn, sc, X, tst, e, C, h => by
    simp only [ok, Bool.and_eq_true] at h
    obtain ⟨h0, h⟩ := h
    split at h
    · rename_i keys vals pos
      simp only [Bool.and_eq_true, decide_eq_true_eq] at h
      obtain ⟨⟨⟨⟨⟨h1, h2⟩, h3⟩, h4⟩, h5⟩, h6⟩ := h
      obtain ⟨pp, hall, hks⟩ := sndP es ks keys vals (pos := pos) C h1 h2 h5 h6
      refine .leaf h0 (PE.imp (pe_disp pp hall h5 h3 h4) fun σ H Q hw => ?_)
      intro p hp
      obtain ⟨ι, m, τ, S, sl, hw⟩ := hw
      obtain ⟨S0, x0⟩ := S.out (o := .dK []) hp
      refine pairs_go ks es h6 h2 (hks.trans h5) ⟨ι, m, τ, S0, sl.mono S x0, ?_⟩
      obtain ⟨r, mE, e, q⟩ := hw
      simp only [ev] at e
      cases hres : evs Φ es τ m with
      | none => rw [hres] at e; cases e
      | some z =>
        obtain ⟨z1, m1⟩ := z
        rw [hres] at e
        cases z1 with
        | ex w => cases e; exact ⟨.ex w, mE, rfl, fun ι' H' x S' => q ι' H' (x0.trans x) S'⟩
        | ok l =>
          refine ⟨.ok l, m1, rfl, fun ι1 H1 x1 S1 vs rs => ?_⟩
          rw [bnd_ok] at e
          have hp1 : H1 p = some (.dK []) := x1.keep _ _ upd_same (S.free hp)
          have hn1 : p ∉ ι1 := fun z => by
            rcases x1.fr p z with z | z
            · exact S.free hp z
            · rw [upd_same] at z; cases z
          split at e
          · rename_i hlen
            cases e
            have lz : ((ks.map Sum.inr).zip l).map (·.1) = (ks.map (Sum.inr : Str → Key)) := List.map_fst_zip (by rw [List.length_map, hlen]; exact Nat.le_refl _)
            have lz2 : ((ks.map (Sum.inr : Str → Key)).zip l).map (·.2) = l := List.map_snd_zip (by rw [List.length_map, hlen]; exact Nat.le_refl _)
            have lw : ((ks.map Sum.inr).zip vs).map (·.1) = (ks.map (Sum.inr : Str → Key)) := List.map_fst_zip (by rw [List.length_map, ← hlen, rs.length]; exact Nat.le_refl _)
            have lw2 : ((ks.map (Sum.inr : Str → Key)).zip vs).map (·.2) = vs := List.map_snd_zip (by rw [List.length_map, ← hlen, rs.length]; exact Nat.le_refl _)
            obtain ⟨q1, q2, q3⟩ := merge_rel (W := X.wo fa) (ι := ι1) (H := H1) ((ks.map Sum.inr).zip l) ((ks.map Sum.inr).zip vs) [] [] (by rw [lw, lz]) (by rw [lz2, lw2]; exact rs) rfl Reps.nil List.nodup_nil
            refine ⟨hp1, (ks.map Sum.inr).zip vs, ?_, ?_, ?_⟩
            · have : ∀ (ks : List Str) (vs : List V), (ks.map V.str).zip vs = ((ks.map (Sum.inr : Str → Key)).zip vs).map fun kv => (kV kv.1, kv.2) := by
                intro ks
                induction ks with
                | nil => intro vs; rfl
                | cons k ks ih =>
                  intro vs
                  cases vs with
                  | nil => rfl
                  | cons v vs => simp only [List.map_cons, List.zip_cons_cons, ih]; rfl
              exact this ks vs
            · rw [List.length_zip, List.length_map]
              have : ks.length ≤ 15 := by rw [hks]; exact h4
              omega
            · obtain ⟨S2, c2⟩ := S1.take hp1 rfl hn1 (o' := .dK (mergeK [] ((ks.map Sum.inr).zip vs))) (mo := .dK false (merge [] ((ks.map Sum.inr).zip l))) fun c => ⟨_, by simp only [Bool.false_eq_true, ↓reduceIte]; exact upd_same, q1, Reps.carry c _ _ q2, q3⟩
              refine q (ι1 ++ [p]) _ ⟨x1.pre.trans ⟨[p], rfl⟩, fun b hb => ?_, fun b o eb nb => ?_, fun b o u eb => ?_⟩ S2 (.ref p) (rep_ref.mpr ⟨p, rfl, ?_⟩)
              · rcases List.mem_append.mp hb with hb | hb
                · rcases x1.fr b hb with z | z
                  · exact .inl z
                  · by_cases hbp : b = p
                    · rw [hbp]; exact .inr hp
                    · rw [upd_ne hbp] at z; exact .inr z
                · rw [List.mem_singleton.mp hb]; exact .inr hp
              · have ne : b ≠ p := fun z => by rw [z, hp] at eb; cases eb
                rw [upd_ne ne]
                exact x1.keep b o (by rw [upd_ne ne]; exact eb) nb
              · have ne : b ≠ p := fun z => by rw [z, hp] at eb; cases eb
                rw [upd_ne ne]
                exact x1.frz b o u (by rw [upd_ne ne]; exact eb)
              · rw [← S1.len, List.getElem?_append_right (Nat.le_refl _)]
                simp
          · cases e
    · cases h
theorem sndA : ∀ (c : CEs) {Γ : Gm} {fa : Ad} {Φ : Fns} {Wx : WX} {fn : Str → Bool} {sc : Scope} {X : Cx} (es : List Expr), Ct Γ fa Φ Wx fn sc X → okA Γ fn sc c es = true → PA X es (aT (X.wo fa) Wx (evs Φ c))
  | .nil, Γ, fa, Φ, Wx, fn, sc, X, es, C, h => by
    simp only [okA] at h
    split at h
    · exact PA.imp pa_nil fun σ H Q ⟨ι, m, τ, S, sl, hw⟩ => hw.ret S [] Reps.nil
    · cases h
  | .cons star a r, Γ, fa, Φ, Wx, fn, sc, X, es, C, h => by
    simp only [okA] at h
    split at h
    · cases h
    · rename_i x xs
      simp only [Bool.and_eq_true] at h
      obtain ⟨h1, h2⟩ := h
      have pr := sndA r xs C h2
      cases star with
      | false =>
        simp only [Bool.and_eq_true] at h1
        refine PA.imp (pa_cons (snd a false x C h1.2).pe pr (starEach_ns h1.1 _ _)) fun σ H Q hw => ?_
        obtain ⟨ι, m, τ, S, sl, hw⟩ := hw
        refine xT.bnd S sl hw fun t ι1 H1 m1 S1 x1 sl1 h1 v rv => ?_
        refine xT.bnd S1 sl1 h1 fun l ι2 H2 m2 S2 x2 sl2 h2 vs rs => ?_
        exact h2.ret S2 _ (Reps.cons (Rep.mono S1 x2 rv) rs)
      | true =>
        simp only at h1
        split at h1
        · rename_i y pos
          refine PA.imp (StX.pa_star (snd a false y C h1).pe pr) fun σ H Q hw => ?_
          obtain ⟨ι, m, τ, S, sl, hw⟩ := hw
          refine xT.bnd S sl hw fun t ι1 H1 m1 S1 x1 sl1 h1 v rv => ?_
          simp only at h1
          split at h1
          · rename_i l hl
            obtain ⟨p, ws, rfl, g2, g1⟩ := S1.seq rv hl
            refine ⟨p, ws, rfl, ?_, ?_⟩
            · rcases g1 with ⟨g, _⟩ | ⟨g, _⟩
              · exact .inl g
              · exact .inr g
            · refine xT.bnd S1 sl1 h1 fun l2 ι2 H2 m2 S2 x2 sl2 h2 vs rs => ?_
              exact h2.ret S2 _ ((Reps.mono S1 x2 g2).append rs)
          · exact h1.none.elim
        · cases h1
theorem sndP : ∀ (c : CEs) (ks : List Str) (keys : List (Option Expr)) (vals : List Expr) {Γ : Gm} {fa : Ad} {Φ : Fns} {Wx : WX} {fn : Str → Bool} {sc : Scope} {X : Cx} {pos : Pos}, Ct Γ fa Φ Wx fn sc X → okK ks keys = true → noStars vals = true → keys.length = vals.length → okA Γ fn sc c vals = true →
    PPs X pos keys vals (trsOf X fa Wx Φ ks c) ∧ keys.all (·.isSome) = true ∧ ks.length = keys.length
  | .nil, ks, keys, vals, Γ, fa, Φ, Wx, fn, sc, X, pos, C, h1, h2, h3, h4 => by
    cases vals with
    | nil =>
      have hk : keys = [] := List.length_eq_zero_iff.mp h3
      subst hk
      cases ks with
      | nil => exact ⟨pps_nil, rfl, rfl⟩
      | cons k ks => simp [okK] at h1
    | cons v vals => simp [okA] at h4
  | .cons star a r, ks, keys, vals, Γ, fa, Φ, Wx, fn, sc, X, pos, C, h1, h2, h3, h4 => by
    cases vals with
    | nil => simp [okA] at h4
    | cons v vals =>
      cases ks with
      | nil =>
        cases keys with
        | nil => simp at h3
        | cons k keys => simp [okK] at h1
      | cons k ks =>
        obtain ⟨j', p', es', rfl, h1'⟩ := okK_cons h1
        simp only [okA, Bool.and_eq_true] at h4
        simp only [noStars, Bool.and_eq_true] at h2
        obtain ⟨p1, p2, p3⟩ := sndP r ks es' vals (pos := pos) C h1' h2.2 (by simpa using h3) h4.2
        have hs : star = false := by
          cases star with
          | false => rfl
          | true =>
            have := h4.1
            simp only at this
            split at this
            · simp [notStar] at h2
            · cases this
        subst hs
        have h41 := h4.1
        simp only [Bool.and_eq_true] at h41
        exact ⟨pps_cons pe_str (snd a false v C h41.2).pe p1, by simpa using p2, by simp [p3]⟩
theorem sndO : ∀ (c : CO) {Γ : Gm} {fa : Ad} {Φ : Fns} {Wx : WX} {fn : Str → Bool} {sc : Scope} {X : Cx} (e : Option Expr), Ct Γ fa Φ Wx fn sc X → okO Γ fn sc c e = true → PO X e (oT (X.wo fa) Wx (evo Φ c))
  | .none, Γ, fa, Φ, Wx, fn, sc, X, e, C, h => by
    simp only [okO, Option.isNone_iff_eq_none] at h
    subst h
    exact ⟨fun pins s σ H Q I ⟨ι, m, τ, S, sl, hw⟩ => po_none.run pins s σ H Q I (hw.ret S)⟩
  | .some a, Γ, fa, Φ, Wx, fn, sc, X, e, C, h => by
    simp only [okO] at h
    split at h
    · rename_i x
      refine ⟨fun pins s σ H Q I hw => (po_some (snd a false x C h).pe).run pins s σ H Q I ?_⟩
      obtain ⟨ι, m, τ, S, sl, hw⟩ := hw
      refine xT.bnd S sl hw fun t ι1 H1 m1 S1 x1 sl1 h1 v rv => ?_
      cases t with
      | int i => exact ⟨i, rep_int.mp rv, h1.ret S1⟩
      | _ => exact h1.none.elim
    · cases h
theorem sndT : ∀ (c : CO) {Γ : Gm} {fa : Ad} {Φ : Fns} {Wx : WX} {fn : Str → Bool} {sc : Scope} {X : Cx} (es : List Expr), Ct Γ fa Φ Wx fn sc X → okT Γ fn sc c es = true → PTs X es (bT (X.wo fa) Wx (evt Φ c))
  | .none, Γ, fa, Φ, Wx, fn, sc, X, es, C, h => by
    simp only [okT, List.isEmpty_iff] at h
    subst h
    exact ⟨fun pins s σ H Q I ⟨ι, m, τ, S, sl, hw⟩ => pts_nil.run pins s σ H Q I (hw.ret S)⟩
  | .some a, Γ, fa, Φ, Wx, fn, sc, X, es, C, h => by
    simp only [okT] at h
    split at h
    · rename_i x
      exact ⟨fun pins s σ H Q I hw => (pts_one (snd a true x C h).pt).run pins s σ H Q I (bT_of hw)⟩
    · cases h
theorem sndQ : ∀ (c : CQ) {Γ : Gm} {fa : Ad} {Φ : Fns} {Wx : WX} {fn : Str → Bool} {sc : Scope} {X : Cx} (e : Expr), Ct Γ fa Φ Wx fn sc X → okQ Γ fn sc c e = true → PE X e (lT (X.wo fa) Wx (evq Φ c))
  | .lst es, Γ, fa, Φ, Wx, fn, sc, X, e, C, h => by
    simp only [okQ] at h
    split at h
    · rename_i xs pos
      refine PE.imp (pe_lst (sndA es xs C h)) fun σ H Q hw => ?_
      obtain ⟨ι, m, τ, S, sl, hw⟩ := hw
      refine xT.bnd S sl hw fun l ι1 H1 m1 S1 x1 sl1 h1 vs rs => ?_
      obtain ⟨g, h1⟩ := h1.guard
      exact ⟨by rw [← rs.length]; exact small_le g, fun p hp => h1.ret S1 p vs hp rs⟩
    · cases h
  | .lc elt tg it ifs own, Γ, fa, Φ, Wx, fn, sc, X, e, C, h => by
    simp only [okQ] at h
    split at h
    · rename_i x t i fs scope pos
      simp only [Bool.and_eq_true, decide_eq_true_eq, List.all_eq_true] at h
      obtain ⟨⟨⟨⟨⟨⟨⟨h1, h2⟩, h3⟩, h4⟩, h5⟩, h6⟩, h7⟩, h8⟩ := h
      have ok : BlkOk X.N X.env.scope scope (ownOf Γ.N own) := by rw [C.N, C.sc]; exact blkOk_by h2
      refine PE.imp (pe_lc (own := ownOf Γ.N own) (te := eT (X.wo fa) Wx0 (ev Φ elt)) (tt := bT (X.wo fa) Wx0 (evt Φ ifs)) (g := gT (X.wo fa) tg) C.calm (by rw [C.N]; exact C.nd) (sndI it t i C h5) ok
        (fun s H c cl fp => pg_ok (fa := fa) (X := X.blk s H scope (compEnvC scope cl c X.env) fp) C.calm (by show X.N.Nodup; rw [C.N]; exact C.nd) tg t (by
          have C' := C.blk scope s H cl c fp
          rw [C'.N, C'.fn, C'.sc]; exact h6))
        (fun s H c cl fp => sndT ifs fs (C.blk scope s H cl c fp) h7) (fun s H c cl fp => (snd elt false x (C.blk scope s H cl c fp) h8).pe) (set_ns h1 _)) fun σ H Q hw => ?_
      rw [h3]
      exact lc_of (fun j hj => by have := h4 j hj; simpa using this) hw
    · cases h
  | .lcd elt tg v ifs own, Γ, fa, Φ, Wx, fn, sc, X, e, C, h => by
    simp only [okQ] at h
    split at h
    · rename_i x t d dp fs scope pos
      simp only [Bool.and_eq_true, decide_eq_true_eq, List.all_eq_true] at h
      obtain ⟨⟨⟨⟨⟨⟨⟨⟨h2, h3⟩, h4⟩, h5⟩, h5b⟩, h5c⟩, h6⟩, h7⟩, h8⟩ := h
      have ok : BlkOk X.N X.env.scope scope (ownOf Γ.N own) := by rw [C.N, C.sc]; exact blkOk_by h2
      obtain ⟨d1, d2⟩ := nodbg_ok h5c
      have pv := pe_var (X := X) (pos := dp) (by rw [C.N]; exact h5) (C.vis' h5b) d1 d2
      have hset : notSet (.Name d dp) = true := rfl
      refine PE.imp (pe_lock (pe_lc (own := ownOf Γ.N own) (te := eT (X.wo fa) Wx0 (ev Φ elt)) (tt := bT (X.wo fa) Wx0 (evt Φ ifs)) (g := gT (X.wo fa) tg) (pos := pos) C.calm (by rw [C.N]; exact C.nd) (pi_keyX pv) ok
        (fun s H c cl fp => pg_ok (fa := fa) (X := X.blk s H scope (compEnvC scope cl c X.env) fp) C.calm (by show X.N.Nodup; rw [C.N]; exact C.nd) tg t (by
          have C' := C.blk scope s H cl c fp
          rw [C'.N, C'.fn, C'.sc]; exact h6))
        (fun s H c cl fp => sndT ifs fs (C.blk scope s H cl c fp) h7) (fun s H c cl fp => (snd elt false x (C.blk scope s H cl c fp) h8).pe) (set_ns hset _))) fun σ H Q hw => ?_
      obtain ⟨ι, m, τ, S, sl, hw⟩ := hw
      have hown : ∀ j ∈ ctNames tg, j ∈ own := fun j hj => by have := h4 j hj; simpa using this
      simp only [evq] at hw
      split at hw
      · rename_i n hn
        obtain ⟨w, e1, rw1⟩ := sl.get _ _ hn
        obtain ⟨a, rfl, ha⟩ := rep_ref.mp rw1
        have hai : a ∈ ι := List.mem_of_getElem? ha
        split at hw
        · rename_i kvs hm
          obtain ⟨vs, g1, g2, g3, g4⟩ := S.ob n a _ ha hm
          have hH : H a = some (.dK vs) := by simpa using g1
          split at hw
          · rename_i lf mE hl
            obtain ⟨sm, hw⟩ := hw.guard
            refine ⟨a, .dK vs, hH, True.intro, fun od => ?_⟩
            obtain ⟨S1, x1⟩ := S.set ha hH rfl (o := .frz od (.dK vs)) (mo := .dK true kvs) fun c => ⟨vs, by simp only [↓reduceIte]; exact ⟨od, upd_same⟩, g2, Reps.carry c _ _ g3, g4⟩
            refine ⟨.ref a, e1, a, od, rfl, .inl ⟨vs, upd_same, fun D hD => ?_⟩⟩
            rw [h3]
            refine lc_go (W := X.wo fa) (Q := fun v H' => H' a = some (.frz od (.dK vs)) ∧ Q v (upd H' a (.dK vs))) (fun v σ H Q g => g) (fun σ H Q g => g) (fun σ H Q g => g) hown S1 (sl.mono S x1) (walk_dK upd_same g2) hl sm (fun ι' H' x S' D2 vs2 hD2 r2 => ?_) hD
            have hf := x.frz _ _ _ upd_same
            have ne : a ≠ D2 := fun z => by rw [z, hD2] at hf; cases hf
            refine ⟨by rw [upd_ne ne]; exact hf, ?_⟩
            rw [upd_swap (Ne.symm ne)]
            have hmE : mE[n]? = some (.dK true kvs) ∨ True := .inr trivial
            obtain ⟨S2, c2⟩ := S'.put (x.get ha) hf rfl (o := .dK vs) (mo := .dK false kvs) fun c => ⟨vs, by simp only [Bool.false_eq_true, ↓reduceIte]; exact upd_same, g2, Reps.carry c _ _ (Reps.mono S1 x (Reps.mono S x1 g3)), g4⟩
            exact hw.ret' S2 (x.unlock hH rfl hai) D2 vs2 (by rw [upd_ne (Ne.symm ne)]; exact hD2) (Reps.carry c2 _ _ r2)
          · exact hw.none.elim
        · rename_i kvs hm
          obtain ⟨vs, g1, g2, gk, g3, g4⟩ := S.ob n a _ ha hm
          have hH : H a = some (dX X.prog X.w a vs) := by simpa using g1
          split at hw
          · rename_i lf mE hl
            obtain ⟨sm, hw⟩ := hw.guard
            refine ⟨a, dX X.prog X.w a vs, hH, True.intro, fun od => ?_⟩
            obtain ⟨S1, x1⟩ := S.set ha hH rfl (o := .frz od (dX X.prog X.w a vs)) (mo := .dT true kvs) fun c => ⟨vs, by simp only [↓reduceIte]; exact ⟨od, upd_same⟩, g2, fun x hx => c.tup _ _ (gk x hx), Reps.carry c _ _ g3, g4⟩
            refine ⟨.ref a, e1, a, od, rfl, .inr ⟨vs, upd_same, fun D hD => ?_⟩⟩
            rw [h3]
            refine lc_go (W := X.wo fa) (Q := fun v H' => H' a = some (.frz od (dX X.prog X.w a vs)) ∧ Q v (upd H' a (dX X.prog X.w a vs))) (fun v σ H Q g => g) (fun σ H Q g => g) (fun σ H Q g => g) hown S1 (sl.mono S x1) (walk_dX (m := m.set n (.dT true kvs)) S1 upd_same g2 fun x hx => SqT.mono S x1 (gk x hx)) hl sm (fun ι' H' x S' D2 vs2 hD2 r2 => ?_) hD
            have hf := x.frz _ _ _ upd_same
            have ne : a ≠ D2 := fun z => by rw [z, hD2] at hf; cases hf
            refine ⟨by rw [upd_ne ne]; exact hf, ?_⟩
            rw [upd_swap (Ne.symm ne)]
            obtain ⟨S2, c2⟩ := S'.put (x.get ha) hf rfl (o := dX X.prog X.w a vs) (mo := .dT false kvs) fun c => ⟨vs, by simp only [Bool.false_eq_true, ↓reduceIte]; exact upd_same, g2, fun y hy => c.tup _ _ (SqT.mono S1 x (SqT.mono S x1 (gk y hy))), Reps.carry c _ _ (Reps.mono S1 x (Reps.mono S x1 g3)), g4⟩
            exact hw.ret' S2 (x.unlock hH rfl hai) D2 vs2 (by rw [upd_ne (Ne.symm ne)]; exact hD2) (Reps.carry c2 _ _ r2)
          · exact hw.none.elim
        · exact hw.none.elim
      · exact hw.none.elim
    · cases h
  | .rev q, Γ, fa, Φ, Wx, fn, sc, X, e, C, h => by
    simp only [okQ] at h
    split at h
    · rename_i x k p1 p2 p3 pos
      refine PE.imp (pe_revL (sndQ q x C h)) fun σ H Q hw => ?_
      obtain ⟨ι, m, τ, S, sl, hw⟩ := hw
      refine xT.bnd S sl hw fun l ι1 H1 m1 S1 x1 sl1 h1 D vs hD rs => ?_
      obtain ⟨S2, x2⟩ := S1.out (o := .lst vs) hD
      exact ⟨D, vs, rfl, .of upd_same, fun p hp => h1.ret' S2 x2 p vs.reverse hp (Reps.mono S1 x2 rs.reverse)⟩
    · cases h
  | .sorted q, Γ, fa, Φ, Wx, fn, sc, X, e, C, h => by
    simp only [okQ] at h
    split at h
    · rename_i f fp x pos
      simp only [Bool.and_eq_true, decide_eq_true_eq] at h
      obtain ⟨⟨⟨rfl, h1⟩, h2⟩, h3⟩ := h
      refine PE.imp (pe_callB (q_sorted (fa := fa) C.hu) (C.gl' h1) (C.blt _ (by decide)) (by decide +kernel) (pa_cons (sndQ q x C h3) pa_nil (starEach_ns h2 _ _)) (by decide) (by decide) (starEach_ns h2 _ _) rfl) fun σ H Q hw => ?_
      obtain ⟨ι, m, τ, S, sl, hw⟩ := hw
      refine xT.bnd S sl hw fun l ι1 H1 m1 S1 x1 sl1 h1 D vs hD rs => ?_
      obtain ⟨l', e, h1⟩ := h1.opt
      obtain ⟨S2, x2⟩ := S1.out (o := .lst vs) hD
      exact ⟨ι1, m1, l, l', D, vs, H1, rfl, hD, rfl, S1, rs, e, fun p ws hp rw' => h1.ret' S2 x2 p ws hp rw'⟩
    · cases h
  | .cat a b, Γ, fa, Φ, Wx, fn, sc, X, e, C, h => by
    simp only [okQ] at h
    split at h
    · rename_i x y pos
      simp only [Bool.and_eq_true] at h
      refine PE.imp (pe_op op_cat (sndQ a x C h.1) (sndQ b y C h.2)) fun σ H Q hw => ?_
      obtain ⟨ι, m, τ, S, sl, hw⟩ := hw
      refine xT.bnd S sl hw fun l ι1 H1 m1 S1 x1 sl1 h1 D vs hD rs => ?_
      obtain ⟨S2, x2⟩ := S1.out (o := .lst vs) hD
      refine xT.bnd S2 (sl1.mono S1 x2) (h1.later x2) fun k ι3 H3 m3 S3 x3 sl3 h3 D' ws hD' rs' => ?_
      obtain ⟨S4, x4⟩ := S3.out (o := .lst ws) hD'
      obtain ⟨g, h3⟩ := h3.guard
      have r1 := Reps.mono S1 (x2.trans x3) rs
      have hD3 : H3 D = some (.lst vs) := x3.keep _ _ upd_same (S1.free hD)
      refine ⟨D, D', vs, ws, rfl, rfl, by rw [upd_ne (fun z => by rw [z, hD'] at hD3; cases hD3)]; exact hD3, upd_same, by rw [← r1.length, ← rs'.length]; exact small_le g, fun p hp => ?_⟩
      exact h3.ret' S4 x4 p _ hp ((Reps.mono S3 x4 r1).append (Reps.mono S3 x4 rs'))
    · cases h
theorem sndI : ∀ (c : CI) {Γ : Gm} {fa : Ad} {Φ : Fns} {Wx : WX} {fn : Str → Bool} {sc : Scope} {X : Cx} (tg e : Expr), Ct Γ fa Φ Wx fn sc X → okI Γ fn sc c e = true → PI X tg e (iT (X.wo fa) Wx (evi Φ c))
  | .seq a, Γ, fa, Φ, Wx, fn, sc, X, tg, e, C, h => by
    refine PI.imp (pi_seq (snd a false e C h).pe) fun σ H R hw => ?_
    obtain ⟨ι, m, τ, S, sl, hw⟩ := hw
    refine xT.bnd S sl hw fun t ι1 H1 m1 S1 x1 sl1 h1 v rv => ?_
    split at h1
    · rename_i l hl
      rcases walk_seq S1 rv hl with ⟨a, rfl, g1, g2⟩ | ⟨a, rfl, g1, g2⟩
      · exact .inl ⟨a, rfl, g1, h1.ret S1 _ g2⟩
      · exact .inr ⟨a, rfl, g1, h1.ret S1 _ g2⟩
    · exact h1.none.elim
  | .q q, Γ, fa, Φ, Wx, fn, sc, X, tg, e, C, h => by
    refine PI.imp (pi_list (sndQ q e C h)) fun σ H R hw => ?_
    obtain ⟨ι, m, τ, S, sl, hw⟩ := hw
    refine xT.bnd S sl hw fun l ι1 H1 m1 S1 x1 sl1 h1 D vs hD rs => ?_
    obtain ⟨S2, x2⟩ := S1.out (o := .lst vs) hD
    refine ⟨D, rfl, ⟨vs, .of upd_same⟩, h1.ret' S2 x2 _ (walk_list fun ι3 m3 H3 x3 S3 _ => ⟨vs, .of (x3.keep _ _ upd_same (S1.free hD)), Reps.mono S1 (x2.trans x3) rs⟩)⟩
  | .rng a, Γ, fa, Φ, Wx, fn, sc, X, tg, e, C, h => by
    simp only [okI] at h
    split at h
    · rename_i f fp x pos
      simp only [Bool.and_eq_true, decide_eq_true_eq] at h
      obtain ⟨⟨⟨rfl, h1⟩, h2⟩, h3⟩ := h
      have ha := pa_cons (snd a false x C h3).pe pa_nil (starEach_ns h2 X.env [])
      refine PI.imp (pi_range1 (C.gl' h1) (C.blt _ (by decide)) ha (starEach_ns h2 X.env [])) fun σ H R hw => ?_
      obtain ⟨ι, m, τ, S, sl, hw⟩ := hw
      refine xT.bnd S sl hw fun t ι1 H1 m1 S1 x1 sl1 h1 v rv => ?_
      cases t with
      | int n =>
        obtain ⟨g, h1⟩ := h1.guard
        simp only [Bool.and_eq_true, decide_eq_true_eq] at g
        refine ⟨n, by rw [rep_int.mp rv], by omega, by omega, h1.ret S1 _ fun i ι2 m2 H2 x2 S2 _ => ⟨fun t ht => ?_, fun hi => (by show n.toNat ≤ i; simpa using hi)⟩⟩
        rw [List.getElem?_map] at ht
        cases q : (List.range n.toNat)[i]? with
        | none => rw [q] at ht; cases ht
        | some j =>
          rw [q] at ht
          obtain ⟨hj, e⟩ := List.getElem?_eq_some_iff.mp q
          simp at e
          subst e
          simp at hj
          cases ht
          refine ⟨(by show i < n.toNat; omega), fun x' H' hy => ?_⟩
          obtain ⟨rfl, rfl⟩ := hy
          exact ⟨S2, .refl _ _, rep_int.mpr (by simp)⟩
      | _ => exact h1.none.elim
    · cases h
  | .rng2 a b, Γ, fa, Φ, Wx, fn, sc, X, tg, e, C, h => by
    simp only [okI] at h
    split at h
    · rename_i f fp x y pos
      simp only [Bool.and_eq_true, decide_eq_true_eq] at h
      obtain ⟨⟨⟨⟨⟨rfl, h1⟩, h2⟩, h3⟩, h4⟩, h5⟩ := h
      have ha := pa_cons (snd a false x C h4).pe (pa_cons (snd b false y C h5).pe pa_nil (starEach_ns h3 X.env [])) (starEach_ns h2 X.env [y])
      have e2 : starEach [x, y] X.env = [(false, eval x X.env), (false, eval y X.env)] := by rw [starEach_ns h2, starEach_ns h3]; rfl
      refine PI.imp (pi_range2 (C.gl' h1) (C.blt _ (by decide)) ha e2 (starEach_ns h3 X.env [])) fun σ H R hw => ?_
      obtain ⟨ι, m, τ, S, sl, hw⟩ := hw
      refine xT.bnd S sl hw fun t ι1 H1 m1 S1 x1 sl1 h1 v rv => ?_
      refine xT.bnd S1 sl1 h1 fun t2 ι2 H2 m2 S2 x2 sl2 h2 v2 rv2 => ?_
      cases t with
      | int i =>
        cases t2 with
        | int j =>
          obtain ⟨g, h2⟩ := h2.guard
          simp only [Bool.and_eq_true, decide_eq_true_eq] at g
          refine ⟨i, j, by rw [rep_int.mp rv, rep_int.mp rv2], ⟨by omega, by omega, by omega, by omega⟩, h2.ret S2 _ fun k ι3 m3 H3 x3 S3 _ => ⟨fun t ht => ?_, fun hi => (by show (j - i).toNat ≤ k; simpa using hi)⟩⟩
          rw [List.getElem?_map] at ht
          cases q : (List.range (j - i).toNat)[k]? with
          | none => rw [q] at ht; cases ht
          | some z =>
            rw [q] at ht
            obtain ⟨hj, e⟩ := List.getElem?_eq_some_iff.mp q
            simp at e
            subst e
            simp at hj
            cases ht
            refine ⟨(by show k < (j - i).toNat; omega), fun x' H' hy => ?_⟩
            obtain ⟨rfl, rfl⟩ := hy
            exact ⟨S3, .refl _ _, rep_int.mpr (by simp)⟩
        | _ => exact h2.none.elim
      | _ => exact h2.none.elim
    · cases h
  | .rngd a b, Γ, fa, Φ, Wx, fn, sc, X, tg, e, C, h => by
    simp only [okI] at h
    split at h
    · rename_i f fp x y k1 p1 p2 pos
      simp only [Bool.and_eq_true, decide_eq_true_eq] at h
      obtain ⟨⟨⟨⟨⟨rfl, h1⟩, h2⟩, h3⟩, h4⟩, h5⟩ := h
      have p1m : PE X (.UnaryOp .USub (.Constant (.int 1) k1 p1) p2) (tUn (rU fun i => .int (-i)) (tC (.int 1))) := pe_un un_neg pe_int
      have ha := pa_cons (snd a false x C h4).pe (pa_cons (snd b false y C h5).pe (pa_cons p1m pa_nil) (starEach_ns h3 X.env _)) (starEach_ns h2 X.env _)
      have e2 : (backTo pos (starEach [y, .UnaryOp .USub (.Constant (.int 1) k1 p1) p2] X.env)).any (·.1) = false := noStars_any _ _ (by simp only [noStars, Bool.and_eq_true]; exact ⟨h3, rfl, trivial⟩)
      refine PI.imp (pi_range3 (C.gl' h1) (C.blt _ (by decide)) ha (starEach_ns h2 X.env _) e2) fun σ H R hw => ?_
      obtain ⟨ι, m, τ, S, sl, hw⟩ := hw
      refine xT.bnd S sl hw fun t ι1 H1 m1 S1 x1 sl1 h1 v rv => ?_
      refine xT.bnd S1 sl1 h1 fun t2 ι2 H2 m2 S2 x2 sl2 h2 v2 rv2 => ?_
      cases t with
      | int i =>
        cases t2 with
        | int j =>
          obtain ⟨g, h2⟩ := h2.guard
          simp only [Bool.and_eq_true, decide_eq_true_eq] at g
          refine ⟨1, rfl, i, j, -1, (i - j).toNat, by rw [rep_int.mp rv, rep_int.mp rv2], RgC.neg (by omega) (by omega) (by omega) (by omega), h2.ret S2 _ fun k ι3 m3 H3 x3 S3 _ => ⟨fun t ht => ?_, fun hi => (by show (i - j).toNat ≤ k; simpa using hi)⟩⟩
          rw [List.getElem?_map] at ht
          cases q : (List.range (i - j).toNat)[k]? with
          | none => rw [q] at ht; cases ht
          | some z =>
            rw [q] at ht
            obtain ⟨hj, e⟩ := List.getElem?_eq_some_iff.mp q
            simp at e
            subst e
            simp at hj
            cases ht
            refine ⟨(by show k < (i - j).toNat; omega), fun x' H' hy => ?_⟩
            obtain ⟨rfl, rfl⟩ := hy
            exact ⟨S3, .refl _ _, rep_int.mpr (by show V.int _ = V.int _; congr 1; simp; omega)⟩
        | _ => exact h2.none.elim
      | _ => exact h2.none.elim
    · cases h
  | .zip _ _, Γ, fa, Φ, Wx, fn, sc, X, tg, e, C, h => by simp [okI] at h
end
end Ev
end
section
set_option linter.all false
set_option maxRecDepth 10000
/-! Ev12: statements. -/
namespace Ev
open PySem PySem.Spec PyProof.Rows L2
section
variable {W : Wo} {Wx : WX} {ι ι1 ι' : List Addr} {H H1 H' : Hp} {m m1 m' : Mem} {τ : Lo} {σ : L2.St} {D : Ends}
/-- what is wanted of a statement's result -/
def Wts (W : Wo) (Wx : WX) (D : Ends) (ι : List Addr) (H : Hp) (res : Sm) : Prop := ∃ o m', res = some (o, m') ∧ ∀ ι' H', Ext ι H ι' H' → Sim W ι' m' H' → match o with
  | .nx τ' => ∀ σ', SlOk W ι' H' τ' σ' → D.nx σ' H'
  | .ret t => ∀ v, Rep W ι' H' t v → D.rt v H'
  | .brk τ' => ∀ σ', SlOk W ι' H' τ' σ' → D.bk σ' H'
  | .cnt τ' => ∀ σ', SlOk W ι' H' τ' σ' → D.ct σ' H'
  | .ex e τ' => ∀ σ', SlOk W ι' H' τ' σ' → ewx W (fun c d H => Wx c d σ' H) e ι' H'
def sT (W : Wo) (Wx : WX) (f : Lo → Mem → Sm) : TS := fun D σ H => ∃ ι m τ, Sim W ι m H ∧ SlOk W ι H τ σ ∧ Wts W Wx D ι H (f τ m)
theorem Wts.none (h : Wts W Wx D ι H none) : False := by obtain ⟨_, _, e, _⟩ := h; cases e
theorem Wts.later {res : Sm} (h : Wts W Wx D ι H res) (x : Ext ι H ι' H') : Wts W Wx D ι' H' res := by
  obtain ⟨o, m', e, q⟩ := h
  exact ⟨o, m', e, fun ι2 H2 y S => q ι2 H2 (x.trans y) S⟩
theorem Wts.nx {τ' : Lo} (h : Wts W Wx D ι H (some (.nx τ', m))) (S : Sim W ι m H) (sl : SlOk W ι H τ' σ) : D.nx σ H := by
  obtain ⟨o, m', e, q⟩ := h
  cases e
  exact q ι H (.refl _ _) S σ sl
theorem Wts.nx' {τ' : Lo} (h : Wts W Wx D ι H (some (.nx τ', m))) (S : Sim W ι' m H') (x : Ext ι H ι' H') (sl : SlOk W ι' H' τ' σ) : D.nx σ H' := by
  obtain ⟨o, m', e, q⟩ := h
  cases e
  exact q ι' H' x S σ sl
/-- a value first -/
theorem sT.bnd {α γ : Type} {q : γ → α → List Addr → Hp → Prop} {Q : γ} {f : Lo → Mem → Rm α} {g : α → Mem → Sm} (S : Sim W ι m H) (sl : SlOk W ι H τ σ) (h : Wts W Wx D ι H (sbnd τ (f τ m) g))
    (k : ∀ a ι1 H1 m1, Sim W ι1 m1 H1 → Ext ι H ι1 H1 → SlOk W ι1 H1 τ σ → Wts W Wx D ι1 H1 (g a m1) → q Q a ι1 H1) : xT W Wx q f σ H Q := by
  refine ⟨ι, m, τ, S, sl, ?_⟩
  obtain ⟨o, mE, e, w⟩ := h
  cases hr : f τ m with
  | none => rw [hr] at e; cases e
  | some z =>
    obtain ⟨z1, z2⟩ := z
    rw [hr] at e
    cases z1 with
    | ex x =>
      cases e
      exact ⟨.ex x, _, rfl, fun ι' H' y S' => w ι' H' y S' σ (sl.mono S y)⟩
    | ok a => exact ⟨.ok a, z2, rfl, fun ι' H' y S' => k a ι' H' z2 S' y (sl.mono S y) ⟨o, mE, e, fun ι2 H2 y2 S2 => w ι2 H2 (y.trans y2) S2⟩⟩
theorem sbnd_truth {x : T} {g : Bool → Mem → Sm} (h : Wts W Wx D ι H (sbnd τ (truth x m) g)) : ∃ k, x = .bl k ∧ Wts W Wx D ι H (g k m) := by
  cases x with
  | bl k => exact ⟨k, rfl, h⟩
  | _ => exact h.none.elim
end
structure CtS (Γ : Gm) (fa : Ad) (Φ : Fns) (Wx : WX) (sc : Scope) (X : Cx) : Prop where
  c : Ct Γ fa Φ Wx (fun _ => true) sc X
  own : PassesOwn (model X.prog X.w) X.A X.env X.xe
  fk : X.env.scope.kind = .function
def notComp : Expr → Bool
  | .ListComp .. => false
  | .SetComp .. => false
  | .DictComp .. => false
  | _ => true
theorem swaps_nc {e : Expr} (h : notComp e = true) (t : Option Expr) (l : Nat) (env : Env) : swapsWith e t l env = pure false := by
  cases e <;> first | rfl | cases h
theorem sole_nc {e : Expr} (h : notComp e = true) (t : Expr) (l : Nat) (env : Env) : swapsWithSole [t] e l env = pure false := swaps_nc h _ _ _
def notTup : Expr → Bool
  | .Tuple .. => false
  | .List .. => false
  | _ => true
theorem stores_nt {t e : Expr} (h : (notTup t || notTup e) = true) (env : Env) : swappedStores [t] e env = pure none := by
  cases t <;> first | rfl | (cases e <;> first | rfl | cases h)
/-- a comprehension that is stored where it was made -/
def swB (sc : Scope) (y : Str) (py : Pos) (cs : Scope) (cp : Pos) : Bool := sc.names.lookup y == some .local && py.line == cp.line && !(cs.names.any fun (n, k) => n == y && (k == .local || k == .cell))
theorem block_fn {X : Cx} (h : X.env.scope.kind = .function) : X.env.blockKind = .function := by
  unfold Env.blockKind
  rw [h]; rfl
theorem swaps_lc {X : Cx} (h : X.env.scope.kind = .function) {elt : Expr} {gs : List Comprehension} {cs : Scope} {cp py : Pos} {y : Str} {l : Nat} :
    swapsWith (.ListComp elt gs cs cp) (some (.Name y py)) l X.env = pure (swB X.env.scope y py cs cp) := by
  show (pure (X.env.blockKind == .function && X.env.kindOf y == some .local && py.line == cp.line && !(cs.names.any fun (n, k) => n == y && (k == .local || k == .cell))) : Sem Bool) = _
  rw [block_fn h]
  rw [show (ScopeKind.function == ScopeKind.function) = true from rfl, Bool.true_and]
  rfl
/-- two names, two values -/
def okPar2 (N : List Str) (sc : Scope) (is : List Nat) (ts vs : List Expr) : Bool := match is, ts, vs with
  | [i, j], [.Name x px, .Name y py], [a, b] => decide (i ≠ j) && decide (N[i]? = some x) && decide (N[j]? = some y) && decide (sc.names.lookup x = some .local) && decide (sc.names.lookup y = some .local) && py.line == px.line &&
      !(x == y) && notStar a && notStar b && !([a, b].all (foldedForSure 8)) && !([a, b].all (constantsAlone 8))
  | _, _, _ => false
theorem stores_2 {X : Cx} (h : X.env.scope.kind = .function) {x y : Str} {a b : Expr} {px py pt pt2 : Pos} {kt k2 : Nat} (hx : X.env.scope.names.lookup x = some .local) (hy : X.env.scope.names.lookup y = some .local) (hl : (py.line == px.line) = true)
    (hxy : (x == y) = false) (ha : notStar a = true) (hb : notStar b = true) (h1 : [a, b].all (foldedForSure 8) = false) (h2 : [a, b].all (constantsAlone 8) = false) :
    swappedStores [.Tuple [.Name x px, .Name y py] kt pt] (.Tuple [a, b] k2 pt2) X.env = pure (some [x, y]) := by
  have e1 : X.env.kindOf x = some .local := hx
  have e2 : X.env.kindOf y = some .local := hy
  have hxy' : (y == x) = false := by
    cases q : (y == x) with
    | false => rfl
    | true => have := eq_of_beq q; subst this; simp at hxy
  have hd : ([x, y] : List Str).eraseDups.length = 2 := by
    simp [List.eraseDups, List.eraseDupsBy, List.eraseDupsBy.loop, hxy']
  unfold swappedStores
  simp only [List.any_cons, List.any_nil, Bool.or_false, block_fn h, h1, h2, List.filterMap_cons, List.filterMap_nil, e1, e2, hl, List.head?_cons, Option.map_some, Option.getD_some, List.length_cons, List.length_nil]
  simp [hd, Expr.pos, hl]
  intro h
  exfalso
  clear h1 h2
  rcases h with h | h
  · cases a <;> first | (cases h; done) | (cases ha; done)
  · cases b <;> first | (cases h; done) | (cases hb; done)
theorem stores_fold {X : Cx} {ts vs : List Expr} {pt pt2 : Pos} {kt k2 : Nat} (h : vs.all (foldedForSure 8) = true) : swappedStores [.Tuple ts kt pt] (.Tuple vs k2 pt2) X.env = pure none := by
  unfold swappedStores
  simp only [h]
  split
  · rfl
  · split
    · rfl
    · split <;> rfl
/-- any names, the values folded or stored from the left -/
def okPar (Γ : Gm) (sc : Scope) (is : List Nat) (es : CEs) (ts vs : List Expr) : Bool := okPar2 Γ.N sc is ts vs && okA Γ (fun _ => true) sc es vs
def ctsOf : List Nat → CTs
  | [] => .nil
  | i :: is => .cons (.name i) (ctsOf is)
theorem setAll_cts : ∀ (is : List Nat) (ts : List T) (τ : Lo), asgTs (ctsOf is) ts τ = setAll is ts τ
  | [], [], _ => rfl
  | [], _ :: _, _ => rfl
  | _ :: _, [], _ => rfl
  | i :: is, t :: ts, τ => by
    simp only [ctsOf, asgTs, asgT, setAll]
    by_cases h : i < τ.length
    · simp only [h, ↓reduceIte]; exact setAll_cts is ts _
    · simp only [h, ↓reduceIte]
mutual
def okS (Γ : Gm) (sc : Scope) : CS → Stmt → Bool
  | .ex e, s => match s with
    | .Expr x _ => notComp x && ok Γ (fun _ => true) sc false e x
    | _ => false
  | .asg tg e, s => match s with
    | .Assign [t] x _ => okG Γ.N (fun _ => true) sc tg t && notComp x && (notTup t || notTup x) && ok Γ (fun _ => true) sc false e x
    | _ => false
  | .asgq i q, s => match s with
    | .Assign [.Name y py] (.ListComp x gs cs cp) _ => sto Γ.N (fun _ => true) sc i y && okQ Γ (fun _ => true) sc q (.ListComp x gs cs cp) && (match q with
      | .lc .. => true
      | .lcd .. => !swB sc y py cs cp
      | _ => false)
    | _ => false
  | .par is es, s => match s with
    | .Assign [.Tuple ts _ _] (.Tuple vs _ _) _ => okPar Γ sc is es ts vs || (okGs Γ.N (fun _ => true) sc (ctsOf is) ts && decide (is.length ≤ 15) && vs.all (foldedForSure 8) && okA Γ (fun _ => true) sc es vs)
    | _ => false
  | .sub o i e, s => match s with
    | .Assign [.Subscript x y _] v _ => notSlice y && notComp v && ok Γ (fun _ => true) sc false e v && ok Γ (fun _ => true) sc false o x && ok Γ (fun _ => true) sc false i y
    | _ => false
  | .aug i op e, s => match s with
    | .AugAssign (.Name x _) o v _ => sto Γ.N (fun _ => true) sc i x && decide (o = op.op) && (match op with
      | .add => true | .sub => true | .mul => true | .fdiv => true | .mod => true | .shl => true | _ => false) && ok Γ (fun _ => true) sc false e v
    | _ => false
  | .ret e, s => match s with
    | .Return (some x) _ => ok Γ (fun _ => true) sc false e x
    | _ => false
  | .retn, s => match s with
    | .Return none _ => true
    | _ => false
  | .ife c a b, s => match s with
    | .If t bs os _ => ok Γ (fun _ => true) sc true c t && okSs Γ sc a bs && okSs Γ sc b os
    | _ => false
  | .whl c b, s => match s with
    | .While t bs [] _ => ok Γ (fun _ => true) sc true c t && okSs Γ sc b bs
    | _ => false
  | .for_ tg it b, s => match s with
    | .For t i bs [] _ => okG Γ.N (fun _ => true) sc tg t && notSet i && okI Γ (fun _ => true) sc it i && okSs Γ sc b bs
    | _ => false
  | .brk, s => match s with
    | .Break _ => true
    | _ => false
  | .cnt, s => match s with
    | .Continue _ => true
    | _ => false
  | .pass, s => match s with
    | .Pass _ => true
    | _ => false
  | .never, _ => true
def okSs (Γ : Gm) (sc : Scope) : CSs → List Stmt → Bool
  | .nil, ss => match ss with
    | [] => true
    | _ => false
  | .cons s r, ss => match ss with
    | x :: xs => okS Γ sc s x && okSs Γ sc r xs
    | [] => false
end
theorem PS.imp {X : Cx} {e : Stmt} {t t' : TS} (h : PS X e t) (k : ∀ D σ H, t' D σ H → t D σ H) : PS X e t' := ⟨fun pins s σ H D I hw => h.run pins s σ H D I (k D σ H hw)⟩
theorem PSs.imp {X : Cx} {e : List Stmt} {t t' : TS} (h : PSs X e t) (k : ∀ D σ H, t' D σ H → t D σ H) : PSs X e t' := ⟨fun pins s σ H D I hw => h.run pins s σ H D I (k D σ H hw)⟩
end Ev
end
section
set_option linter.all false
set_option maxRecDepth 10000
/-! Ev13: a suite that the checker passes does what the core text tells. -/
namespace Ev
open PySem PySem.Spec PyProof.Rows L2
theorem setAll_len : ∀ {is : List Nat} {ts : List T} {τ τ' : Lo}, setAll is ts τ = some τ' → ts.length = is.length
  | [], [], _, _, _ => rfl
  | [], _ :: _, _, _, h => by simp [setAll] at h
  | _ :: _, [], _, _, h => by simp [setAll] at h
  | i :: is, t :: ts, τ, τ', h => by
    simp only [setAll] at h
    split at h
    · rw [List.length_cons, List.length_cons, setAll_len h]
    · cases h
theorem sto_ok {X : Cx} {N : List Str} {sc : Scope} {i : Nat} {x : Str} (hN : X.N = N) (hs : X.env.scope = sc) (hf : X.fn = fun _ => true) (h : sto N (fun _ => true) sc i x = true) :
    X.N[i]? = some x ∧ Loc X.env.scope x ∧ (X.fn x = true ∨ X.env.scope.names.lookup x = some .local) := by
  unfold sto at h
  simp only [Bool.and_eq_true, decide_eq_true_eq] at h
  obtain ⟨h1, h2⟩ := h
  refine ⟨by rw [hN]; exact h1, ?_, .inl (by rw [hf])⟩
  rw [hs]
  split at h2
  · rename_i e; exact .inl e
  · rename_i e; exact .inr e
  · cases h2
theorem ip_T {X : Cx} {fa : Ad} (op : BOp) (h : (match op with | .add => true | .sub => true | .mul => true | .fdiv => true | .mod => true | .shl => true | _ => false) = true) : PIp X op.op (rT (X.wo fa) (augop op)) := by
  intro pins s σ H x y v u Q I rx ry h'
  obtain ⟨ew, ι, m, t, w, S, rt, rw', hw⟩ := h'
  unfold augop at hw
  split at hw
  · rw [rep_int.mp rt] at rx; rw [rep_int.mp rw'] at ry
    cases op with
    | add => exact iop_add pins s σ H _ _ v u Q I rx ry ⟨_, _, rfl, rfl, hw.ret S _ (rep_int.mpr rfl)⟩
    | sub => exact iop_sub pins s σ H _ _ v u Q I rx ry ⟨_, _, rfl, rfl, hw.ret S _ (rep_int.mpr rfl)⟩
    | mul =>
      obtain ⟨hz, hw⟩ := hw.guard
      exact (opI (C := IntMulOk) fun _ _ _ _ _ _ _ hc q => PyProof.Rows.imul_int q hc) pins s σ H _ _ v u Q I rx ry ⟨_, _, rfl, rfl, mulOk_ok hz, hw.ret S _ (rep_int.mpr rfl)⟩
    | fdiv =>
      obtain ⟨hz, hw⟩ := hw.guard
      simp only [divOk, Bool.and_eq_true, decide_eq_true_eq] at hz
      exact iop_fdivW pins s σ H _ _ v u Q I rx ry ⟨_, _, rfl, rfl, hz, hw.ret S _ (rep_int.mpr rfl)⟩
    | mod =>
      obtain ⟨hz, hw⟩ := hw.guard
      exact iop_mod pins s σ H _ _ v u Q I rx ry ⟨_, _, rfl, rfl, of_decide_eq_true hz, hw.ret S _ (rep_int.mpr rfl)⟩
    | shl =>
      obtain ⟨hz, hw⟩ := hw.guard
      simp only [powOk, Bool.and_eq_true, decide_eq_true_eq] at hz
      exact iop_shl pins s σ H _ _ v u Q I rx ry ⟨_, _, rfl, rfl, ⟨hz.1.1, by omega, by omega⟩, hw.ret S _ (rep_int.mpr rfl)⟩
    | _ => cases h
  · exact hw.none.elim
theorem okG_ns {N : List Str} {fn : Str → Bool} {sc : Scope} {c : CT} {t : Expr} (h : okG N fn sc c t = true) (env : Env) : (assignEach [t] env).map (·.2) = [assign t env] := by
  cases c with
  | name i => unfold okG at h; split at h; · rfl
              · cases h
  | tup l => unfold okG at h; split at h; · rfl
             · cases h
theorem augop_ok {op : BOp} {x y : T} {m m2 : Mem} {w : Exn} (h : augop op x y m = some (.ex w, m2)) : False := by
  unfold augop at h
  split at h
  · cases op <;> simp only [binop, guard', ret] at h <;> (try split at h) <;> simp at h
  · cases h
mutual
theorem sndS : ∀ (c : CS) {Γ : Gm} {fa : Ad} {Φ : Fns} {Wx : WX} {sc : Scope} {X : Cx} (N : Nat) (s : Stmt), CtS Γ fa Φ Wx sc X → okS Γ sc c s = true → PS X s (sT (X.wo fa) Wx (evS Φ N c))
  | .ex e, Γ, fa, Φ, Wx, sc, X, N, s, C, h => by
    simp only [okS] at h
    split at h
    · rename_i x pos
      simp only [Bool.and_eq_true] at h
      refine PS.imp (ps_expr (snd e false x C.c h.2).pe (swaps_nc h.1 _ _ _)) fun D σ H hw => ?_
      obtain ⟨ι, m, τ, S, sl, hw⟩ := hw
      refine sT.bnd S sl hw fun x ι1 H1 m1 S1 x1 sl1 h1 v rv => ?_
      exact h1.nx S1 sl1
    · cases h
  | .asg tg e, Γ, fa, Φ, Wx, sc, X, N, s, C, h => by
    simp only [okS] at h
    split at h
    · rename_i t x pos
      simp only [Bool.and_eq_true] at h
      obtain ⟨⟨⟨h1, h2⟩, h3⟩, h4⟩ := h
      refine PS.imp (ps_asg (snd e false x C.c h4).pe (pg_ok (fa := fa) C.c.calm (by rw [C.c.N]; exact C.c.nd) tg t (by rw [C.c.N, C.c.fn, C.c.sc]; exact h1)) (sole_nc h2 _ _ _) (stores_nt h3 _) (okG_ns h1 _)) fun D σ H hw => ?_
      obtain ⟨ι, m, τ, S, sl, hw⟩ := hw
      refine sT.bnd S sl hw fun x ι1 H1 m1 S1 x1 sl1 h1 v rv => ?_
      split at h1
      · rename_i τ1 ht
        exact ⟨ι1, m1, x, τ, τ1, S1, rv, sl1, ht, fun σ' sl' _ => h1.nx S1 sl'⟩
      · exact h1.none.elim
    · cases h
  | .asgq i q, Γ, fa, Φ, Wx, sc, X, N, s, C, h => by
    simp only [okS] at h
    split at h
    · rename_i y py x gs cs cp pos
      simp only [Bool.and_eq_true] at h
      obtain ⟨⟨h1, h2⟩, h3⟩ := h
      obtain ⟨k1, k2, k3⟩ := sto_ok C.c.N C.c.sc C.c.fn h1
      have hnd : X.N.Nodup := by rw [C.c.N]; exact C.c.nd
      have key : ∀ D σ H, sT (X.wo fa) Wx (evS Φ N (.asgq i q)) D σ H → tAsg (lT (X.wo fa) Wx (evq Φ q)) (gName i) D σ H := by
        intro D σ H hw
        obtain ⟨ι, m, τ, S, sl, hw⟩ := hw
        refine sT.bnd S sl hw fun l ι1 H1 m1 S1 x1 sl1 h1 d vs hd rs => ?_
        obtain ⟨S2, x2⟩ := S1.new (o := .lst vs) (mo := .lst l) hd fun c => ⟨vs, upd_same, Reps.carry c _ _ rs⟩
        have r2 : Rep (X.wo fa) (ι1 ++ [d]) (upd H1 d (.lst vs)) (.ref m1.length) (.ref d) := rep_ref.mpr ⟨d, rfl, by rw [← S1.len, List.getElem?_append_right (Nat.le_refl _)]; simp⟩
        simp only [alloc, sbnd_ret, asgT] at h1
        by_cases hi : i < τ.length
        · simp only [hi, ↓reduceIte] at h1
          exact h1.nx' S2 x2 ((sl1.mono S1 x2).set i r2)
        · simp only [hi, ↓reduceIte] at h1
          exact h1.none.elim
      by_cases hsw : swapsWith (.ListComp x gs cs cp) (some (.Name y py)) pos.line X.env = pure false
      · exact PS.imp (ps_asg (sndQ q _ C.c h2) (pg_name hnd k1 k2 k3) hsw rfl) key
      · rw [swaps_lc C.fk] at hsw
        have hb : swB X.env.scope y py cs cp = true := by
          cases e : swB X.env.scope y py cs cp with
          | true => rfl
          | false => rw [e] at hsw; exact absurd rfl hsw
        have hl : X.env.scope.names.lookup y = some .local := by
          unfold swB at hb
          simp only [Bool.and_eq_true] at hb
          exact eq_of_beq hb.1.1
        split at h3
        · rename_i elt tg it ifs own
          simp only [okQ] at h2
          split at h2
          · rename_i x' t i' fs scope pos' heq
            cases heq
            simp only [Bool.and_eq_true, decide_eq_true_eq, List.all_eq_true] at h2
            obtain ⟨⟨⟨⟨⟨⟨⟨h1, h2⟩, h3⟩, h4⟩, h5⟩, h6⟩, h7⟩, h8⟩ := h2
            have ok : BlkOk X.N X.env.scope cs (ownOf Γ.N own) := by rw [C.c.N, C.c.sc]; exact blkOk_by h2
            refine PS.imp (ps_setLc (own := ownOf Γ.N own) (te := eT (X.wo fa) Wx0 (ev Φ elt)) (tt := bT (X.wo fa) Wx0 (evt Φ ifs)) (g := gT (X.wo fa) tg) (spos := pos) C.c.calm hnd k1 hl (by rw [swaps_lc C.fk, hb]) (sndI it t i' C.c h5) ok
              (fun s H c cl fp => pg_ok (fa := fa) (X := X.blk s H cs (compEnvC cs cl c X.env) fp) C.c.calm hnd tg t (by
                have C' := C.c.blk cs s H cl c fp
                rw [C'.N, C'.fn, C'.sc]; exact h6))
              (fun s H c cl fp => sndT ifs fs (C.c.blk cs s H cl c fp) h7) (fun s H c cl fp => (snd elt false x (C.c.blk cs s H cl c fp) h8).pe) (set_ns h1 _)) fun D σ H hw => ?_
            rw [h3]
            exact lc_of (fun j hj => by have := h4 j hj; simpa using this) (key D σ H hw)
          · cases h2
        · rw [C.c.sc] at hb
          simp [hb] at h3
        · cases h3
    · cases h
  | .par is es, Γ, fa, Φ, Wx, sc, X, N, s, C, h => by
    simp only [okS] at h
    have hnd : X.N.Nodup := by rw [C.c.N]; exact C.c.nd
    split at h
    · rename_i ts k1 p1 vs k2 p2 pos
      simp only [Bool.or_eq_true] at h
      rcases h with h | h
      · unfold okPar at h
        simp only [Bool.and_eq_true] at h
        obtain ⟨h1, h2⟩ := h
        unfold okPar2 at h1
        split at h1
        · rename_i i j x px y py a b
          simp only [Bool.and_eq_true, decide_eq_true_eq, Bool.not_eq_true'] at h1
          obtain ⟨⟨⟨⟨⟨⟨⟨⟨⟨⟨g1, g2⟩, g3⟩, g4⟩, g5⟩, g6⟩, g7⟩, g8⟩, g9⟩, g10⟩, g11⟩ := h1
          refine PS.imp (ps_par (i := i) (j := j) C.c.calm hnd (by rw [C.c.N]; exact g2) (by rw [C.c.N]; exact g3) g1 (by rw [C.c.sc]; exact g4) (by rw [C.c.sc]; exact g5) (sndA es [a, b] C.c h2)
            (stores_2 C.fk (by rw [C.c.sc]; exact g4) (by rw [C.c.sc]; exact g5) g6 g7 g8 g9 g10 g11)) fun D σ H hw => ?_
          obtain ⟨ι, m, τ, S, sl, hw⟩ := hw
          refine sT.bnd S sl hw fun l ι1 H1 m1 S1 x1 sl1 h1 vs rs => ?_
          split at h1
          · rename_i τ1 ht
            have hl := setAll_len ht
            obtain ⟨t1, t2, rfl⟩ : ∃ t1 t2, l = [t1, t2] := by
              match l, hl with
              | [t1, t2], _ => exact ⟨t1, t2, rfl⟩
            obtain ⟨v, w, rfl, r1, r2⟩ := rs.two'
            simp only [setAll] at ht
            split at ht
            · split at ht
              · cases ht
                exact ⟨v, w, rfl, h1.nx S1 ((sl1.set i r1).set j r2)⟩
              · cases ht
            · cases ht
          · exact h1.none.elim
        · cases h1
      · simp only [Bool.and_eq_true, decide_eq_true_eq] at h
        obtain ⟨⟨⟨h1, h15⟩, h2⟩, h3⟩ := h
        have hg : okG X.N X.fn X.env.scope (.tup (ctsOf is)) (.Tuple ts k1 p1) = true := by
          rw [C.c.N, C.c.fn, C.c.sc]
          simpa only [okG] using h1
        refine PS.imp (ps_asg (pe_tup (sndA es vs C.c h3)) (pg_ok (fa := fa) C.c.calm hnd (.tup (ctsOf is)) (.Tuple ts k1 p1) hg) (sole_nc rfl _ _ _) (stores_fold h2)) fun D σ H hw => ?_
        obtain ⟨ι, m, τ, S, sl, hw⟩ := hw
        refine sT.bnd S sl hw fun l ι1 H1 m1 S1 x1 sl1 h1 ws rs => ?_
        split at h1
        · rename_i τ1 ht
          refine ⟨by rw [← rs.length, setAll_len ht, sizeLine_eq]; omega, fun p hp => ?_⟩
          obtain ⟨S2, x2⟩ := S1.out (o := .tup ws) hp
          exact ⟨ι1, m1, .tup l, τ, τ1, S2, rep_tup.mpr ⟨p, ws, rfl, .of upd_same, Reps.mono S1 x2 rs⟩, sl1.mono S1 x2, by simp only [asgT]; rw [setAll_cts]; exact ht, fun σ' sl' _ => h1.nx' S2 x2 sl'⟩
        · exact h1.none.elim
    · cases h
  | .sub o i e, Γ, fa, Φ, Wx, sc, X, N, s, C, h => by
    simp only [okS] at h
    split at h
    · rename_i x y p1 v pos
      simp only [Bool.and_eq_true] at h
      obtain ⟨⟨⟨⟨h1, h2⟩, h3⟩, h4⟩, h5⟩ := h
      refine PS.imp (ps_asg (snd e false v C.c h3).pe (pg_sub (snd o false x C.c h4).pe (snd i false y C.c h5).pe (set_T (fa := fa) C.c.hu) (fun v => by cases y <;> first | rfl | cases h1)) (sole_nc h2 _ _ _) (stores_nt rfl _)) fun D σ H hw => ?_
      · obtain ⟨ι, m, τ, S, sl, hw⟩ := hw
        refine sT.bnd S sl hw fun tv ι1 H1 m1 S1 x1 sl1 h1 v rv => ?_
        refine sT.bnd S1 sl1 h1 fun to ι2 H2 m2 S2 x2 sl2 h2 ov ro => ?_
        refine sT.bnd S2 sl2 h2 fun ti ι3 H3 m3 S3 x3 sl3 h3 iv ri => ?_
        split at h3
        · rename_i m4 e4
          exact ⟨ι3, m3, to, ti, tv, m4, S3, Rep.mono S2 x3 ro, ri, Rep.mono S2 x3 (Rep.mono S1 x2 rv), e4, fun H' S' x' => h3.nx' S' x' (sl3.mono S3 x')⟩
        · exact h3.none.elim
    · cases h
  | .aug i op e, Γ, fa, Φ, Wx, sc, X, N, s, C, h => by
    simp only [okS] at h
    split at h
    · rename_i x p1 o v pos
      simp only [Bool.and_eq_true, decide_eq_true_eq] at h
      obtain ⟨⟨⟨h1, rfl⟩, h3⟩, h4⟩ := h
      obtain ⟨k1, k2, k3⟩ := sto_ok C.c.N C.c.sc C.c.fn h1
      refine PS.imp (ps_aug (by rw [C.c.N]; exact C.c.nd) k1 k2 (snd e false v C.c h4).pe (ip_T (fa := fa) op h3) k3) fun D σ H hw => ?_
      obtain ⟨ι, m, τ, S, sl, hw⟩ := hw
      simp only [evS] at hw
      split at hw
      · rename_i tx ht
        obtain ⟨w, e1, rw1⟩ := sl.get _ _ ht
        refine ⟨w, e1, ?_⟩
        refine sT.bnd S sl hw fun ty ι1 H1 m1 S1 x1 sl1 h1 v rv => ?_
        obtain ⟨oo, mE, ee, q⟩ := h1
        cases hr : augop op tx ty m1 with
        | none => rw [hr] at ee; cases ee
        | some z =>
          obtain ⟨z1, z2⟩ := z
          rw [hr] at ee
          cases z1 with
          | ex w => exact (augop_ok hr).elim
          | ok tz =>
            rw [sbnd_ok] at ee
            cases ee
            refine ⟨ewx (X.wo fa) fun _ _ _ => True, ι1, m1, tx, ty, S1, Rep.mono S x1 rw1, rv, ?_⟩
            rw [hr]
            exact Wt.one fun ι' H' x' S' v' rv' => q ι' H' x' S' _ ((sl1.mono S1 x').set i rv')
      · exact hw.none.elim
    · cases h
  | .ret e, Γ, fa, Φ, Wx, sc, X, N, s, C, h => by
    simp only [okS] at h
    split at h
    · rename_i x pos
      refine PS.imp (ps_ret (snd e false x C.c h).pe) fun D σ H hw => ?_
      obtain ⟨ι, m, τ, S, sl, hw⟩ := hw
      refine sT.bnd S sl hw fun x ι1 H1 m1 S1 x1 sl1 h1 v rv => ?_
      obtain ⟨o, mE, e, q⟩ := h1
      cases e
      exact q ι1 H1 (.refl _ _) S1 v rv
    · cases h
  | .retn, Γ, fa, Φ, Wx, sc, X, N, s, C, h => by
    simp only [okS] at h
    split at h
    · refine PS.imp ps_retN fun D σ H hw => ?_
      obtain ⟨ι, m, τ, S, sl, hw⟩ := hw
      obtain ⟨o, mE, e, q⟩ := hw
      cases e
      exact q ι H (.refl _ _) S .non (rep_non.mpr rfl)
    · cases h
  | .ife c a b, Γ, fa, Φ, Wx, sc, X, N, s, C, h => by
    simp only [okS] at h
    split at h
    · rename_i t bs os pos
      simp only [Bool.and_eq_true] at h
      refine PS.imp (ps_if (snd c true t C.c h.1.1).pt (sndSs a N bs C h.1.2) (sndSs b N os C h.2)) fun D σ H hw => ?_
      obtain ⟨ι, m, τ, S, sl, hw⟩ := hw
      refine sT.bnd S sl hw fun x ι1 H1 m1 S1 x1 sl1 h1 v rv => ?_
      obtain ⟨k, rfl, h1⟩ := sbnd_truth h1
      refine ⟨k, rep_bl.mp rv, ?_⟩
      cases k with
      | true => simp only [↓reduceIte] at h1 ⊢; exact ⟨ι1, m1, τ, S1, sl1, h1⟩
      | false => simp only [Bool.false_eq_true, ↓reduceIte] at h1 ⊢; exact ⟨ι1, m1, τ, S1, sl1, h1⟩
    · cases h
  | .whl c b, Γ, fa, Φ, Wx, sc, X, N, s, C, h => by
    simp only [okS] at h
    split at h
    · rename_i t bs pos
      simp only [Bool.and_eq_true] at h
      refine PS.imp (ps_while C.own (snd c true t C.c h.1).pt (sndSs b N bs C h.2)) fun D σ H hw => ?_
      obtain ⟨ι, m, τ, S, sl, hw⟩ := hw
      refine ⟨fun k σ H => ∃ ι m τ, Sim (X.wo fa) ι m H ∧ SlOk (X.wo fa) ι H τ σ ∧ Wts (X.wo fa) Wx D ι H (whileLoop (fun τ m => bnd (ev Φ c τ m) fun x m1 => truth x m1) (fun τ m => evSs Φ N b τ m) k τ m), ⟨N, ι, m, τ, S, sl, hw⟩, ?_⟩
      rintro k σ H ⟨ι, m, τ, S, sl, hw⟩
      cases k with
      | zero => exact hw.none.elim
      | succ n =>
        refine bT_of ?_
        refine sT.bnd S sl hw fun x ι1 H1 m1 S1 x1 sl1 h1 => ?_
        cases x with
        | false =>
          simp only [Bool.false_eq_true, ↓reduceIte] at h1
          simp only [qB, Bool.false_eq_true, ↓reduceIte]
          exact h1.nx S1 sl1
        | true =>
          simp only [↓reduceIte] at h1
          simp only [qB, ↓reduceIte]
          refine ⟨fun σ' H' => ∃ ι m τ, Sim (X.wo fa) ι m H' ∧ SlOk (X.wo fa) ι H' τ σ' ∧ Wts (X.wo fa) Wx D ι H' (whileLoop (fun τ m => bnd (ev Φ c τ m) fun x m1 => truth x m1) (fun τ m => evSs Φ N b τ m) n τ m), fun σ' H' h => ⟨n, Nat.lt_succ_self n, h⟩, ι1, m1, τ, S1, sl1, ?_⟩
          obtain ⟨o, mE, e, q⟩ := h1
          cases hr : evSs Φ N b τ m1 with
          | none => rw [hr] at e; cases e
          | some z =>
            obtain ⟨z1, z2⟩ := z
            rw [hr] at e
            refine ⟨z1, z2, rfl, fun ι' H' x' S' => ?_⟩
            cases z1 with
            | nx τ2 => exact fun σ' sl' => ⟨ι', z2, τ2, S', sl', o, mE, e, fun ι2 H2 y2 S2 => q ι2 H2 (x'.trans y2) S2⟩
            | cnt τ2 => exact fun σ' sl' => ⟨ι', z2, τ2, S', sl', o, mE, e, fun ι2 H2 y2 S2 => q ι2 H2 (x'.trans y2) S2⟩
            | brk τ2 => cases e; exact fun σ' sl' => q ι' H' x' S' σ' sl'
            | ret t => cases e; exact q ι' H' x' S'
            | ex ee τ2 => cases e; exact q ι' H' x' S'
    · cases h
  | .for_ tg it b, Γ, fa, Φ, Wx, sc, X, N, s, C, h => by
    simp only [okS] at h
    split at h
    · rename_i t i bs pos
      simp only [Bool.and_eq_true] at h
      obtain ⟨⟨⟨h1, h2⟩, h3⟩, h4⟩ := h
      refine PS.imp (ps_for C.own C.c.calm (sndI it t i C.c h3) (pg_ok (fa := fa) C.c.calm (by rw [C.c.N]; exact C.c.nd) tg t (by rw [C.c.N, C.c.fn, C.c.sc]; exact h1)) (sndSs b N bs C h4) (set_ns h2 _)) fun D σ H hw => ?_
      obtain ⟨ι, m, τ, S, sl, hw⟩ := hw
      refine sT.bnd S sl hw fun p ι1 H1 m1 S1 x1 sl1 hf J wl => ?_
      obtain ⟨l, st⟩ := p
      refine ⟨fun i k σ H => k = l.length - i ∧ i ≤ l.length ∧ ∃ ι m τ, Sim (X.wo fa) ι m H ∧ Ext ι1 H1 ι H ∧ SlOk (X.wo fa) ι H τ σ ∧ Wts (X.wo fa) Wx D ι H (forLoop (fun τ m => evSs Φ N b τ m) tg st (l.drop i) τ m),
        ⟨l.length, by simp, Nat.zero_le _, ι1, m1, τ, S1, .refl _ _, sl1, by simpa using hf⟩, ?_⟩
      rintro i k σ H ⟨rfl, hi, ι, m, τ, S, x, sl, hw⟩
      by_cases hlt : i < l.length
      · have hdrop : l.drop i = l[i] :: l.drop (i + 1) := List.drop_eq_getElem_cons hlt
        rw [hdrop] at hw
        unfold forLoop at hw
        split at hw
        · rename_i hst
          obtain ⟨go, yl⟩ := (wl i ι m H x S hst).1 l[i] (List.getElem?_eq_getElem hlt)
          split at hw
          · exact hw.none.elim
          · rename_i τ1 ht
            refine .inr ⟨go, fun σ' H' => ∃ ι m τ, Sim (X.wo fa) ι m H' ∧ Ext ι1 H1 ι H' ∧ SlOk (X.wo fa) ι H' τ σ' ∧ Wts (X.wo fa) Wx D ι H' (forLoop (fun τ m => evSs Φ N b τ m) tg st (l.drop (i + 1)) τ m), fun σ' H' h => ⟨l.length - (i + 1), by omega, rfl, hlt, h⟩, fun v H2 hy => ?_⟩
            obtain ⟨S2, x2, r2⟩ := yl v H2 hy
            refine ⟨ι, m, l[i], τ, τ1, S2, r2, sl.mono S x2, ht, fun σ3 sl3 _ => ⟨ι, m, τ1, S2, sl3, ?_⟩⟩
            have hw2 := hw.later x2
            obtain ⟨o, mE, e, q⟩ := hw2
            cases hr : evSs Φ N b τ1 m with
            | none => rw [hr] at e; cases e
            | some z =>
              obtain ⟨z1, z2⟩ := z
              rw [hr] at e
              refine ⟨z1, z2, rfl, fun ι' H' x' S' => ?_⟩
              cases z1 with
              | nx τ2 => exact fun σ' sl' => ⟨ι', z2, τ2, S', x.trans (x2.trans x'), sl', o, mE, e, fun ι2 H2 y2 S2 => q ι2 H2 (x'.trans y2) S2⟩
              | cnt τ2 => exact fun σ' sl' => ⟨ι', z2, τ2, S', x.trans (x2.trans x'), sl', o, mE, e, fun ι2 H2 y2 S2 => q ι2 H2 (x'.trans y2) S2⟩
              | brk τ2 => cases e; exact fun σ' sl' => q ι' H' x' S' σ' sl'
              | ret t => cases e; exact q ι' H' x' S'
              | ex ee τ2 => cases e; exact q ι' H' x' S'
        · exact hw.none.elim
      · have hi2 : i = l.length := by omega
        subst hi2
        rw [List.drop_length] at hw
        unfold forLoop at hw
        split at hw
        · rename_i hst
          exact .inl ⟨(wl l.length ι m H x S hst).2 (Nat.le_refl _), hw.nx S sl⟩
        · exact hw.none.elim
    · cases h
  | .brk, Γ, fa, Φ, Wx, sc, X, N, s, C, h => by
    simp only [okS] at h
    split at h
    · refine PS.imp ps_break fun D σ H hw => ?_
      obtain ⟨ι, m, τ, S, sl, hw⟩ := hw
      obtain ⟨o, mE, e, q⟩ := hw
      cases e
      exact q ι H (.refl _ _) S σ sl
    · cases h
  | .cnt, Γ, fa, Φ, Wx, sc, X, N, s, C, h => by
    simp only [okS] at h
    split at h
    · refine PS.imp ps_continue fun D σ H hw => ?_
      obtain ⟨ι, m, τ, S, sl, hw⟩ := hw
      obtain ⟨o, mE, e, q⟩ := hw
      cases e
      exact q ι H (.refl _ _) S σ sl
    · cases h
  | .pass, Γ, fa, Φ, Wx, sc, X, N, s, C, h => by
    simp only [okS] at h
    split at h
    · refine PS.imp ps_pass fun D σ H hw => ?_
      obtain ⟨ι, m, τ, S, sl, hw⟩ := hw
      exact hw.nx S sl
    · cases h
  | .never, Γ, fa, Φ, Wx, sc, X, N, s, C, h => PS.imp ps_never fun D σ H ⟨ι, m, τ, S, sl, hw⟩ => hw.none
theorem sndSs : ∀ (c : CSs) {Γ : Gm} {fa : Ad} {Φ : Fns} {Wx : WX} {sc : Scope} {X : Cx} (N : Nat) (ss : List Stmt), CtS Γ fa Φ Wx sc X → okSs Γ sc c ss = true → PSs X ss (sT (X.wo fa) Wx (evSs Φ N c))
  | .nil, Γ, fa, Φ, Wx, sc, X, N, ss, C, h => by
    simp only [okSs] at h
    split at h
    · exact PSs.imp pss_nil fun D σ H ⟨ι, m, τ, S, sl, hw⟩ => hw.nx S sl
    · cases h
  | .cons s r, Γ, fa, Φ, Wx, sc, X, N, ss, C, h => by
    simp only [okSs] at h
    split at h
    · rename_i x xs
      simp only [Bool.and_eq_true] at h
      refine PSs.imp (pss_cons (sndS s N x C h.1) (sndSs r N xs C h.2)) fun D σ H hw => ?_
      obtain ⟨ι, m, τ, S, sl, hw⟩ := hw
      refine ⟨ι, m, τ, S, sl, ?_⟩
      obtain ⟨o, mE, e, q⟩ := hw
      simp only [evSs] at e
      cases hr : evS Φ N s τ m with
      | none => rw [hr] at e; cases e
      | some z =>
        obtain ⟨z1, z2⟩ := z
        rw [hr] at e
        refine ⟨z1, z2, rfl, fun ι' H' x' S' => ?_⟩
        cases z1 with
        | nx τ2 => exact fun σ' sl' => ⟨ι', z2, τ2, S', sl', o, mE, e, fun ι2 H2 y2 S2 => q ι2 H2 (x'.trans y2) S2⟩
        | cnt τ2 => cases e; exact q ι' H' x' S'
        | brk τ2 => cases e; exact q ι' H' x' S'
        | ret t => cases e; exact q ι' H' x' S'
        | ex ee τ2 => cases e; exact q ι' H' x' S'
    · cases h
end
end Ev
end
section
set_option linter.all false
set_option maxRecDepth 10000
/-! Ev14: all defs keep their promises; a law's end. -/
namespace Ev
open PySem PySem.Spec PyProof.Rows L2
/-- what the first n defs do -/
def Phi (ds : List CD) (N : Nat) : Nat → Fns
  | 0 => fun _ _ _ => none
  | n + 1 => fun k ts m => if k < n then Phi ds N n k ts m else if k = n then match ds[n]? with
    | some d => runD (Phi ds N n) N d ts m
    | none => none
    else none
theorem Phi_lt {ds : List CD} {N n k : Nat} (h : k < n) : Phi ds N (n + 1) k = Phi ds N n k := by
  funext ts m
  show (if k < n then _ else _) = _
  rw [if_pos h]
theorem Phi_self {ds : List CD} {N n : Nat} {d : CD} (h : ds[n]? = some d) (ts : List T) (m : Mem) : Phi ds N (n + 1) n ts m = runD (Phi ds N n) N d ts m := by
  show (if n < n then _ else _) = _
  rw [if_neg (Nat.lt_irrefl n), if_pos rfl, h]
theorem Phi_ge {ds : List CD} {N : Nat} : ∀ {n k : Nat} (h : n ≤ k) (ts : List T) (m : Mem), Phi ds N n k ts m = none
  | 0, _, _, _, _ => rfl
  | n + 1, k, h, ts, m => by
    show (if k < n then _ else if k = n then _ else none) = none
    rw [if_neg (by omega), if_neg (by omega)]
/-- a def by its body, behind a call in a place without guards -/
theorem fn_ofG {P : Program} {w : World} {K : PySem.W.Frag} {mg : Str → Option Value} {base : Heap} {k : Nat} {f : Addr} {name qual : Str} {params : Arguments} {body : List Stmt} {scope : Scope} {dV kV doc pm cdv ct oc : Value} {an od : Option Addr}
    {osl : Array (Option Value)} {N ps : List Str} {sp : Sp} (lk : K.lookup f = some ⟨oc, od, .func (PySem.W.fnOf name qual params body scope dV kV doc pm an cdv ct), osl⟩) (hcd : PySem.W.codeIn K cdv qual = true) (S : FnScope N ps scope)
    (bnd : ∀ (s : Shared) (us : List Value), K.In s.heap → us.length = ps.length → BindsTo s (PySem.W.fnOf name qual params body scope dV kV doc pm an cdv ct) ⟨us, []⟩ (ps.zip us))
    (len : ∀ vs H Q E, sp vs H Q E → vs.length = ps.length)
    (hbody : ∀ (A : Around) (outer : List Env) (s : Shared) (H : Hp) (vs : List V) (Q : VK) (E : XK), Room k (A.deeper (envOfC qual scope s.heap.objs.size f cdv)) → A.guards = some [] → sp vs H Q E →
      ∃ t, PSs (cxOf (L2.CX P w) P w K mg base N qual scope f cdv A outer s H E) body t ∧ t { nx := fun _ H' => Q .non H', rt := Q } (start N vs) H) : FnG P w K mg base (k + 1) f sp := by
  intro A outer s H us vs Q E room hgd e0 rv want
  have hlen : vs.length = ps.length := len _ _ _ _ want
  have inK : K.In s.heap := e0.mod.kin.keeps fun b o e => (e0.bs b o e).1
  have places : ∀ y ∈ ps.zip us, scope.names.lookup y.1 = some .local ∨ (scope.names.lookup y.1 = some .cell ∧ ((cellsFrom (s.heap.objs.size + 1) scope.names []).lookup y.1).isSome = true) := by
    rintro ⟨n, v⟩ hy
    exact (S.par n (List.of_mem_zip hy).1).imp id fun q => ⟨q, PySem.W.cellsFrom_some _ _ _ (.inl q)⟩
  refine codeAny_call_function room.depth (inK _ _ lk) rfl S.co S.gen rfl (PySem.W.codeRec_of inK hcd) (bnd s us inK (by rw [← rv.length]; exact hlen) _ _ _ _ ?_)
  refine wpAny_newFunctionEnv_cells S.kind places fun env he s1 entry => ?_
  subst he
  refine ⟨(e0.mod.nolimit.keeps fun b o e => (e0.bs b o e).1).keeps entry.toInCall.keep, codeAny_func ?_⟩
  obtain ⟨t, ht, hq⟩ := hbody A outer s H vs Q E (room.deeper _) hgd want
  refine wpAny_mono (ht.run [] s1 (start N vs) H _ (inv_start S room.hd e0 hlen rv entry) hq) (fun fl s' hs => ?_) fun e s' hs => hs
  cases fl with
  | ret u => exact let ⟨v, _, H', J, rv', q⟩ := hs; ⟨v, H', J.os, J.bare, J.base, J.hok, rv', q⟩
  | next => exact let ⟨_, H', J, q⟩ := hs; ⟨.non, H', J.os, J.bare, J.base, J.hok, rfl, q⟩
  | brk => exact (let ⟨_, _, _, q⟩ := hs; q : False).elim
  | cont => exact (let ⟨_, _, _, q⟩ := hs; q : False).elim

/-! ### the defs of a law -/
/-- a def as the row has it, its names, its parameters, its core text -/
structure Df where
  d : He.DefD
  N : List Str
  ps : List Str
  c : CD
/-- what is known of a module: constants, names of defs -/
structure Md where
  cs : List (Str × T)
  fs : List Str
  gcd : Bool
def Md.gm (M : Md) (N : List Str) (k : Nat) : Gm := ⟨N, M.cs ++ (M.fs.take k).zipIdx.map (fun p => (p.1, T.fn p.2)), M.fs, k, M.gcd⟩
def Df.ok (M : Md) (k : Nat) (D : Df) : Bool :=
  C8.scC D.N D.ps D.d.scope && decide (D.ps.length = D.c.np) && decide (D.N.length = D.c.nn) && okSs (M.gm D.N k) D.d.scope D.c.body D.d.body
/-- what the module's objects say -/
structure Mk (M : Md) (K : PySem.W.Frag) (mg : Str → Option Value) (fa : Ad) : Prop where
  cs : ∀ x t, (x, t) ∈ M.cs → ∃ v u, mg x = some u ∧ RelV v u ∧ ∀ P w ι H, Rep ⟨P, w, K, fa⟩ ι H t v
  fs : ∀ k x, M.fs[k]? = some x → mg x = some (.ref (fa.fa k))
  keep : ∀ k, PySem.W.keepIn K (.ref (fa.fa k)) = true
  blt : ∀ x ∈ bnames, mg x = none
  gcd : M.gcd = true → mg "gcd" = some (.builtin "math.gcd")
/-- how a def's arguments bind -/
def DBind (D : Df) : Prop := ∀ (kV doc pm : Value) (an : Option Addr) (cdv ct : Value) (us : List Value), us.length = D.ps.length → bindArgs (PySem.W.fnOf D.d.name D.d.qual D.d.params D.d.body D.d.scope .none kV doc pm an cdv ct) ⟨us, []⟩ = pure (D.ps.zip us)
section
variable {P : Program} {w : World} {K : PySem.W.Frag} {mg : Str → Option Value} {base : Heap} {M : Md} {fa : Ad}
theorem start_ok {W : Wo} {ι : List Addr} {H : Hp} {ts : List T} {vs : List V} {N : List Str} {D : Df} (r : Reps W ι H ts vs) (h1 : ts.length = D.c.np) (h2 : N.length = D.c.nn) :
    SlOk W ι H (ts.map some ++ List.replicate (D.c.nn - D.c.np) none) (start N vs) := SlOk.start r _ _ (by rw [← r.length, h1, h2])
theorem one_def {fds : List CD} {n Nf : Nat} {D : Df} {dv : Value} {fd : FuncData} (mk : Mk M K mg fa) (F : FunD K D.d.name D.d.qual D.d.params D.d.body D.d.scope [] [] (fa.fa n) fd) (b : DBind D) (h : D.ok M n = true) (hd : fds[n]? = some D.c)
    (ih : ∀ k, k < n → FnG P w K mg base n (fa.fa k) (spT ⟨P, w, K, fa⟩ (Phi fds Nf n k))) :
    FnG P w K mg base (n + 1) (fa.fa n) (spT ⟨P, w, K, fa⟩ (Phi fds Nf (n + 1) n)) := by
  unfold Df.ok at h
  simp only [Bool.and_eq_true, decide_eq_true_eq] at h
  obtain ⟨⟨⟨h1, h2⟩, h3⟩, h4⟩ := h
  have S := C8.fnScope_by h1
  obtain ⟨oc, od, dV, kV, doc, pm, an, cdv, ct, osl, rfl, lk, hcd, hdv, _⟩ := F.ex
  have hdV : dV = .none := by
    rcases hdv with ⟨_, e⟩ | ⟨e, _⟩
    · exact e
    · exact absurd rfl e
  subst hdV
  refine fn_ofG (k := n) lk hcd S (fun s us _ hl => .of_eq (b kV doc pm an cdv ct us hl)) (fun vs H Q E hs => ?_) fun A outer s H vs Q E hr hgd hs => ?_
  · obtain ⟨ι, m, ts, _, rs, hw⟩ := hs
    rw [Phi_self hd] at hw
    unfold runD at hw
    split at hw
    · rename_i hl
      rw [← rs.length, hl, h2]
    · exact hw.none.elim
  · obtain ⟨ι, m, ts, Si, rs, hw⟩ := hs
    rw [Phi_self hd] at hw
    unfold runD at hw
    split at hw
    · rename_i hl
      let X := cxOf (L2.CX P w) P w K mg base D.N D.d.qual D.d.scope (fa.fa n) cdv A outer s H E
      have C : CtS (M.gm D.N n) fa (Phi fds Nf n) (fun c d _ H => E c d H) D.d.scope X := by
        refine ⟨⟨rfl, S.nd, rfl, rfl, rfl, hgd, fun x t hx => ?_, mk.blt, mk.gcd, fun k x _ hx => mk.fs k x hx, mk.keep, ih, fun k ts m hk => Phi_ge hk ts m, hr, fun σ => ?_⟩, passes_of (X := X) (K := fun e s'' => L2.CX P w outer H s E e s'') (E₁ := fun e s'' => L2.CX P w outer H s E e s'') rfl, S.kind⟩
        · rcases List.mem_append.mp hx with hx | hx
          · obtain ⟨v, u, g1, g2, g3⟩ := mk.cs x t hx
            exact ⟨v, u, g1, g2, g3 P w⟩
          · obtain ⟨⟨y, j⟩, hj, e⟩ := List.mem_map.mp hx
            cases e
            have hj' := List.mem_zipIdx_iff_getElem?.mp hj
            simp only at hj'
            rw [List.getElem?_take] at hj'
            split at hj'
            · exact ⟨.ref (fa.fa j), .ref (fa.fa j), mk.fs j _ hj', rfl, fun ι H => by simp only [Rep]⟩
            · cases hj'
        · exact passAt (takes_of (X := X) (E := E) rfl rfl rfl rfl) σ
      refine ⟨_, sndSs D.c.body Nf D.d.body C h4, ι, m, _, Si, start_ok (D := D) (N := D.N) rs hl h3, ?_⟩
      obtain ⟨r, mE, e, q⟩ := hw
      cases hr : evSs (Phi fds Nf n) Nf D.c.body (ts.map some ++ List.replicate (D.c.nn - D.c.np) none) m with
      | none => rw [hr] at e; cases e
      | some z =>
        obtain ⟨z1, z2⟩ := z
        rw [hr] at e
        refine ⟨z1, z2, rfl, fun ι' H' x' S' => ?_⟩
        cases z1 with
        | nx τ2 => cases e; exact fun σ' _ => q ι' H' x' S' .non (rep_non.mpr rfl)
        | ret t => cases e; exact q ι' H' x' S'
        | brk τ2 => cases e
        | cnt τ2 => cases e
        | ex ee τ2 => cases e; exact fun σ' _ => q ι' H' x' S'
    · exact hw.none.elim
end
end Ev
end
section
set_option linter.all false
set_option maxRecDepth 10000
/-! Ev15: the module's objects, the Hook, a law's end. -/
namespace Ev
open PySem PySem.Spec PyProof.Rows L2
/-! ### constants of the module -/
mutual
def repB (K : PySem.W.Frag) (fa : Nat → Addr) : T → Value → Bool
  | .int i, .int j _ => decide (i = j)
  | .str a, .str b _ => decide (a = b)
  | .bl a, .bool b => a == b
  | .non, .none => true
  | .fn k, .ref a => decide (a = fa k)
  | .tup l, .ref a => match K.lookup a with
    | some ⟨.type c, _, .seq its _, _⟩ => decide (c = "tuple") && decide (its.size ≤ sizeLine) && repsB K fa l its.toList
    | _ => false
  | _, _ => false
def repsB (K : PySem.W.Frag) (fa : Nat → Addr) : List T → List Value → Bool
  | [], [] => true
  | t :: ts, u :: us => repB K fa t u && repsB K fa ts us
  | _, _ => false
end
mutual
theorem repB_ok {K : PySem.W.Frag} {ad : Ad} : ∀ (t : T) (u : Value), repB K ad.fa t u = true → ∃ v, RelV v u ∧ ∀ P w ι H, Rep ⟨P, w, K, ad⟩ ι H t v
  | .int i, u, h => by
    cases u <;> try (simp [repB] at h; done)
    simp only [repB, decide_eq_true_eq] at h
    subst h
    exact ⟨.int _, ⟨_, rfl⟩, fun P w ι H => rep_int.mpr rfl⟩
  | .str i, u, h => by
    cases u <;> try (simp [repB] at h; done)
    simp only [repB, decide_eq_true_eq] at h
    subst h
    exact ⟨.str _, ⟨_, rfl⟩, fun P w ι H => rep_str.mpr rfl⟩
  | .bl i, u, h => by
    cases u <;> simp [repB] at h
    subst h
    exact ⟨.bl _, rfl, fun P w ι H => rep_bl.mpr rfl⟩
  | .non, u, h => by
    cases u <;> simp [repB] at h
    exact ⟨.non, rfl, fun P w ι H => rep_non.mpr rfl⟩
  | .fn k, u, h => by
    cases u <;> simp [repB] at h
    subst h
    exact ⟨.ref _, rfl, fun P w ι H => by simp only [Rep]⟩
  | .tup l, u, h => by
    cases u <;> try (simp [repB] at h; done)
    rename_i a
    unfold repB at h
    split at h
    · rename_i c dd its n sl e
      simp only [Bool.and_eq_true, decide_eq_true_eq] at h
      obtain ⟨⟨rfl, h1⟩, h2⟩ := h
      obtain ⟨vs, g1, g2⟩ := repsB_ok l its.toList h2
      exact ⟨.ref a, rfl, fun P w ι H => rep_tup.mpr ⟨a, vs, rfl, .inr ⟨_, its, n, e, rfl, rfl, h1, g1⟩, g2 P w ι H⟩⟩
    · cases h
  | .lst _, u, h => by cases u <;> simp [repB] at h
  | .ref _, u, h => by cases u <;> simp [repB] at h
  | .rep _, u, h => by cases u <;> simp [repB] at h
  | .ro _, u, h => by cases u <;> simp [repB] at h
theorem repsB_ok {K : PySem.W.Frag} {ad : Ad} : ∀ (ts : List T) (us : List Value), repsB K ad.fa ts us = true → ∃ vs, Vals vs us ∧ ∀ P w ι H, Reps ⟨P, w, K, ad⟩ ι H ts vs
  | [], us, h => by
    cases us with
    | nil => exact ⟨[], .nil, fun P w ι H => Reps.nil⟩
    | cons u us => simp [repsB] at h
  | t :: ts, us, h => by
    cases us with
    | nil => simp [repsB] at h
    | cons u us =>
      simp only [repsB, Bool.and_eq_true] at h
      obtain ⟨v, g1, g2⟩ := repB_ok t u h.1
      obtain ⟨vs, g3, g4⟩ := repsB_ok ts us h.2
      exact ⟨v :: vs, .cons g1 g3, fun P w ι H => Reps.cons (g2 P w ι H) (g4 P w ι H)⟩
end
/-- the defs' addresses -/
def adOf (K : PySem.W.Frag) (fs : List Str) : Ad := ⟨fun k => He.ga K (fs.getD k (fs.headD Str.empty)), fun _ => .none⟩
/-- the look at the module -/
def mdB (M : Md) (K : PySem.W.Frag) : Bool :=
  (M.cs.all fun p => match PySem.W.nsIn K mainGlobals p.1 with
    | some (some u) => repB K (adOf K M.fs).fa p.2 u
    | _ => false) &&
  (M.fs.all fun x => He.eqO (PySem.W.nsIn K mainGlobals x) (some (some (.ref (He.ga K x)))) && PySem.W.keepIn K (.ref (He.ga K x))) &&
  (bnames.all fun x => He.eqO (PySem.W.nsIn K mainGlobals x) (some none)) &&
  (!M.gcd || He.eqO (PySem.W.nsIn K mainGlobals "gcd") (some (some (.builtin "math.gcd"))))
theorem mdB_ok {M : Md} {K : PySem.W.Frag} {h : Heap} {mg : Str → Option Value} (X : K.In h) (G : h.Ns mainGlobals mg) (hM : M.fs ≠ []) (c : mdB M K = true) : Mk M K mg (adOf K M.fs) := by
  unfold mdB at c
  simp only [Bool.and_eq_true, List.all_eq_true] at c
  obtain ⟨⟨⟨c1, c2⟩, c3⟩, c4⟩ := c
  refine ⟨fun x t hx => ?_, fun k x hx => ?_, fun k => ?_, fun x hx => ?_, fun hg => ?_⟩
  · have := c1 _ hx
    split at this
    · rename_i u hu
      obtain ⟨v, g1, g2⟩ := repB_ok (ad := adOf K M.fs) t u this
      exact ⟨v, u, PySem.W.mg_of X G hu, g1, g2⟩
    · cases this
  · have := (c2 x (List.mem_of_getElem? hx)).1
    have e : (adOf K M.fs).fa k = He.ga K x := by
      show He.ga K (M.fs.getD k _) = _
      rw [List.getD_eq_getElem?_getD, hx]; rfl
    rw [e]
    exact PySem.W.mg_of X G (He.eqO_ok this)
  · show PySem.W.keepIn K (.ref (He.ga K (M.fs.getD k (M.fs.headD Str.empty)))) = true
    rw [List.getD_eq_getElem?_getD]
    cases hk : M.fs[k]? with
    | some x => exact (c2 x (List.mem_of_getElem? hk)).2
    | none =>
      cases hf : M.fs with
      | nil => exact absurd hf hM
      | cons a r => exact (c2 a (by rw [hf]; exact List.mem_cons_self ..)).2
  · exact PySem.W.mg_none_of X G (He.eqO_ok (c3 x hx))
  · rw [hg] at c4
    exact PySem.W.mg_of X G (He.eqO_ok (by simpa using c4))
/-! ### the Hook -/
def obsE (M : Md) (fn : List He.DefD) (K : PySem.W.Frag) : He.AlD := ((fn.all fun d => d.ok K) && mdB M K, fn.map fun d => He.fnW K d.at_)
def obsEG (n : Nat) (M : Md) (fn : List He.DefD) (g : Addr → Option Obj) : He.AlD := obsE M fn (He.frG g (He.asD g n))
def hookE (n : Nat) (M : Md) (fn : List He.DefD) : PySem.W.Hook where
  α := He.AlD
  obs := fun s => obsEG n M fn s.heap.get?
  val := fun _ => He.valD fn
  says := fun _ h => ∃ K : PySem.W.Frag, K.In h ∧ obsE M fn K = He.valD fn
  of := fun _ _ e => ⟨_, He.frG_in, e⟩
  keeps := fun _ _ _ ⟨K, a, b⟩ k => ⟨K, a.keeps k, b⟩
theorem obsEG_eq {n : Nat} {M : Md} {fn : List He.DefD} {g : Addr → Option Obj} {s : Shared} (h : ∀ a, g a = s.heap.get? a) : obsEG n M fn g = (hookE n M fn).obs s := by
  have e : g = s.heap.get? := funext h
  subst e
  rfl
theorem saysE_md {M : Md} {fn : List He.DefD} {K : PySem.W.Frag} (c : obsE M fn K = He.valD fn) : mdB M K = true :=
  (Bool.and_eq_true_iff.mp (show ((fn.all fun d => d.ok K) && mdB M K) = true from congrArg (fun z : He.AlD => z.1) c)).2
theorem saysE_def {M : Md} {fn : List He.DefD} {K : PySem.W.Frag} (c : obsE M fn K = He.valD fn) {i : Nat} {d : He.DefD} (h : fn[i]? = some d) : ∃ fd, FunD K d.name d.qual d.params d.body d.scope (d.dvs K) (d.kws K) (He.fAd K d.at_) fd := by
  have c2 := (Bool.and_eq_true_iff.mp (show ((fn.all fun d => d.ok K) && mdB M K) = true from congrArg (fun z : He.AlD => z.1) c)).1
  have e2 : (fn.map fun d => He.fnW K d.at_)[i]? = (fn.map He.DefD.val)[i]? := by
    rw [show (fn.map fun d => He.fnW K d.at_) = fn.map He.DefD.val from congrArg (fun z : He.AlD => z.2) c]
  rw [List.getElem?_map, List.getElem?_map, h] at e2
  exact He.DefD.funD (Option.some.inj e2) (List.all_eq_true.mp c2 d (List.mem_of_getElem? h))
/-! ### all defs -/
/-- the defs as the checker passes them, in the order of their numbers -/
def okFrom (M : Md) : Nat → List Df → Bool
  | _, [] => true
  | n, D :: r => D.ok M n && okFrom M (n + 1) r
theorem okFrom_at {M : Md} : ∀ {ds : List Df} {n i : Nat} {D : Df}, okFrom M n ds = true → ds[i]? = some D → D.ok M (n + i) = true
  | [], _, i, _, _, h => by simp at h
  | E :: r, n, i, D, h, e => by
    simp only [okFrom, Bool.and_eq_true] at h
    cases i with
    | zero => simp at e; subst e; exact h.1
    | succ i =>
      have := okFrom_at h.2 (i := i) (by simpa using e)
      rw [show n + (i + 1) = n + 1 + i by omega]
      exact this
section
variable {P : Program} {w : World} {K : PySem.W.Frag} {mg : Str → Option Value} {base : Heap} {M : Md}
theorem all_defs {ds : List Df} (mk : Mk M K mg (adOf K M.fs)) (hfs : ds.map (·.d.name) = M.fs) (hat : ∀ D ∈ ds, D.d.at_ = (D.d.name, none) ∧ D.d.dfl = [] ∧ D.d.kwd = [])
    (F : ∀ (i : Nat) (D : Df), ds[i]? = some D → ∃ fd, FunD K D.d.name D.d.qual D.d.params D.d.body D.d.scope (D.d.dvs K) (D.d.kws K) (He.fAd K D.d.at_) fd)
    (b : ∀ D ∈ ds, DBind D) (h : okFrom M 0 ds = true) (Nf : Nat) : ∀ n, n ≤ ds.length → ∀ k, k < n → FnG P w K mg base n ((adOf K M.fs).fa k) (spT ⟨P, w, K, adOf K M.fs⟩ (Phi (ds.map (·.c)) Nf n k))
  | 0, _, k, hk => absurd hk (Nat.not_lt_zero k)
  | n + 1, hn, k, hk => by
    have ih := all_defs mk hfs hat F b h Nf n (by omega)
    by_cases e : k = n
    · subst e
      have hD : ds[k]? = some ds[k] := List.getElem?_eq_getElem (by omega)
      have hm := List.mem_of_getElem? hD
      obtain ⟨fd, Fk⟩ := F k _ hD
      obtain ⟨a1, a2, a3⟩ := hat _ hm
      have ea : He.fAd K (ds[k]).d.at_ = (adOf K M.fs).fa k := by
        rw [a1]
        show He.ga K _ = He.ga K (M.fs.getD k _)
        rw [List.getD_eq_getElem?_getD, ← hfs, List.getElem?_map, hD]
        rfl
      rw [ea] at Fk
      have e1 : (ds[k]).d.dvs K = [] := by unfold He.DefD.dvs; rw [a2]; rfl
      have e2 : (ds[k]).d.kws K = [] := by unfold He.DefD.kws; rw [a3]; rfl
      rw [e1, e2] at Fk
      exact one_def (dv := .none) mk Fk (b _ hm) (by have := okFrom_at h hD; simpa using this) (by rw [List.getElem?_map, hD]; rfl) ih
    · have hk' : k < n := by omega
      rw [Phi_lt hk']
      exact (ih k hk').mono (Nat.le_succ n)
end

/-! ### a law's end -/
/-- the law's def called on the script, in the caller's place -/
theorem end_call {P : Program} {w : World} {K : PySem.W.Frag} {mg mb : Str → Option Value} {k : Nat} {fa a : Addr} {sp : Sp} {s₁ : Shared} {vs : List Value} {ns : List Int}
    (inK : K.In s₁.heap) (hns : s₁.heap.Ns mainGlobals mg) (hb : s₁.heap.Ns builtinsNs mb) (hbb : ∀ x : Str, x ≠ "__name__" → mb x = bootBuiltins x) (hlim : s₁.heap.NoLimit) (hg : s₁.gens = #[])
    (ha : s₁.heap.get? a = some { cls := .type "list", data := .seq vs.toArray }) (hi : IntsAre vs ns) (hl : ns.length ≤ sizeLine) (room : Room k callerA)
    (F : ∀ base : Heap, K.In base → base.Ns mainGlobals mg → FnG P w K mg base k fa sp)
    (hsp : ∀ H : Hp, L2.Only H → SqL K H a (ns.map V.int) → sp [.ref a] H (fun v _ => v = .bl true) fun _ _ _ => False) :
    codeAny (model P w) callerA (.call (.ref fa) ⟨[.ref a], []⟩) (fun r s' => r = .ok (.ret (.bool true)) ∧ OldK s₁.heap s'.heap ∧ s'.os = s₁.os ∧ AllBare s'.gens) s₁ := by
  have rv : Vals (ns.map V.int) vs := vals_ints hi
  -- for an abstract heap that tracks the script at most
  suffices core : ∀ H : Hp, L2.Only H → SqL K H a (ns.map V.int) → HOk P w H s₁.heap → (∀ b u, H b = some u → b = a ∧ K.lookup a = none) →
      codeAny (model P w) callerA (.call (.ref fa) ⟨[.ref a], []⟩) (fun r s' => r = .ok (.ret (.bool true)) ∧ OldK s₁.heap s'.heap ∧ s'.os = s₁.os ∧ AllBare s'.gens) s₁ by
    rcases hk : K.lookup a with _ | o
    · refine core (fun b => if b = a then some (.frz { cls := .type "list", data := .seq vs.toArray } (.lst (ns.map V.int))) else none) (fun b => ?_) (.inl (.inr ⟨_, if_pos rfl⟩)) (fun b u z => ?_) fun b u z => ?_
      · rcases Decidable.em (b = a) with h | h
        · exact .inr ⟨_, _, if_pos h⟩
        · exact .inl (if_neg h)
      · rcases Decidable.em (b = a) with h | h
        · cases (if_pos h).symm.trans z
          rw [h]
          exact ⟨ha, by rw [List.length_map]; exact hl, vs, _, rv, ha⟩
        · cases (if_neg h).symm.trans z
      · rcases Decidable.em (b = a) with h | h
        · exact ⟨h, hk⟩
        · cases (if_neg h).symm.trans z
    · have e := inK a o hk
      rw [ha] at e
      cases e
      exact core (fun _ => none) (fun _ => .inl rfl) (.inr ⟨_, vs.toArray, _, hk, rfl, rfl, rfl, by rw [List.size_toArray, ← rv.length, List.length_map]; exact hl, by simpa using rv⟩) (fun b u z => nomatch z) fun b u z => nomatch z
  intro H only isS hok mine
  have low : ∀ {b : Addr} {o : Obj}, s₁.heap.get? b = some o → H b = none → (hidT s₁.heap H).get? b = some o := hidT_get
  have dictFree : ∀ {b : Addr} {o : Obj} {es : Array DictEntry} {ep : Nat}, s₁.heap.get? b = some o → o.data = .dict es ep → H b = none := by
    intro b o es ep e d
    rcases q : H b with _ | u
    · rfl
    · rw [(mine b u q).1, ha] at e
      cases e
      cases d
  have ns' : ∀ {b : Addr} {m : Str → Option Value}, s₁.heap.Ns b m → (hidT s₁.heap H).Ns b m := fun ⟨o, es, ep, e, d, r⟩ => ⟨o, es, ep, low e (dictFree e d), d, r⟩
  have inB : K.In (hidT s₁.heap H) := fun b o e => low (inK b o e) (by
    rcases q : H b with _ | u
    · rfl
    · obtain ⟨h1, h2⟩ := mine b u q
      rw [h1, h2] at e
      cases e)
  have e0 : Env0 P w K mg (hidT s₁.heap H) callerA [] s₁ H := ⟨rfl, ⟨inB, ns' hns, ⟨mb, ns' hb, hbb⟩, hlim.imp fun mc z => ⟨ns' z.1, z.2⟩⟩, fun _ _ => of_hidT, Nat.le_of_eq (hidT_size _ _), trivial, fun b z => (nomatch z), hok, .of_eq hg⟩
  refine codeAny_mono (F _ inB (ns' hns) callerA [] s₁ H [.ref a] [.ref a] _ _ room rfl e0 (.cons rfl .nil) (hsp H only isS)) fun r s' h => ?_
  rcases r with e | fl
  · exact (let ⟨_, _, _, _, _, _, _, _, _, _, _, _, z⟩ := h; z : False).elim
  · cases fl with
    | next => exact False.elim h
    | brk => exact False.elim h
    | cont => exact False.elim h
    | ret u =>
      obtain ⟨v, H', os, bare, un, hok', r', rfl⟩ := h
      obtain rfl : u = Value.bool true := r'
      refine ⟨rfl, OldK.of_keep fun b o e => ?_, os, bare⟩
      rcases only b with z | ⟨ob, xs, z⟩
      · exact un.keep b o e z (fun y => nomatch y) (fun y => nomatch y)
      · have e1 := (hok b _ z).1
        rw [e] at e1
        cases e1
        exact (hok' b _ (un.frzs b _ _ z)).1
/-- the law's walk, from what its core text gives -/
theorem walk_ev {l : PySem.W.OpenLaw} {n : Nat} {q : Program} {loose : List Str} {XP : (Str → Option Value) → Heap → Prop} {d : DefRec} {M : Md} {ds : List Df} {hn1 : Nat} {kl : Nat} {x : Str}
    (hn : l.most = some n) (hn2 : n ≤ sizeLine) (hdf : d.params.defaults = []) (hr : Room ds.length callerA)
    (hfs : ds.map (·.d.name) = M.fs) (hat : ∀ D ∈ ds, D.d.at_ = (D.d.name, none) ∧ D.d.dfl = [] ∧ D.d.kwd = []) (hne : M.fs ≠ []) (hb : ∀ D ∈ ds, DBind D) (ho : okFrom M 0 ds = true) (hk : kl < ds.length) (hx : M.fs[kl]? = some d.name)
    (law : ∀ ns : List Int, ns.length ≤ n → (∀ z ∈ ns, Builtin.Int.intBits z ≤ 1048576) → ∃ Nf m', Phi (ds.map (·.c)) Nf ds.length kl [.ro (ns.map T.int)] [] = some (.ok (.bl true), m')) :
    PySem.W.WalkO q loose XP (hookE hn1 M (ds.map (·.d))).says l.row.toRowW d [] (fun f vs => PySem.call f vs) := by
  refine Att.attach_callB hn hdf fun w s₀ s₁ mg mb fa o pm cd doc a vs ns G Y hh hd hcd hmg hobj hints hlen hbits hg => ?_
  obtain ⟨K, inK, c⟩ := Y
  have mk := mdB_ok inK G.T.g hne (saysE_md c)
  have e : (adOf K M.fs).fa kl = fa := by
    have := (mk.fs kl _ hx).symm.trans hmg
    cases this
    rfl
  have defs : ∀ (i : Nat) (D : Df), ds[i]? = some D → ∃ fd, FunD K D.d.name D.d.qual D.d.params D.d.body D.d.scope (D.d.dvs K) (D.d.kws K) (He.fAd K D.d.at_) fd := fun i D hD => saysE_def c (i := i) (by rw [List.getElem?_map, hD]; rfl)
  refine end_call (k := ds.length) (sp := fun vs H Q E => ∃ Nf, spT ⟨l.prog, w, K, adOf K M.fs⟩ (Phi (ds.map (·.c)) Nf ds.length kl) vs H Q E) inK G.T.g G.T.b G.T.builtins G.T.nolimit hg hobj hints (Nat.le_trans hlen hn2) hr (fun base h1 h2 => ?_) fun H only hS => ?_
  · intro A outer s H us vs Q E r1 r2 r3 r4 ⟨Nf, r5⟩
    have z := all_defs (P := l.prog) (w := w) (base := base) mk hfs hat defs hb ho Nf ds.length (Nat.le_refl _) kl hk
    rw [e] at z
    exact z A outer s H us vs Q E r1 r2 r3 r4 r5
  · obtain ⟨Nf, m', hlaw⟩ := law ns hlen hbits
    refine ⟨Nf, [], [], [.ro (ns.map T.int)], ⟨rfl, List.nodup_nil, fun n a o h => by simp at h⟩, Reps.one (rep_ro.mpr ⟨a, ns.map V.int, rfl, ⟨hS, ?_⟩, ?_⟩), ?_⟩
    · rcases hS with (h | h) | h
      · rcases only a with z | ⟨ob, xs, z⟩ <;> (rw [h] at z; cases z)
      · exact .inl h
      · exact .inr h
    · clear hS hlen hints hlaw hbits
      induction ns with
      | nil => exact Reps.nil
      | cons i ns ih => exact Reps.cons (rep_int.mpr rfl) ih
    · rw [hlaw]
      exact Wt.one fun ι' H' _ _ v rv => rep_bl.mp rv
end Ev
end
section
set_option linter.all false
set_option maxRecDepth 10000
/-! Ew1: how core texts are run by hand. -/
namespace Ev
open PySem PySem.Spec PyProof.Rows L2
/-- it ends with a value of which P holds -/
def Runs {α : Type} (x : Rm α) (P : α → Mem → Prop) : Prop := ∃ a m, x = some (.ok a, m) ∧ P a m
theorem Runs.ret {α : Type} {a : α} {m : Mem} {P : α → Mem → Prop} (h : P a m) : Runs (Ev.ret a m) P := ⟨a, m, rfl, h⟩
theorem Runs.bnd {α β : Type} {x : Rm α} {f : α → Mem → Rm β} {P : α → Mem → Prop} {Q : β → Mem → Prop} (h : Runs x P) (k : ∀ a m, P a m → Runs (f a m) Q) : Runs (Ev.bnd x f) Q := by
  obtain ⟨a, m, rfl, p⟩ := h
  exact k a m p
theorem Runs.imp {α : Type} {x : Rm α} {P Q : α → Mem → Prop} (h : Runs x P) (k : ∀ a m, P a m → Q a m) : Runs x Q := by
  obtain ⟨a, m, e, p⟩ := h
  exact ⟨a, m, e, k a m p⟩
/-- a statement ends so -/
def RunsS (x : Sm) (P : SO → Mem → Prop) : Prop := ∃ o m, x = some (o, m) ∧ P o m
theorem RunsS.nx {τ : Lo} {m : Mem} {P : SO → Mem → Prop} (h : P (.nx τ) m) : RunsS (some (.nx τ, m)) P := ⟨_, m, rfl, h⟩
theorem RunsS.bnd {α : Type} {τ : Lo} {x : Rm α} {f : α → Mem → Sm} {P : α → Mem → Prop} {Q : SO → Mem → Prop} (h : Runs x P) (k : ∀ a m, P a m → RunsS (f a m) Q) : RunsS (sbnd τ x f) Q := by
  obtain ⟨a, m, rfl, p⟩ := h
  exact k a m p
/-- typed values told as plain values -/
class En (α : Type) where
  enc : α → T
  hd : ∀ a, (∃ i, enc a = .int i) ∨ ∃ l, enc a = .tup l
  pu : ∀ rf a, deepR rf (enc a) = some (enc a)
  eqv : ∀ a b, PyData.eqv (toPy (enc a)) (toPy (enc b)) = true ↔ a = b
  lay : ∀ a, (toPy (enc a)).canLay0 = true
  dp : Nat
  dep : ∀ a, (toPy (enc a)).depth ≤ dp
open En
instance : En Int where
  enc i := .int i
  hd i := .inl ⟨i, rfl⟩
  pu _ _ := rfl
  eqv a b := by simp [toPy, PyData.eqv]
  lay _ := by simp [toPy, PyData.canLay0]
  dp := 0
  dep _ := by simp [toPy, PyData.depth]
theorem depth_tuple (ds : List PyData) (n : Nat) (h : ∀ d ∈ ds, d.depth ≤ n) : (PyData.tuple ds).depth ≤ n + 1 := by
  simp only [PyData.depth]
  have : PyData.depthAll ds ≤ n := by
    induction ds with
    | nil => simp [PyData.depthAll]
    | cons d ds ih =>
      simp only [PyData.depthAll]
      exact Nat.max_le.mpr ⟨h d (List.mem_cons_self ..), ih fun e he => h e (List.mem_cons_of_mem _ he)⟩
  omega
instance {α β : Type} [En α] [En β] : En (α × β) where
  enc p := .tup [enc p.1, enc p.2]
  hd p := .inr ⟨_, rfl⟩
  pu rf p := by simp [deepR, deepsR, En.pu]
  eqv a b := by
    simp only [toPy, toPys, PyData.eqv, PyData.eqvAll, Bool.and_eq_true, Bool.and_true, En.eqv, Prod.ext_iff]
  lay p := by simp [toPy, toPys, PyData.canLay0, PyData.canLayAll0, En.lay]
  dp := max (En.dp α) (En.dp β) + 1
  dep p := by
    simp only [toPy, toPys]
    refine depth_tuple _ _ fun d hd => ?_
    simp only [List.mem_cons, List.not_mem_nil, or_false] at hd
    rcases hd with rfl | rfl
    · exact Nat.le_trans (En.dep p.1) (Nat.le_max_left ..)
    · exact Nat.le_trans (En.dep p.2) (Nat.le_max_right ..)
theorem toPys_map {α : Type} [En α] (l : List α) : toPys (l.map enc) = l.map fun a => toPy (enc a) := by
  induction l with
  | nil => rfl
  | cons a l ih => simp [toPys, ih]
instance {α : Type} [En α] : En (List α) where
  enc l := .tup (l.map enc)
  hd l := .inr ⟨_, rfl⟩
  pu rf l := by
    simp only [deepR]
    have : deepsR rf (l.map enc) = some (l.map enc) := by
      induction l with
      | nil => rfl
      | cons a l ih => simp [deepsR, En.pu, ih]
    rw [this]; rfl
  eqv a b := by
    simp only [toPy, PyData.eqv]
    induction a generalizing b with
    | nil => cases b <;> simp [toPys, PyData.eqvAll]
    | cons x a ih =>
      cases b with
      | nil => simp [toPys, PyData.eqvAll]
      | cons y b => simp only [List.map_cons, toPys, PyData.eqvAll, Bool.and_eq_true, En.eqv, ih, List.cons.injEq]
  lay l := by
    simp only [toPy, PyData.canLay0]
    induction l with
    | nil => simp [toPys, PyData.canLayAll0]
    | cons a l ih => simp [toPys, PyData.canLayAll0, En.lay, ih]
  dp := En.dp α + 1
  dep l := by
    simp only [toPy, toPys_map]
    refine depth_tuple _ _ fun d hd => ?_
    obtain ⟨a, _, rfl⟩ := List.mem_map.mp hd
    exact En.dep a
theorem enc_int (i : Int) : enc i = T.int i := rfl
theorem enc_pair {α β : Type} [En α] [En β] (p : α × β) : enc p = T.tup [enc p.1, enc p.2] := rfl
theorem enc_list {α : Type} [En α] (l : List α) : enc l = T.tup (l.map enc) := rfl
theorem enc_inj {α : Type} [En α] {a b : α} (h : enc a = enc b) : a = b := (En.eqv a b).mp (by rw [h]; exact (En.eqv b b).mpr rfl)
theorem flat_enc {α : Type} [En α] (h : En.dp α ≤ 60) (a : α) : T.flat (enc a) = true := by
  unfold T.flat SeqAt.shaped
  have := En.dep a
  rw [En.lay a, Bool.true_and]
  exact decide_eq_true (by omega)
/-- == on typed values -/
theorem eqOp_enc {α : Type} [En α] [DecidableEq α] (h : En.dp α ≤ 60) (m : Mem) (a b : α) : eqOp m (enc a) (enc b) = some (decide (a = b)) := by
  have key : (match deep m (enc a), deep m (enc b) with
    | some a', some b' => if (T.flat a' && T.flat b') = true then some (T.eqv a' b') else none
    | _, _ => none) = some (decide (a = b)) := by
    unfold deep
    rw [En.pu, En.pu]
    simp only [flat_enc h, Bool.and_self, ↓reduceIte, T.eqv]
    congr 1
    rw [Bool.eq_iff_iff, En.eqv]
    simp
  rcases En.hd a with ⟨i, ea⟩ | ⟨l, ea⟩ <;> rcases En.hd b with ⟨j, eb⟩ | ⟨k, eb⟩ <;> (rw [ea, eb] at key ⊢; exact key)
theorem cmp_eq_enc {α : Type} [En α] [DecidableEq α] (h : En.dp α ≤ 60) (m : Mem) (a b : α) : cmpop .eq (enc a) (enc b) m = some (decide (a = b)) := eqOp_enc h m a b
theorem cmp_ne_enc {α : Type} [En α] [DecidableEq α] (h : En.dp α ≤ 60) (m : Mem) (a b : α) : cmpop .ne (enc a) (enc b) m = some (!decide (a = b)) := by
  show (eqOp m (enc a) (enc b)).map (!·) = _
  rw [eqOp_enc h]; rfl
/-! ### comprehensions that leave the memory -/
theorem lc_pure {elt : Lo → Mem → Rm T} {tst : Lo → Mem → Rm Bool} {tg : CT} {st : Stay} {τ0 : Lo} {m : Mem} (hst : st.ok m = true) (g : T → Option T) : ∀ {l : List T},
    (∀ t ∈ l, ∃ τ, asgT tg t τ0 = some τ ∧ (∀ x, g t = some x → tst τ m = some (.ok true, m) ∧ elt τ m = some (.ok x, m)) ∧ (g t = none → tst τ m = some (.ok false, m))) →
    lcLoop elt tst tg st τ0 l m = some (.ok (l.filterMap g), m)
  | [], _ => by unfold lcLoop; rw [hst]; rfl
  | t :: l, h => by
    obtain ⟨τ, h1, h2, h3⟩ := h t (List.mem_cons_self ..)
    have ih := lc_pure hst g (l := l) fun t ht => h t (List.mem_cons_of_mem _ ht)
    unfold lcLoop
    rw [hst, guard'_true, h1]
    cases e : g t with
    | none =>
      simp only [h3 e, ih, List.filterMap_cons, e]
    | some x =>
      obtain ⟨k1, k2⟩ := h2 x e
      simp only [k1, k2, ih, List.filterMap_cons, e]
      rfl
/-- over typed items -/
theorem lc_enc {α β : Type} [En α] [En β] {elt : Lo → Mem → Rm T} {tst : Lo → Mem → Rm Bool} {tg : CT} {st : Stay} {τ0 : Lo} {m : Mem} (hst : st.ok m = true) (g : α → Option β) {l : List α}
    (h : ∀ a ∈ l, ∃ τ, asgT tg (enc a) τ0 = some τ ∧ (∀ x, g a = some x → tst τ m = some (.ok true, m) ∧ elt τ m = some (.ok (enc x), m)) ∧ (g a = none → tst τ m = some (.ok false, m))) :
    lcLoop elt tst tg st τ0 (l.map enc) m = some (.ok ((l.filterMap g).map enc), m) := by
  induction l with
  | nil => show lcLoop elt tst tg st τ0 [] m = _; unfold lcLoop; rw [hst]; rfl
  | cons a l ih =>
    obtain ⟨τ, h1, h2, h3⟩ := h a (List.mem_cons_self ..)
    have ih := ih fun a ha => h a (List.mem_cons_of_mem _ ha)
    rw [List.map_cons]
    unfold lcLoop
    rw [hst, guard'_true, h1]
    cases e : g a with
    | none => simp only [h3 e, ih, List.filterMap_cons, e]
    | some x =>
      obtain ⟨k1, k2⟩ := h2 x e
      simp only [k1, k2, ih, List.filterMap_cons, e, List.map_cons]
      rfl
/-! ### for loops with an invariant -/
theorem for_inv {body : Lo → Mem → Sm} {tg : CT} {st : Stay} (I : Nat → Lo → Mem → Prop) {l : List T} {P : SO → Mem → Prop} {τ : Lo} {m : Mem} (h0 : I 0 τ m) (hst : ∀ i τ m, i ≤ l.length → I i τ m → st.ok m = true)
    (hs : ∀ i t τ m, l[i]? = some t → I i τ m → ∃ τ1, asgT tg t τ = some τ1 ∧ RunsS (body τ1 m) fun o m' => ∃ τ', o = .nx τ' ∧ I (i + 1) τ' m') (hd : ∀ τ m, I l.length τ m → P (.nx τ) m) :
    RunsS (forLoop body tg st l τ m) P := by
  suffices key : ∀ (k i : Nat) (τ : Lo) (m : Mem), k = l.length - i → i ≤ l.length → I i τ m → RunsS (forLoop body tg st (l.drop i) τ m) P by
    simpa using key l.length 0 τ m (by simp) (Nat.zero_le _) h0
  intro k
  induction k with
  | zero =>
    intro i τ m hk hi h
    have e : i = l.length := by omega
    subst e
    rw [List.drop_length]
    unfold forLoop
    rw [if_pos (hst _ τ m hi h)]
    exact ⟨_, _, rfl, hd τ m h⟩
  | succ k ih =>
    intro i τ m hk hi h
    have hlt : i < l.length := by omega
    rw [List.drop_eq_getElem_cons hlt]
    unfold forLoop
    rw [if_pos (hst i τ m hi h)]
    obtain ⟨τ1, e1, o, m', e2, τ', rfl, h'⟩ := hs i l[i] τ m (List.getElem?_eq_getElem hlt) h
    simp only [e1, e2]
    exact ih (i + 1) τ' m' (by omega) hlt h'
end Ev
end
section
set_option linter.all false
set_option maxRecDepth 10000
/-! Ew2: the wish of a text, backwards. -/
namespace Ev
open PySem PySem.Spec PyProof.Rows L2
section
variable {α β : Type} {P : α → Mem → Prop}
theorem w_bnd {Q : β → Mem → Prop} {x : Rm α} {f : α → Mem → Rm β} : Runs (Ev.bnd x f) Q ↔ Runs x fun a m => Runs (f a m) Q := by
  constructor
  · rintro ⟨b, m, e, q⟩
    match x, e with
    | some (.ok a, m1), e => exact ⟨a, m1, rfl, b, m, e, q⟩
  · rintro ⟨a, m, rfl, h⟩
    exact h
theorem w_ret {a : α} {m : Mem} : Runs (Ev.ret a m) P ↔ P a m := by
  constructor
  · rintro ⟨b, m', e, q⟩
    cases e
    exact q
  · exact Runs.ret
theorem w_ok {a : α} {m : Mem} : Runs (some (.ok a, m)) P ↔ P a m := w_ret
theorem w_guard {c : Bool} {x : Rm α} : Runs (guard' c x) P ↔ c = true ∧ Runs x P := by
  cases c with
  | true => simp [guard']
  | false => simp [guard', Runs]
theorem w_optS {a : α} {m : Mem} : Runs (Ev.opt (some a) m) P ↔ P a m := w_ret
theorem w_none : Runs (none : Rm α) P ↔ False := by simp [Runs]
theorem w_ite {c : Prop} [Decidable c] {x y : Rm α} : Runs (if c then x else y) P ↔ if c then Runs x P else Runs y P := by split <;> rfl
theorem w_alloc {o : MO} {m : Mem} {P : T → Mem → Prop} : Runs (alloc o m) P ↔ P (.ref m.length) (m ++ [o]) := w_ret
theorem w_truth {b : Bool} {m : Mem} {P : Bool → Mem → Prop} : Runs (truth (.bl b) m) P ↔ P b m := w_ret
end
/-- a suite's end without an exception -/
def RunsT (x : Sm) (P : SO → Mem → Prop) : Prop := ∃ o m, x = some (o, m) ∧ (∀ e τ, o ≠ .ex e τ) ∧ P o m
section
variable {P : SO → Mem → Prop} {τ : Lo} {m : Mem}
theorem w_sbnd {α : Type} {x : Rm α} {f : α → Mem → Sm} : RunsT (sbnd τ x f) P ↔ Runs x fun a m => RunsT (f a m) P := by
  constructor
  · rintro ⟨o, m, e, n, q⟩
    match x, e with
    | some (.ok a, m1), e => exact ⟨a, m1, rfl, o, m, e, n, q⟩
    | some (.ex z, m1), e => cases e; exact absurd rfl (n _ _)
  · rintro ⟨a, m, rfl, h⟩
    exact h
theorem w_nx : RunsT (some (.nx τ, m)) P ↔ P (.nx τ) m := by
  constructor
  · rintro ⟨o, m', e, n, q⟩; cases e; exact q
  · exact fun h => ⟨_, _, rfl, fun _ _ z => (nomatch z), h⟩
theorem w_rt {t : T} : RunsT (some (.ret t, m)) P ↔ P (.ret t) m := by
  constructor
  · rintro ⟨o, m', e, n, q⟩; cases e; exact q
  · exact fun h => ⟨_, _, rfl, fun _ _ z => (nomatch z), h⟩
theorem w_bk : RunsT (some (.brk τ, m)) P ↔ P (.brk τ) m := by
  constructor
  · rintro ⟨o, m', e, n, q⟩; cases e; exact q
  · exact fun h => ⟨_, _, rfl, fun _ _ z => (nomatch z), h⟩
theorem w_ct : RunsT (some (.cnt τ, m)) P ↔ P (.cnt τ) m := by
  constructor
  · rintro ⟨o, m', e, n, q⟩; cases e; exact q
  · exact fun h => ⟨_, _, rfl, fun _ _ z => (nomatch z), h⟩
theorem w_sno : RunsT none P ↔ False := by simp [RunsT]
theorem w_site {c : Prop} [Decidable c] {x y : Sm} : RunsT (if c then x else y) P ↔ if c then RunsT x P else RunsT y P := by split <;> rfl
/-- what is wanted behind a statement -/
def nxt (P : SO → Mem → Prop) (k : Lo → Mem → Prop) : SO → Mem → Prop
  | .nx τ, m => k τ m
  | o, m => P o m
theorem nxt_nx {k : Lo → Mem → Prop} : nxt P k (.nx τ) m = k τ m := rfl
theorem nxt_rt {k : Lo → Mem → Prop} {t : T} : nxt P k (.ret t) m = P (.ret t) m := rfl
theorem nxt_bk {k : Lo → Mem → Prop} : nxt P k (.brk τ) m = P (.brk τ) m := rfl
theorem nxt_ct {k : Lo → Mem → Prop} : nxt P k (.cnt τ) m = P (.cnt τ) m := rfl
theorem w_cons {Φ : Fns} {N : Nat} {s : CS} {r : CSs} : RunsT (evSs Φ N (.cons s r) τ m) P ↔ RunsT (evS Φ N s τ m) (nxt P fun τ m => RunsT (evSs Φ N r τ m) P) := by
  simp only [evSs]
  constructor
  · rintro ⟨o, m', e, n, q⟩
    cases h : evS Φ N s τ m with
    | none => rw [h] at e; cases e
    | some z =>
      obtain ⟨z1, z2⟩ := z
      rw [h] at e
      refine ⟨z1, z2, rfl, ?_⟩
      cases z1 with
      | nx τ1 => exact ⟨fun _ _ z => (nomatch z), o, m', e, n, q⟩
      | ex a b => cases e; exact absurd rfl (n _ _)
      | ret t => cases e; exact ⟨n, q⟩
      | brk τ => cases e; exact ⟨n, q⟩
      | cnt τ => cases e; exact ⟨n, q⟩
  · rintro ⟨o, m', e, n, q⟩
    rw [e]
    cases o with
    | nx τ1 => exact q
    | ex a b => exact absurd rfl (n _ _)
    | ret t => exact ⟨_, _, rfl, n, q⟩
    | brk τ => exact ⟨_, _, rfl, n, q⟩
    | cnt τ => exact ⟨_, _, rfl, n, q⟩
theorem w_nil {Φ : Fns} {N : Nat} : RunsT (evSs Φ N .nil τ m) P ↔ P (.nx τ) m := by simp only [evSs, w_nx]
/-- a def's end -/
def dend (P : T → Mem → Prop) : SO → Mem → Prop
  | .nx _, m => P .non m
  | .ret t, m => P t m
  | _, _ => False
theorem w_run {Φ : Fns} {N : Nat} {d : CD} {ts : List T} {P : T → Mem → Prop} (h : ts.length = d.np) (k : RunsT (evSs Φ N d.body (ts.map some ++ List.replicate (d.nn - d.np) none) m) (dend P)) : Runs (runD Φ N d ts m) P := by
  obtain ⟨o, m', e, n, q⟩ := k
  unfold runD
  rw [if_pos h, e]
  cases o with
  | nx τ => exact ⟨_, _, rfl, q⟩
  | ret t => exact ⟨_, _, rfl, q⟩
  | brk τ => exact q.elim
  | cnt τ => exact q.elim
  | ex a b => exact absurd rfl (n _ _)
theorem dend_nx {P : T → Mem → Prop} : dend P (.nx τ) m = P .non m := rfl
theorem dend_rt {P : T → Mem → Prop} {t : T} : dend P (.ret t) m = P t m := rfl
/-- a comprehension -/
theorem w_lc {elt : Lo → Mem → Rm T} {tst : Lo → Mem → Rm Bool} {tg : CT} {st : Stay} {τ0 : Lo} {l : List T} {P : List T → Mem → Prop} {r : List T} {m' : Mem} (e : lcLoop elt tst tg st τ0 l m = some (.ok r, m')) (h : P r m') : Runs (lcLoop elt tst tg st τ0 l m) P := ⟨_, _, e, h⟩
end
end Ev
end
section
set_option linter.all false
set_option maxRecDepth 10000
/-! Ew3: what is wanted of a text, told so that it computes. -/
namespace Ev
open PySem PySem.Spec PyProof.Rows L2
/-- words at which computing halts -/
structure CallW {α : Type} (x : Rm α) (P : α → Mem → Prop) : Prop where
  out : Runs x P
structure LoopW (x : Sm) (P : SO → Mem → Prop) : Prop where
  out : RunsT x P
structure LcW (x : Rm (List T)) (P : List T → Mem → Prop) : Prop where
  out : Runs x fun l m => small l.length = true ∧ P l m
def CEs.num : CEs → Nat
  | .nil => 0
  | .cons _ _ r => r.num + 1
def CEs.plain : CEs → Bool
  | .nil => true
  | .cons s _ r => !s && r.plain
def CEs.short (es : CEs) : Bool := es.plain && Nat.ble es.num 100
def yes (b : Bool) (P Q : Prop) : Prop := match b with
  | true => P
  | false => Q
def asB (x : T) (m : Mem) (P : Bool → Mem → Prop) : Prop := match x with
  | .bl b => P b m
  | _ => False
def wpSeq (x : T) (m : Mem) (K : List T → Prop) : Prop := match x with
  | .tup l => K l
  | .ro l => K l
  | .ref n => ∃ l, m[n]? = some (.lst l) ∧ K l
  | _ => False
def wpBin (op : BOp) (x y : T) (m : Mem) (P : T → Mem → Prop) : Prop := match op, x, y with
  | .add, .int i, .int j => P (.int (i + j)) m
  | .sub, .int i, .int j => P (.int (i - j)) m
  | .mul, .int i, .int j => mulOk i j = true ∧ P (.int (i * j)) m
  | .fdiv, .int i, .int j => divOk j = true ∧ P (.int (i / j)) m
  | .mod, .int i, .int j => 0 < j ∧ P (.int (i % j)) m
  | .band, .int i, .int j => P (.int (Builtin.bitAnd i j)) m
  | .add, .tup a, .tup b => small (a.length + b.length) = true ∧ P (.tup (a ++ b)) m
  | op, x, y => ∃ t m', binop op x y m = some (.ok t, m') ∧ P t m'
def wpCmp (op : COp) (x y : T) (m : Mem) (P : Bool → Prop) : Prop := match op, x, y with
  | .lt, .int i, .int j => P (decide (i < j))
  | .le, .int i, .int j => P (decide (i ≤ j))
  | .gt, .int i, .int j => P (decide (j < i))
  | .ge, .int i, .int j => P (decide (j ≤ i))
  | .eq, .int i, .int j => P (decide (i = j))
  | .ne, .int i, .int j => P (!decide (i = j))
  | op, x, y => ∃ b, cmpop op x y m = some b ∧ P b
def wpIdx (x y : T) (m : Mem) (P : T → Mem → Prop) : Prop := match x, y with
  | .tup l, .int i => ∃ t, atI l i = some t ∧ P t m
  | .ro l, .int i => ∃ t, atI l i = some t ∧ P t m
  | x, y => ∃ t, idxop x y m = some (.ok t, m) ∧ P t m
def wpSlc (x : T) (lo hi : Option Int) (m : Mem) (P : T → Mem → Prop) : Prop := match x with
  | .tup l => P (.tup (cutT l lo hi)) m
  | .ro l => P (.ref m.length) (m ++ [.lst (cutT l lo hi)])
  | .ref n => ∃ l, m[n]? = some (.lst l) ∧ P (.ref m.length) (m ++ [.lst (cutT l lo hi)])
  | _ => False
def wpBi (b : Bi) (l : List T) (m : Mem) (P : T → Mem → Prop) : Prop := match b, l with
  | .len, [.tup l] => P (.int l.length) m
  | .len, [.ro l] => P (.int l.length) m
  | .len, [.ref n] => ∃ l, m[n]? = some (.lst l) ∧ P (.int l.length) m
  | .max2, [.int i, .int j] => P (.int (if j > i then j else i)) m
  | .min2, [.int i, .int j] => P (.int (if j < i then j else i)) m
  | .abs, [.int i] => P (.int (if i < 0 then -i else i)) m
  | .int, [.int i] => P (.int i) m
  | .gcd, [.int a, .int b] => P (.int ((Nat.gcd a.natAbs b.natAbs : Nat) : Int)) m
  | .tuple, [t] => wpSeq t m fun l => P (.tup l) m
  | .list, [t] => wpSeq t m fun l => P (.ref m.length) (m ++ [.lst l])
  | b, l => ∃ t m', biop b l m = some (.ok t, m') ∧ P t m'
def wpBq (b : Bq) (l : List T) (m : Mem) (P : T → Mem → Prop) : Prop := match b with
  | .tuple => P (.tup l) m
  | .len => P (.int l.length) m
  | b => ∃ t m', bqop b l m = some (.ok t, m') ∧ P t m'
def wpMeth (mt : Mt) (x : T) (l : List T) (m : Mem) (P : T → Mem → Prop) : Prop := ∃ t m', methop mt x l m = some (.ok t, m') ∧ P t m'
mutual
def wpE (Φ : Fns) : CE → Lo → Mem → (T → Mem → Prop) → Prop
  | .var i, τ, m, P => match τ[i]? with
    | some (some t) => P t m
    | _ => False
  | .cst t, _, m, P => P t m
  | .glob _ t, _, m, P => P t m
  | .bin op a b, τ, m, P => wpE Φ a τ m fun x m1 => wpE Φ b τ m1 fun y m2 => wpBin op x y m2 P
  | .neg a, τ, m, P => wpE Φ a τ m fun x m1 => match x with
    | .int i => P (.int (-i)) m1
    | _ => False
  | .isN neg a, τ, m, P => wpE Φ a τ m fun x m1 => P (.bl (if neg then !T.beq x .non else T.beq x .non)) m1
  | .revl a, τ, m, P => wpE Φ a τ m fun x m1 => match x with
    | .ref n => ∃ l, m1[n]? = some (.lst l) ∧ P (.ref m1.length) (m1 ++ [.lst l.reverse])
    | .ro l => P (.ref m1.length) (m1 ++ [.lst l.reverse])
    | _ => False
  | .nt a, τ, m, P => wpE Φ a τ m fun x m1 => asB x m1 fun b m2 => P (.bl (!b)) m2
  | .cmp op a b, τ, m, P => wpE Φ a τ m fun x m1 => wpE Φ b τ m1 fun y m2 => wpCmp op x y m2 fun k => P (.bl k) m2
  | .chain o1 o2 a b c, τ, m, P => wpE Φ a τ m fun x m1 => wpE Φ b τ m1 fun y m2 => wpCmp o1 x y m2 fun k =>
      (k = true → wpE Φ c τ m2 fun z m4 => wpCmp o2 y z m4 fun k => P (.bl k) m4) ∧ (k = false → P (.bl false) m2)
  | .and a b, τ, m, P => wpE Φ a τ m fun x m1 => asB x m1 fun k m2 => (k = true → wpE Φ b τ m2 P) ∧ (k = false → P (.bl false) m2)
  | .or a b, τ, m, P => wpE Φ a τ m fun x m1 => asB x m1 fun k m2 => (k = true → P (.bl true) m2) ∧ (k = false → wpE Φ b τ m2 P)
  | .ite c a b, τ, m, P => wpE Φ c τ m fun x m1 => asB x m1 fun k m2 => (k = true → wpE Φ a τ m2 P) ∧ (k = false → wpE Φ b τ m2 P)
  | .tup es, τ, m, P => wpEs Φ es τ m fun l m1 => yes es.short (P (.tup l) m1) (small l.length = true ∧ P (.tup l) m1)
  | .mk q, τ, m, P => wpQ Φ q τ m fun l m1 => P (.ref m1.length) (m1 ++ [.lst l])
  | .idx a i, τ, m, P => wpE Φ a τ m fun x m1 => wpE Φ i τ m1 fun y m2 => wpIdx x y m2 P
  | .slc a lo hi, τ, m, P => wpE Φ a τ m fun x m1 => wpO Φ lo τ m1 fun l m2 => wpO Φ hi τ m2 fun h m3 => wpSlc x l h m3 P
  | .call k es, τ, m, P => wpEs Φ es τ m fun l m1 => CallW (Φ k l m1) P
  | .callv i es, τ, m, P => match τ[i]? with
    | some (some (.fn k)) => wpEs Φ es τ m fun l m1 => CallW (Φ k l m1) P
    | _ => False
  | .bi b es, τ, m, P => wpEs Φ es τ m fun l m1 => wpBi b l m1 P
  | .biq b q, τ, m, P => wpQ Φ q τ m fun l m1 => wpBq b l m1 P
  | .meth mt o es, τ, m, P => wpE Φ o τ m fun x m1 => mtyOk mt x m1 = true ∧ wpEs Φ es τ m1 fun l m2 => wpMeth mt x l m2 P
  | .dnew tk, _, m, P => P (.ref m.length) (m ++ [if tk then .dT false [] else .dK false []])
  | .ddisp ks es, τ, m, P => wpEs Φ es τ m fun l m1 => l.length = ks.length ∧ P (.ref m1.length) (m1 ++ [.dK false (merge [] ((ks.map Sum.inr).zip l))])
def wpEs (Φ : Fns) : CEs → Lo → Mem → (List T → Mem → Prop) → Prop
  | .nil, _, m, P => P [] m
  | .cons star e r, τ, m, P => wpE Φ e τ m fun x m1 => match star with
    | false => wpEs Φ r τ m1 fun l m2 => P (x :: l) m2
    | true => wpSeq x m1 fun xs => wpEs Φ r τ m1 fun l m2 => P (xs ++ l) m2
def wpO (Φ : Fns) : CO → Lo → Mem → (Option Int → Mem → Prop) → Prop
  | .none, _, m, P => P none m
  | .some e, τ, m, P => wpE Φ e τ m fun x m1 => match x with
    | .int i => P (some i) m1
    | _ => False
def wpQ (Φ : Fns) : CQ → Lo → Mem → (List T → Mem → Prop) → Prop
  | .lst es, τ, m, P => wpEs Φ es τ m fun l m1 => yes es.short (P l m1) (small l.length = true ∧ P l m1)
  | .lc elt tg it ifs own, τ, m, P => wpI Φ it τ m fun p m1 => LcW (lcLoop (fun τ m => ev Φ elt τ m) (fun τ m => evt Φ ifs τ m) tg p.2 (wipeT τ own) p.1 m1) P
  | .lcd elt tg i ifs own, τ, m, P => CallW (evq Φ (.lcd elt tg i ifs own) τ m) P
  | .rev q, τ, m, P => wpQ Φ q τ m fun l m1 => P l.reverse m1
  | .sorted q, τ, m, P => wpQ Φ q τ m fun l m1 => ∃ r, sortOp l m1 = some r ∧ P r m1
  | .cat a b, τ, m, P => wpQ Φ a τ m fun l m1 => wpQ Φ b τ m1 fun k m2 => small (l.length + k.length) = true ∧ P (l ++ k) m2
def wpI (Φ : Fns) : CI → Lo → Mem → (List T × Stay → Mem → Prop) → Prop
  | .seq e, τ, m, P => wpE Φ e τ m fun x m1 => wpSeq x m1 fun l => P (l, stayOf m1 x) m1
  | .q q, τ, m, P => wpQ Φ q τ m fun l m1 => P (l, none) m1
  | .rng a, τ, m, P => wpE Φ a τ m fun x m1 => match x with
    | .int n => (-1000000000 < n ∧ n < 1000000000) ∧ P ((List.range n.toNat).map fun i => .int (Int.ofNat i), none) m1
    | _ => False
  | .rng2 a b, τ, m, P => wpE Φ a τ m fun x m1 => wpE Φ b τ m1 fun y m2 => match x, y with
    | .int i, .int j => (-1000000000 < i ∧ i < 1000000000 ∧ -1000000000 < j ∧ j < 1000000000) ∧ P ((List.range (j - i).toNat).map fun k => .int (i + Int.ofNat k), none) m2
    | _, _ => False
  | .rngd a b, τ, m, P => wpE Φ a τ m fun x m1 => wpE Φ b τ m1 fun y m2 => match x, y with
    | .int i, .int j => (-1000000000 < i ∧ i < 1000000000 ∧ -1000000000 < j ∧ j < 1000000000) ∧ P ((List.range (i - j).toNat).map fun k => .int (i - Int.ofNat k), none) m2
    | _, _ => False
  | .zip a b, τ, m, P => wpE Φ a τ m fun x m1 => wpE Φ b τ m1 fun y m2 => match x, y with
    | .tup l, .tup k => P ((l.zip k).map fun p => .tup [p.1, p.2], none) m2
    | _, _ => False
end
end Ev
end
section
set_option linter.all false
set_option maxRecDepth 10000
/-! Ew4: what Ew3 wants is enough. -/
namespace Ev
open PySem PySem.Spec PyProof.Rows L2
theorem eqOp_int (m : Mem) (i j : Int) : eqOp m (.int i) (.int j) = some (decide (i = j)) := eqOp_enc (α := Int) (by decide) m i j
theorem asB_ok {x : T} {m : Mem} {P Q : Bool → Mem → Prop} (h : asB x m P) (k : ∀ b m, P b m → Q b m) : Runs (truth x m) Q := by
  unfold asB at h
  split at h
  · exact Runs.ret (k _ _ h)
  · exact h.elim
theorem wpSeq_ok {x : T} {m : Mem} {K : List T → Prop} (h : wpSeq x m K) : ∃ l, seqOf m x = some l ∧ K l := by
  unfold wpSeq at h
  split at h
  · exact ⟨_, rfl, h⟩
  · exact ⟨_, rfl, h⟩
  · obtain ⟨l, e, h⟩ := h
    exact ⟨l, by simp only [seqOf, e], h⟩
  · exact h.elim
theorem wpBin_ok {op : BOp} {x y : T} {m : Mem} {P : T → Mem → Prop} (h : wpBin op x y m P) : Runs (binop op x y m) P := by
  unfold wpBin at h
  split at h
  · exact Runs.ret h
  · exact Runs.ret h
  · exact w_guard.mpr ⟨h.1, Runs.ret h.2⟩
  · exact w_guard.mpr ⟨h.1, Runs.ret h.2⟩
  · exact w_guard.mpr ⟨decide_eq_true h.1, Runs.ret h.2⟩
  · exact Runs.ret h
  · exact w_guard.mpr ⟨h.1, Runs.ret h.2⟩
  · obtain ⟨t, m', e, h⟩ := h
    exact ⟨t, m', e, h⟩
theorem wpCmp_ok {op : COp} {x y : T} {m : Mem} {P : Bool → Prop} (h : wpCmp op x y m P) : ∃ b, cmpop op x y m = some b ∧ P b := by
  unfold wpCmp at h
  split at h
  · exact ⟨_, rfl, h⟩
  · exact ⟨_, rfl, h⟩
  · exact ⟨_, rfl, h⟩
  · exact ⟨_, rfl, h⟩
  · exact ⟨_, cmp_eq_enc (α := Int) (by decide) m _ _, h⟩
  · exact ⟨_, cmp_ne_enc (α := Int) (by decide) m _ _, h⟩
  · exact h
theorem wpIdx_ok {x y : T} {m : Mem} {P : T → Mem → Prop} (h : wpIdx x y m P) : Runs (idxop x y m) P := by
  unfold wpIdx at h
  split at h
  · obtain ⟨t, e, h⟩ := h
    refine ⟨t, m, ?_, h⟩
    simp only [idxop, e]; rfl
  · obtain ⟨t, e, h⟩ := h
    refine ⟨t, m, ?_, h⟩
    simp only [idxop, e]; rfl
  · obtain ⟨t, e, h⟩ := h
    exact ⟨t, m, e, h⟩
theorem wpSlc_ok {x : T} {lo hi : Option Int} {m : Mem} {P : T → Mem → Prop} (h : wpSlc x lo hi m P) : Runs (slcop x lo hi m) P := by
  unfold wpSlc at h
  split at h
  · exact Runs.ret h
  · exact Runs.ret h
  · obtain ⟨l, e, h⟩ := h
    simp only [slcop, e]
    exact Runs.ret h
  · exact h.elim
theorem wpBi_ok {b : Bi} {l : List T} {m : Mem} {P : T → Mem → Prop} (h : wpBi b l m P) : Runs (biop b l m) P := by
  unfold wpBi at h
  split at h
  · exact Runs.ret h
  · exact Runs.ret h
  · obtain ⟨l, e, h⟩ := h
    simp only [biop, biLen, e]
    exact Runs.ret h
  · exact Runs.ret h
  · exact Runs.ret h
  · exact Runs.ret h
  · exact Runs.ret h
  · exact Runs.ret h
  · obtain ⟨l, e, h⟩ := wpSeq_ok h
    simp only [biop, biTuple, e]
    exact Runs.ret h
  · obtain ⟨l, e, h⟩ := wpSeq_ok h
    simp only [biop, biList, e]
    exact Runs.ret h
  · obtain ⟨t, m', e, h⟩ := h
    exact ⟨t, m', e, h⟩
theorem wpBq_ok {b : Bq} {l : List T} {m : Mem} {P : T → Mem → Prop} (h : wpBq b l m P) : Runs (bqop b l m) P := by
  unfold wpBq at h
  split at h
  · exact Runs.ret h
  · exact Runs.ret h
  · obtain ⟨t, m', e, h⟩ := h
    exact ⟨t, m', e, h⟩
/-- evs of so many expressions gives so many values -/
theorem evs_num {Φ : Fns} : ∀ {es : CEs} {τ : Lo} {m m' : Mem} {l : List T}, es.plain = true → evs Φ es τ m = some (.ok l, m') → l.length = es.num
  | .nil, τ, m, m', l, _, h => by
    simp only [evs] at h
    cases h
    rfl
  | .cons s e r, τ, m, m', l, hp, h => by
    simp only [CEs.plain, Bool.and_eq_true, Bool.not_eq_true'] at hp
    obtain ⟨rfl, hp⟩ := hp
    simp only [evs] at h
    cases h1 : ev Φ e τ m with
    | none => rw [h1] at h; cases h
    | some z =>
      obtain ⟨z, m1⟩ := z
      cases z with
      | ex z => rw [h1] at h; cases h
      | ok x =>
        rw [h1] at h
        simp only [bnd_ok] at h
        cases h2 : evs Φ r τ m1 with
        | none => rw [h2] at h; cases h
        | some z =>
          obtain ⟨z, m2⟩ := z
          cases z with
          | ex z => rw [h2] at h; cases h
          | ok k =>
            rw [h2] at h
            simp only [bnd_ok] at h
            cases h
            rw [List.length_cons, evs_num hp h2]; rfl
theorem short_ok {Φ : Fns} {es : CEs} {τ : Lo} {m : Mem} {P : List T → Mem → Prop} (h : Runs (evs Φ es τ m) fun l m1 => yes es.short (P l m1) (small l.length = true ∧ P l m1)) : Runs (evs Φ es τ m) fun l m1 => small l.length = true ∧ P l m1 := by
  obtain ⟨l, m', e, h⟩ := h
  refine ⟨l, m', e, ?_⟩
  cases hs : es.short with
  | false => rw [hs] at h; exact h
  | true =>
    rw [hs] at h
    refine ⟨?_, h⟩
    simp only [CEs.short, Bool.and_eq_true] at hs
    rw [evs_num hs.1 e]
    exact decide_eq_true (Nat.le_trans (Nat.le_of_ble_eq_true hs.2) (by decide))
mutual
theorem wpE_ok {Φ : Fns} : ∀ {e : CE} {τ : Lo} {m : Mem} {P : T → Mem → Prop}, wpE Φ e τ m P → Runs (ev Φ e τ m) P
  | .var i, τ, m, P, h => by
    simp only [wpE] at h; simp only [ev]
    split at h
    · rename_i e
      try simp only [e]
      exact Runs.ret h
    · exact h.elim
  | .cst t, τ, m, P, h => by simp only [wpE] at h; simp only [ev]; exact Runs.ret h
  | .glob x t, τ, m, P, h => by simp only [wpE] at h; simp only [ev]; exact Runs.ret h
  | .bin op a b, τ, m, P, h => by
    simp only [wpE] at h; simp only [ev]
    exact (wpE_ok h).bnd fun x m1 h => (wpE_ok h).bnd fun y m2 h => wpBin_ok h
  | .neg a, τ, m, P, h => by
    simp only [wpE] at h; simp only [ev]
    refine (wpE_ok h).bnd fun x m1 h => ?_
    split at h
    · exact Runs.ret h
    · exact h.elim
  | .isN neg a, τ, m, P, h => by
    simp only [wpE] at h; simp only [ev]
    exact (wpE_ok h).bnd fun x m1 h => Runs.ret h
  | .revl a, τ, m, P, h => by
    simp only [wpE] at h; simp only [ev]
    refine (wpE_ok h).bnd fun x m1 h => ?_
    split at h
    · obtain ⟨l, e, h⟩ := h
      try simp only [e]
      exact Runs.ret h
    · exact Runs.ret h
    · exact h.elim
  | .nt a, τ, m, P, h => by
    simp only [wpE] at h; simp only [ev]
    exact (wpE_ok h).bnd fun x m1 h => (asB_ok h fun _ _ h => h).bnd fun b m2 h => Runs.ret h
  | .cmp op a b, τ, m, P, h => by
    simp only [wpE] at h; simp only [ev]
    refine (wpE_ok h).bnd fun x m1 h => (wpE_ok h).bnd fun y m2 h => ?_
    obtain ⟨k, e, h⟩ := wpCmp_ok h
    rw [e]
    exact Runs.ret h
  | .chain o1 o2 a b c, τ, m, P, h => by
    simp only [wpE] at h; simp only [ev]
    refine (wpE_ok h).bnd fun x m1 h => (wpE_ok h).bnd fun y m2 h => ?_
    obtain ⟨k, e, h⟩ := wpCmp_ok h
    rw [e]
    cases k with
    | true =>
      refine (wpE_ok (h.1 rfl)).bnd fun z m4 h => ?_
      obtain ⟨k, e, h⟩ := wpCmp_ok h
      rw [e]
      exact Runs.ret h
    | false => exact Runs.ret (h.2 rfl)
  | .and a b, τ, m, P, h => by
    simp only [wpE] at h; simp only [ev]
    refine (wpE_ok h).bnd fun x m1 h => (asB_ok h fun _ _ h => h).bnd fun k m2 h => ?_
    cases k with
    | true => exact wpE_ok (h.1 rfl)
    | false => exact Runs.ret (h.2 rfl)
  | .or a b, τ, m, P, h => by
    simp only [wpE] at h; simp only [ev]
    refine (wpE_ok h).bnd fun x m1 h => (asB_ok h fun _ _ h => h).bnd fun k m2 h => ?_
    cases k with
    | true => exact Runs.ret (h.1 rfl)
    | false => exact wpE_ok (h.2 rfl)
  | .ite c a b, τ, m, P, h => by
    simp only [wpE] at h; simp only [ev]
    refine (wpE_ok h).bnd fun x m1 h => (asB_ok h fun _ _ h => h).bnd fun k m2 h => ?_
    cases k with
    | true => exact wpE_ok (h.1 rfl)
    | false => exact wpE_ok (h.2 rfl)
  | .tup es, τ, m, P, h => by
    simp only [wpE] at h; simp only [ev]
    exact (short_ok (wpEs_ok h)).bnd fun l m1 h => w_guard.mpr ⟨h.1, Runs.ret h.2⟩
  | .mk q, τ, m, P, h => by
    simp only [wpE] at h; simp only [ev]
    exact (wpQ_ok h).bnd fun l m1 h => Runs.ret h
  | .idx a i, τ, m, P, h => by
    simp only [wpE] at h; simp only [ev]
    exact (wpE_ok h).bnd fun x m1 h => (wpE_ok h).bnd fun y m2 h => wpIdx_ok h
  | .slc a lo hi, τ, m, P, h => by
    simp only [wpE] at h; simp only [ev]
    exact (wpE_ok h).bnd fun x m1 h => (wpO_ok h).bnd fun l m2 h => (wpO_ok h).bnd fun y m2 h => wpSlc_ok h
  | .call k es, τ, m, P, h => by
    simp only [wpE] at h; simp only [ev]
    exact (wpEs_ok h).bnd fun l m1 h => h.out
  | .callv i es, τ, m, P, h => by
    simp only [wpE] at h; simp only [ev]
    split at h
    · rename_i e
      try simp only [e]
      exact (wpEs_ok h).bnd fun l m1 h => h.out
    · exact h.elim
  | .bi b es, τ, m, P, h => by
    simp only [wpE] at h; simp only [ev]
    exact (wpEs_ok h).bnd fun l m1 h => wpBi_ok h
  | .biq b q, τ, m, P, h => by
    simp only [wpE] at h; simp only [ev]
    exact (wpQ_ok h).bnd fun l m1 h => wpBq_ok h
  | .meth mt o es, τ, m, P, h => by
    simp only [wpE] at h; simp only [ev]
    refine (wpE_ok h).bnd fun x m1 h => w_guard.mpr ⟨h.1, (wpEs_ok h.2).bnd fun l m1 h => ?_⟩
    obtain ⟨t, m', e, h⟩ := h
    exact ⟨t, m', e, h⟩
  | .dnew tk, τ, m, P, h => by
    simp only [wpE] at h; simp only [ev]
    cases tk with
    | true => exact Runs.ret h
    | false => exact Runs.ret h
  | .ddisp ks es, τ, m, P, h => by
    simp only [wpE] at h; simp only [ev]
    refine (wpEs_ok h).bnd fun l m1 h => ?_
    rw [if_pos h.1]
    exact Runs.ret h.2
theorem wpEs_ok {Φ : Fns} : ∀ {e : CEs} {τ : Lo} {m : Mem} {P : List T → Mem → Prop}, wpEs Φ e τ m P → Runs (evs Φ e τ m) P
  | .nil, τ, m, P, h => by simp only [wpEs] at h; simp only [evs]; exact Runs.ret h
  | .cons star e r, τ, m, P, h => by
    simp only [wpEs] at h; simp only [evs]
    refine (wpE_ok h).bnd fun x m1 h => ?_
    cases star with
    | false => exact (wpEs_ok h).bnd fun l m2 h => Runs.ret h
    | true =>
      obtain ⟨xs, e, h⟩ := wpSeq_ok h
      try simp only [e]
      exact (wpEs_ok h).bnd fun l m2 h => Runs.ret h
theorem wpO_ok {Φ : Fns} : ∀ {e : CO} {τ : Lo} {m : Mem} {P : Option Int → Mem → Prop}, wpO Φ e τ m P → Runs (evo Φ e τ m) P
  | .none, τ, m, P, h => by simp only [wpO] at h; simp only [evo]; exact Runs.ret h
  | .some e, τ, m, P, h => by
    simp only [wpO] at h; simp only [evo]
    refine (wpE_ok h).bnd fun x m1 h => ?_
    split at h
    · exact Runs.ret h
    · exact h.elim
theorem wpQ_ok {Φ : Fns} : ∀ {e : CQ} {τ : Lo} {m : Mem} {P : List T → Mem → Prop}, wpQ Φ e τ m P → Runs (evq Φ e τ m) P
  | .lst es, τ, m, P, h => by
    simp only [wpQ] at h; simp only [evq]
    exact (short_ok (wpEs_ok h)).bnd fun l m1 h => w_guard.mpr ⟨h.1, Runs.ret h.2⟩
  | .lc elt tg it ifs own, τ, m, P, h => by
    simp only [wpQ] at h; simp only [evq]
    exact (wpI_ok h).bnd fun p m1 h => h.out.bnd fun l m2 h => w_guard.mpr ⟨h.1, Runs.ret h.2⟩
  | .lcd elt tg i ifs own, τ, m, P, h => by
    simp only [wpQ] at h
    exact h.out
  | .rev q, τ, m, P, h => by
    simp only [wpQ] at h; simp only [evq]
    exact (wpQ_ok h).bnd fun p m1 h => Runs.ret h
  | .sorted q, τ, m, P, h => by
    simp only [wpQ] at h; simp only [evq]
    refine (wpQ_ok h).bnd fun p m1 h => ?_
    obtain ⟨r, e, h⟩ := h
    rw [e]
    exact Runs.ret h
  | .cat a b, τ, m, P, h => by
    simp only [wpQ] at h; simp only [evq]
    exact (wpQ_ok h).bnd fun p m1 h => (wpQ_ok h).bnd fun p m1 h => w_guard.mpr ⟨h.1, Runs.ret h.2⟩
theorem wpI_ok {Φ : Fns} : ∀ {e : CI} {τ : Lo} {m : Mem} {P : List T × Stay → Mem → Prop}, wpI Φ e τ m P → Runs (evi Φ e τ m) P
  | .seq e, τ, m, P, h => by
    simp only [wpI] at h; simp only [evi]
    refine (wpE_ok h).bnd fun x m1 h => ?_
    obtain ⟨l, e, h⟩ := wpSeq_ok h
    simp only [e]
    exact Runs.ret h
  | .q q, τ, m, P, h => by
    simp only [wpI] at h; simp only [evi]
    exact (wpQ_ok h).bnd fun x m1 h => Runs.ret h
  | .rng a, τ, m, P, h => by
    simp only [wpI] at h; simp only [evi]
    refine (wpE_ok h).bnd fun x m1 h => ?_
    split at h
    · refine w_guard.mpr ⟨?_, Runs.ret h.2⟩
      rw [Bool.and_eq_true]
      exact ⟨decide_eq_true h.1.1, decide_eq_true h.1.2⟩
    · exact h.elim
  | .rng2 a b, τ, m, P, h => by
    simp only [wpI] at h; simp only [evi]
    refine (wpE_ok h).bnd fun x m1 h => (wpE_ok h).bnd fun y m2 h => ?_
    split at h
    · refine w_guard.mpr ⟨?_, Runs.ret h.2⟩
      simp only [Bool.and_eq_true, decide_eq_true_eq]
      exact ⟨⟨⟨h.1.1, h.1.2.1⟩, h.1.2.2.1⟩, h.1.2.2.2⟩
    · exact h.elim
  | .rngd a b, τ, m, P, h => by
    simp only [wpI] at h; simp only [evi]
    refine (wpE_ok h).bnd fun x m1 h => (wpE_ok h).bnd fun y m2 h => ?_
    split at h
    · refine w_guard.mpr ⟨?_, Runs.ret h.2⟩
      simp only [Bool.and_eq_true, decide_eq_true_eq]
      exact ⟨⟨⟨h.1.1, h.1.2.1⟩, h.1.2.2.1⟩, h.1.2.2.2⟩
    · exact h.elim
  | .zip a b, τ, m, P, h => by
    simp only [wpI] at h; simp only [evi]
    refine (wpE_ok h).bnd fun x m1 h => (wpE_ok h).bnd fun y m2 h => ?_
    split at h
    · exact Runs.ret h
    · exact h.elim
end
/-! ### statements -/
def wpSet (o i v : T) (m : Mem) (K : Mem → Prop) : Prop := ∃ m', setop o i v m = some m' ∧ K m'
def wpT (x : Option Lo) (K : Lo → Prop) : Prop := match x with
  | some τ => K τ
  | none => False
theorem wpT_ok {x : Option Lo} {m : Mem} {P : SO → Mem → Prop} (h : wpT x fun τ => P (.nx τ) m) : RunsT (match (motive := Option Lo → Sm) x with
    | some τ1 => some (.nx τ1, m)
    | none => none) P := by
  cases x with
  | some τ => exact w_nx.mpr h
  | none => exact h.elim
mutual
def wpS (Φ : Fns) (N : Nat) : CS → Lo → Mem → (SO → Mem → Prop) → Prop
  | .ex e, τ, m, P => wpE Φ e τ m fun _ m1 => P (.nx τ) m1
  | .asg tg e, τ, m, P => wpE Φ e τ m fun x m1 => wpT (asgT tg x τ) fun τ1 => P (.nx τ1) m1
  | .asgq i q, τ, m, P => wpQ Φ q τ m fun l m1 => wpT (asgT (.name i) (.ref m1.length) τ) fun τ1 => P (.nx τ1) (m1 ++ [.lst l])
  | .par is es, τ, m, P => wpEs Φ es τ m fun l m1 => wpT (setAll is l τ) fun τ1 => P (.nx τ1) m1
  | .sub o i e, τ, m, P => wpE Φ e τ m fun v m1 => wpE Φ o τ m1 fun x m2 => wpE Φ i τ m2 fun y m3 => wpSet x y v m3 fun m4 => P (.nx τ) m4
  | .aug i op e, τ, m, P => match τ[i]? with
    | some (some x) => wpE Φ e τ m fun y m1 => CallW (augop op x y m1) fun z m2 => P (.nx (τ.set i (some z))) m2
    | _ => False
  | .ret e, τ, m, P => wpE Φ e τ m fun x m1 => P (.ret x) m1
  | .retn, τ, m, P => P (.ret .non) m
  | .ife c a b, τ, m, P => wpE Φ c τ m fun x m1 => asB x m1 fun k m2 => (k = true → wpSs Φ N a τ m2 P) ∧ (k = false → wpSs Φ N b τ m2 P)
  | .whl c b, τ, m, P => LoopW (whileLoop (fun τ m => bnd (ev Φ c τ m) fun x m1 => truth x m1) (fun τ m => evSs Φ N b τ m) N τ m) P
  | .for_ tg it b, τ, m, P => wpI Φ it τ m fun p m1 => LoopW (forLoop (fun τ m => evSs Φ N b τ m) tg p.2 p.1 τ m1) P
  | .brk, τ, m, P => P (.brk τ) m
  | .cnt, τ, m, P => P (.cnt τ) m
  | .pass, τ, m, P => P (.nx τ) m
  | .never, _, _, _ => False
def wpSs (Φ : Fns) (N : Nat) : CSs → Lo → Mem → (SO → Mem → Prop) → Prop
  | .nil, τ, m, P => P (.nx τ) m
  | .cons s r, τ, m, P => wpS Φ N s τ m (nxt P fun τ m => wpSs Φ N r τ m P)
end
theorem RunsT.bnd {α : Type} {τ : Lo} {x : Rm α} {f : α → Mem → Sm} {P : α → Mem → Prop} {Q : SO → Mem → Prop} (h : Runs x P) (k : ∀ a m, P a m → RunsT (f a m) Q) : RunsT (sbnd τ x f) Q := w_sbnd.mpr (h.imp k)
mutual
theorem wpS_ok {Φ : Fns} {N : Nat} : ∀ {s : CS} {τ : Lo} {m : Mem} {P : SO → Mem → Prop}, wpS Φ N s τ m P → RunsT (evS Φ N s τ m) P
  | .ex e, τ, m, P, h => by
    simp only [wpS] at h; simp only [evS]
    exact RunsT.bnd (wpE_ok h) fun _ m1 h => w_nx.mpr h
  | .asg tg e, τ, m, P, h => by
    simp only [wpS] at h; simp only [evS]
    exact RunsT.bnd (wpE_ok h) fun x m1 h => wpT_ok h
  | .asgq i q, τ, m, P, h => by
    simp only [wpS] at h; simp only [evS]
    exact RunsT.bnd (wpQ_ok h) fun x m1 h => wpT_ok h
  | .par is es, τ, m, P, h => by
    simp only [wpS] at h; simp only [evS]
    exact RunsT.bnd (wpEs_ok h) fun x m1 h => wpT_ok h
  | .sub o i e, τ, m, P, h => by
    simp only [wpS] at h; simp only [evS]
    refine RunsT.bnd (wpE_ok h) fun v m1 h => RunsT.bnd (wpE_ok h) fun x m2 h => RunsT.bnd (wpE_ok h) fun y m3 h => ?_
    obtain ⟨m4, e, h⟩ := h
    rw [e]
    exact w_nx.mpr h
  | .aug i op e, τ, m, P, h => by
    simp only [wpS] at h; simp only [evS]
    split at h
    · rename_i e
      try simp only [e]
      exact RunsT.bnd (wpE_ok h) fun v m1 h => RunsT.bnd h.out fun x m2 h => w_nx.mpr h
    · exact h.elim
  | .ret e, τ, m, P, h => by
    simp only [wpS] at h; simp only [evS]
    exact RunsT.bnd (wpE_ok h) fun v m1 h => w_rt.mpr h
  | .retn, τ, m, P, h => by simp only [wpS] at h; simp only [evS]; exact w_rt.mpr h
  | .ife c a b, τ, m, P, h => by
    simp only [wpS] at h; simp only [evS]
    refine RunsT.bnd (wpE_ok h) fun x m1 h => RunsT.bnd (asB_ok h fun _ _ h => h) fun k m2 h => ?_
    cases k with
    | true => exact wpSs_ok (h.1 rfl)
    | false => exact wpSs_ok (h.2 rfl)
  | .whl c b, τ, m, P, h => by simp only [wpS] at h; simp only [evS]; exact h.out
  | .for_ tg it b, τ, m, P, h => by
    simp only [wpS] at h; simp only [evS]
    exact RunsT.bnd (wpI_ok h) fun p m1 h => h.out
  | .brk, τ, m, P, h => by simp only [wpS] at h; simp only [evS]; exact w_bk.mpr h
  | .cnt, τ, m, P, h => by simp only [wpS] at h; simp only [evS]; exact w_ct.mpr h
  | .pass, τ, m, P, h => by simp only [wpS] at h; simp only [evS]; exact w_nx.mpr h
  | .never, τ, m, P, h => by simp only [wpS] at h
theorem wpSs_ok {Φ : Fns} {N : Nat} : ∀ {s : CSs} {τ : Lo} {m : Mem} {P : SO → Mem → Prop}, wpSs Φ N s τ m P → RunsT (evSs Φ N s τ m) P
  | .nil, τ, m, P, h => by simp only [wpSs] at h; exact w_nil.mpr h
  | .cons s r, τ, m, P, h => by
    simp only [wpSs] at h
    refine w_cons.mpr ?_
    obtain ⟨o, m', e, n, q⟩ := wpS_ok h
    refine ⟨o, m', e, n, ?_⟩
    cases o with
    | nx τ1 => exact wpSs_ok q
    | ret t => exact q
    | brk τ => exact q
    | cnt τ => exact q
    | ex a b => exact q
end
/-- a def -/
theorem wpD {Φ : Fns} {N : Nat} {d : CD} {ts : List T} {m : Mem} {P : T → Mem → Prop} (h : ts.length = d.np) (k : wpSs Φ N d.body (ts.map some ++ List.replicate (d.nn - d.np) none) m (dend P)) : Runs (runD Φ N d ts m) P := w_run h (wpSs_ok k)
end Ev
end
section
set_option linter.all false
set_option maxRecDepth 10000
/-! Ew5: loops by their wishes. -/
namespace Ev
open PySem PySem.Spec PyProof.Rows L2
def wpTst (Φ : Fns) (ifs : CO) (τ : Lo) (m : Mem) (K : Bool → Mem → Prop) : Prop := match ifs with
  | .none => K true m
  | .some e => wpE Φ e τ m fun x m1 => asB x m1 K
theorem wpTst_ok {Φ : Fns} {ifs : CO} {τ : Lo} {m : Mem} {K : Bool → Mem → Prop} (h : wpTst Φ ifs τ m K) : Runs (evt Φ ifs τ m) K := by
  cases ifs with
  | none => simp only [evt]; exact Runs.ret h
  | some e => simp only [evt]; exact (wpE_ok h).bnd fun x m1 h => asB_ok h fun _ _ h => h
/-- a comprehension over typed items that leaves the memory -/
theorem lc_wp {α β : Type} [En α] [En β] {Φ : Fns} {elt : CE} {ifs : CO} {tg : CT} {st : Stay} {τ0 : Lo} {m : Mem} (g : α → Option β) {l : List α} {P : List T → Mem → Prop} (hst : st.ok m = true)
    (h : ∀ a ∈ l, wpT (asgT tg (En.enc a) τ0) fun τ => wpTst Φ ifs τ m fun b m1 => (b = (g a).isSome ∧ m1 = m) ∧ ∀ x, g a = some x → wpE Φ elt τ m fun t m2 => t = En.enc x ∧ m2 = m)
    (hp : small (l.filterMap g).length = true ∧ P ((l.filterMap g).map En.enc) m) : LcW (lcLoop (fun τ m => ev Φ elt τ m) (fun τ m => evt Φ ifs τ m) tg st τ0 (l.map En.enc) m) P := by
  refine ⟨_, m, lc_enc hst g fun a ha => ?_, by rw [List.length_map]; exact hp.1, hp.2⟩
  have := h a ha
  unfold wpT at this
  split at this
  · rename_i τ e
    obtain ⟨b, m1, e1, ⟨rfl, rfl⟩, h2⟩ := wpTst_ok this
    refine ⟨τ, e, fun x hx => ?_, fun hx => ?_⟩
    · obtain ⟨t, m2, e2, rfl, rfl⟩ := wpE_ok (h2 x hx)
      rw [hx] at e1
      exact ⟨e1, e2⟩
    · rw [hx] at e1
      exact e1
  · exact this.elim
/-- a comprehension with an invariant -/
theorem lc_inv {Φ : Fns} {elt : CE} {ifs : CO} {tg : CT} {st : Stay} {τ0 : Lo} {l : List T} {m : Mem} {P : List T → Mem → Prop} (I : Nat → List T → Mem → Prop) (h0 : I 0 [] m)
    (hst : ∀ i r m, i ≤ l.length → I i r m → st.ok m = true)
    (hs : ∀ i t r m, l[i]? = some t → I i r m → wpT (asgT tg t τ0) fun τ => wpTst Φ ifs τ m fun b m1 => (b = true → wpE Φ elt τ m1 fun x m2 => I (i + 1) (r ++ [x]) m2) ∧ (b = false → I (i + 1) r m1))
    (hd : ∀ r m, I l.length r m → small r.length = true ∧ P r m) : LcW (lcLoop (fun τ m => ev Φ elt τ m) (fun τ m => evt Φ ifs τ m) tg st τ0 l m) P := by
  suffices key : ∀ (k i : Nat) (r : List T) (m : Mem), k = l.length - i → i ≤ l.length → I i r m → ∃ r2 m2, lcLoop (fun τ m => ev Φ elt τ m) (fun τ m => evt Φ ifs τ m) tg st τ0 (l.drop i) m = some (.ok r2, m2) ∧ I l.length (r ++ r2) m2 by
    obtain ⟨r2, m2, e, h⟩ := key l.length 0 [] m (by simp) (Nat.zero_le _) h0
    obtain ⟨p, q⟩ := hd _ _ h
    exact ⟨_, _, by simpa using e, p, q⟩
  intro k
  induction k with
  | zero =>
    intro i r m hk hi h
    have e : i = l.length := by omega
    subst e
    rw [List.drop_length]
    unfold lcLoop
    rw [hst _ _ m hi h]
    exact ⟨[], m, rfl, by rw [List.append_nil]; exact h⟩
  | succ k ih =>
    intro i r m hk hi h
    have hlt : i < l.length := by omega
    rw [List.drop_eq_getElem_cons hlt]
    unfold lcLoop
    rw [hst _ _ m hi h, guard'_true]
    have := hs i l[i] r m (List.getElem?_eq_getElem hlt) h
    unfold wpT at this
    split at this
    · rename_i τ e
      obtain ⟨b, m1, e1, h1, h2⟩ := wpTst_ok this
      simp only [e, e1]
      cases b with
      | true =>
        obtain ⟨x, m2, e2, h3⟩ := wpE_ok (h1 rfl)
        obtain ⟨r2, m3, e3, h4⟩ := ih (i + 1) _ m2 (by omega) hlt h3
        simp only [e2, e3]
        exact ⟨_, _, rfl, by rw [List.append_assoc] at h4; exact h4⟩
      | false =>
        obtain ⟨r2, m3, e3, h4⟩ := ih (i + 1) _ m1 (by omega) hlt (h2 rfl)
        simp only [e3]
        exact ⟨_, _, rfl, h4⟩
    · exact this.elim
/-- a for loop with an invariant, each turn going on -/
theorem for_wp {Φ : Fns} {N : Nat} {body : CSs} {tg : CT} {st : Stay} {l : List T} {P : SO → Mem → Prop} {τ : Lo} {m : Mem} (I : Nat → Lo → Mem → Prop) (h0 : I 0 τ m) (hst : ∀ i τ m, i ≤ l.length → I i τ m → st.ok m = true)
    (hs : ∀ i t τ m, l[i]? = some t → I i τ m → wpT (asgT tg t τ) fun τ1 => wpSs Φ N body τ1 m fun o m' => match o with
      | .nx τ' => I (i + 1) τ' m'
      | .cnt τ' => I (i + 1) τ' m'
      | _ => False) (hd : ∀ τ m, I l.length τ m → P (.nx τ) m) :
    LoopW (forLoop (fun τ m => evSs Φ N body τ m) tg st l τ m) P := by
  suffices key : ∀ (k i : Nat) (τ : Lo) (m : Mem), k = l.length - i → i ≤ l.length → I i τ m → RunsT (forLoop (fun τ m => evSs Φ N body τ m) tg st (l.drop i) τ m) P by
    exact ⟨by simpa using key l.length 0 τ m (by simp) (Nat.zero_le _) h0⟩
  intro k
  induction k with
  | zero =>
    intro i τ m hk hi h
    have e : i = l.length := by omega
    subst e
    rw [List.drop_length]
    unfold forLoop
    rw [if_pos (hst _ τ m hi h)]
    exact w_nx.mpr (hd τ m h)
  | succ k ih =>
    intro i τ m hk hi h
    have hlt : i < l.length := by omega
    rw [List.drop_eq_getElem_cons hlt]
    unfold forLoop
    rw [if_pos (hst i τ m hi h)]
    have := hs i l[i] τ m (List.getElem?_eq_getElem hlt) h
    unfold wpT at this
    split at this
    · rename_i τ1 e
      obtain ⟨o, m', e2, n, h'⟩ := wpSs_ok this
      simp only [e, e2]
      cases o with
      | nx τ' => exact ih (i + 1) τ' m' (by omega) hlt h'
      | cnt τ' => exact ih (i + 1) τ' m' (by omega) hlt h'
      | ret t => exact h'.elim
      | brk t => exact h'.elim
      | ex a b => exact h'.elim
    · exact this.elim
/-- a while loop with an invariant and a measure -/
theorem whl_wp {Φ : Fns} {N : Nat} {c : CE} {body : CSs} {P : SO → Mem → Prop} {τ : Lo} {m : Mem} (I : Nat → Lo → Mem → Prop) (k : Nat) (hk : k < N) (h0 : I k τ m)
    (hs : ∀ k τ m, I k τ m → wpE Φ c τ m fun x m1 => asB x m1 fun b m2 => (b = true → wpSs Φ N body τ m2 fun o m' => match o with
      | .nx τ' => ∃ j, j < k ∧ I j τ' m'
      | .cnt τ' => ∃ j, j < k ∧ I j τ' m'
      | _ => False) ∧ (b = false → P (.nx τ) m2)) :
    LoopW (whileLoop (fun τ m => bnd (ev Φ c τ m) fun x m1 => truth x m1) (fun τ m => evSs Φ N body τ m) N τ m) P := by
  suffices key : ∀ (n k : Nat) (τ : Lo) (m : Mem), k < n → I k τ m → RunsT (whileLoop (fun τ m => bnd (ev Φ c τ m) fun x m1 => truth x m1) (fun τ m => evSs Φ N body τ m) n τ m) P by
    exact ⟨key N k τ m hk h0⟩
  intro n
  induction n with
  | zero => intro k τ m hk h; omega
  | succ n ih =>
    intro k τ m hk h
    unfold whileLoop
    refine w_sbnd.mpr ((wpE_ok (hs k τ m h)).bnd fun x m1 h => asB_ok h fun b m2 h => ?_)
    cases b with
    | false => exact w_nx.mpr (h.2 rfl)
    | true =>
      obtain ⟨o, m', e2, n2, h'⟩ := wpSs_ok (h.1 rfl)
      simp only [↓reduceIte, e2]
      cases o with
      | nx τ' => obtain ⟨j, hj, h'⟩ := h'; exact ih j τ' m' (by omega) h'
      | cnt τ' => obtain ⟨j, hj, h'⟩ := h'; exact ih j τ' m' (by omega) h'
      | ret t => exact h'.elim
      | brk t => exact h'.elim
      | ex a b => exact h'.elim
end Ev
end
section
set_option linter.all false
set_option maxRecDepth 10000
/-! Ew6: small lemmas at the halts. -/
namespace Ev
open PySem PySem.Spec PyProof.Rows L2
theorem wpSeq_of {t : T} {m : Mem} {l : List T} {K : List T → Prop} (h : seqOf m t = some l) (k : K l) : wpSeq t m K := by
  unfold seqOf at h
  unfold wpSeq
  split at h
  · cases h; exact k
  · cases h; exact k
  · split at h
    · rename_i e
      cases h
      exact ⟨_, e, k⟩
    · cases h
  · cases h
theorem MO_beq_lst (l : List T) : MO.beq (.lst l) (.lst l) = true := T.beqs_self l
theorem pre_get {m m' : Mem} {n : Nat} {o : MO} (p : m <+: m') (h : m[n]? = some o) : m'[n]? = some o := by
  obtain ⟨k, rfl⟩ := p
  have := (List.getElem?_eq_some_iff.mp h).1
  rw [List.getElem?_append_left this]
  exact h
theorem seq_pre {m m' : Mem} {t : T} {l : List T} (p : m <+: m') (h : seqOf m t = some l) : seqOf m' t = some l := by
  unfold seqOf at h ⊢
  split at h
  · exact h
  · exact h
  · split at h
    · rename_i e
      simp only [pre_get p e]
      exact h
    · cases h
  · cases h
theorem stay_pre {m m' : Mem} {t : T} {l : List T} (p : m <+: m') (h : seqOf m t = some l) : (stayOf m t).ok m' = true := by
  unfold seqOf at h
  split at h
  · rfl
  · rfl
  · split at h
    · rename_i e
      simp only [stayOf, e, Option.map_some, Stay.ok, pre_get p e, MO_beq_lst]
    · cases h
  · cases h
theorem intsOf_enc (l : List Int) : intsOf (l.map En.enc) = some l := by
  induction l with
  | nil => rfl
  | cons a l ih => rw [List.map_cons]; show (intsOf (l.map En.enc)).map (a :: ·) = _; rw [ih]; rfl
theorem sum_enc (l : List Int) (m : Mem) : bqop .sum (l.map En.enc) m = some (.ok (.int l.sum), m) := by
  unfold bqop
  simp only [intsOf_enc]; rfl
theorem cut1 {a : T} {l : List T} : cutT (a :: l) (some 1) none = l := by
  unfold cutT
  have e1 : HT.sIx (a :: l).length 0 (some 1) = 1 := by
    simp [HT.sIx]
  have e2 : HT.sIx (a :: l).length (a :: l).length none = l.length + 1 := by
    simp [HT.sIx]
  rw [e1, e2]
  simp
theorem fm_filter {α : Type} (p : α → Prop) [DecidablePred p] (l : List α) : (l.filterMap fun a => if p a then some a else none) = l.filter fun a => decide (p a) := by
  induction l with
  | nil => rfl
  | cons a l ih => by_cases h : p a <;> simp [h, ih]
theorem fm_map {α β : Type} (p : α → Prop) [DecidablePred p] (f : α → β) (l : List α) : (l.filterMap fun a => if p a then some (f a) else none) = (l.filter fun a => decide (p a)).map f := by
  induction l with
  | nil => rfl
  | cons a l ih => by_cases h : p a <;> simp [h, ih]
end Ev
end
section
set_option linter.all false
set_option maxRecDepth 10000
/-! Ew7: comprehensions over dicts, sorting. -/
namespace Ev
open PySem PySem.Spec PyProof.Rows L2
theorem lcLoop_map {α : Type} {elt : Lo → Mem → Rm T} {tst : Lo → Mem → Rm Bool} {tg : CT} {st : Stay} {τ0 : Lo} {m : Mem} (hst : st.ok m = true) (f : α → T) (g : α → Option T) {l : List α}
    (h : ∀ a ∈ l, ∃ τ, asgT tg (f a) τ0 = some τ ∧ (∀ x, g a = some x → tst τ m = some (.ok true, m) ∧ elt τ m = some (.ok x, m)) ∧ (g a = none → tst τ m = some (.ok false, m))) :
    lcLoop elt tst tg st τ0 (l.map f) m = some (.ok (l.filterMap g), m) := by
  induction l with
  | nil => show lcLoop elt tst tg st τ0 [] m = _; unfold lcLoop; rw [hst]; rfl
  | cons a l ih =>
    obtain ⟨τ, h1, h2, h3⟩ := h a (List.mem_cons_self ..)
    have ih := ih fun a ha => h a (List.mem_cons_of_mem _ ha)
    rw [List.map_cons]
    unfold lcLoop
    rw [hst, guard'_true, h1]
    cases e : g a with
    | none => simp only [h3 e, ih, List.filterMap_cons, e]
    | some x =>
      obtain ⟨k1, k2⟩ := h2 x e
      simp only [k1, k2, ih, List.filterMap_cons, e]
      rfl
theorem lcLoop_wp {α : Type} {Φ : Fns} {elt : CE} {ifs : CO} {tg : CT} {st : Stay} {τ0 : Lo} {m : Mem} (f : α → T) (g : α → Option T) {l : List α} (hst : st.ok m = true)
    (h : ∀ a ∈ l, wpT (asgT tg (f a) τ0) fun τ => wpTst Φ ifs τ m fun b m1 => (b = (g a).isSome ∧ m1 = m) ∧ ∀ x, g a = some x → wpE Φ elt τ m fun t m2 => t = x ∧ m2 = m) :
    lcLoop (fun τ m => ev Φ elt τ m) (fun τ m => evt Φ ifs τ m) tg st τ0 (l.map f) m = some (.ok (l.filterMap g), m) := by
  refine lcLoop_map hst f g fun a ha => ?_
  have := h a ha
  unfold wpT at this
  split at this
  · rename_i τ e
    obtain ⟨b, m1, e1, ⟨rfl, rfl⟩, h2⟩ := wpTst_ok this
    refine ⟨τ, e, fun x hx => ?_, fun hx => ?_⟩
    · obtain ⟨t, m2, e2, rfl, rfl⟩ := wpE_ok (h2 x hx)
      rw [hx] at e1
      exact ⟨e1, e2⟩
    · rw [hx] at e1
      exact e1
  · exact this.elim
/-- a comprehension over items told by f that leaves the memory -/
theorem lc_map {α : Type} {Φ : Fns} {elt : CE} {ifs : CO} {tg : CT} {st : Stay} {τ0 : Lo} {m : Mem} (f : α → T) (g : α → Option T) {l : List α} {P : List T → Mem → Prop} (hst : st.ok m = true)
    (h : ∀ a ∈ l, wpT (asgT tg (f a) τ0) fun τ => wpTst Φ ifs τ m fun b m1 => (b = (g a).isSome ∧ m1 = m) ∧ ∀ x, g a = some x → wpE Φ elt τ m fun t m2 => t = x ∧ m2 = m)
    (hp : small (l.filterMap g).length = true ∧ P (l.filterMap g) m) : LcW (lcLoop (fun τ m => ev Φ elt τ m) (fun τ m => evt Φ ifs τ m) tg st τ0 (l.map f) m) P :=
  ⟨_, m, lcLoop_wp f g hst h, hp.1, hp.2⟩
theorem kvtBeq_self : ∀ l : List (List Key × T), kvtBeq l l = true
  | [] => rfl
  | a :: l => by simp [kvtBeq, T.beq_self, kvtBeq_self l]
theorem set_back {m : Mem} {n : Nat} {o o' : MO} (h : m[n]? = some o) : (m.set n o').set n o = m := by
  rw [List.set_set]
  refine List.ext_getElem? fun k => ?_
  by_cases e : n = k
  · subst e
    rw [List.getElem?_set_self (List.getElem?_eq_some_iff.mp h).1, h]
  · rw [List.getElem?_set_ne e]
/-- a comprehension over a dict's tuple keys -/
theorem lcd_wp {α : Type} {Φ : Fns} {elt : CE} {ifs : CO} {tg : CT} {i n : Nat} {own : List Nat} {τ : Lo} {m : Mem} {P : List T → Mem → Prop} {kvs : List (List Key × T)} {l : List α} (f : α → T) (g : α → Option T)
    (hi : τ[i]? = some (some (.ref n))) (hm : m[n]? = some (.dT false kvs)) (hk : (kvs.map fun kv => T.tup (kv.1.map kT)) = l.map f)
    (h : ∀ a ∈ l, wpT (asgT tg (f a) (wipeT τ own)) fun τ => wpTst Φ ifs τ (m.set n (.dT true kvs)) fun b m1 => (b = (g a).isSome ∧ m1 = m.set n (.dT true kvs)) ∧ ∀ x, g a = some x → wpE Φ elt τ (m.set n (.dT true kvs)) fun t m2 => t = x ∧ m2 = m.set n (.dT true kvs))
    (hp : small (l.filterMap g).length = true ∧ P (l.filterMap g) m) : CallW (evq Φ (.lcd elt tg i ifs own) τ m) P := by
  have hl := (List.getElem?_eq_some_iff.mp hm).1
  have st : Stay.ok (some (n, .dT true kvs)) (m.set n (.dT true kvs)) = true := by
    simp only [Stay.ok, List.getElem?_set_self hl, MO.beq, kvtBeq_self, beq_self_eq_true, Bool.and_self]
  have e := lcLoop_wp (Φ := Φ) (elt := elt) (ifs := ifs) (tg := tg) (st := some (n, .dT true kvs)) (τ0 := wipeT τ own) f g st h
  refine ⟨l.filterMap g, m, ?_, hp.2⟩
  simp only [evq, hi, hm, hk, e, hp.1, guard'_true, set_back hm]
  rfl
theorem idx_dT {m : Mem} {n : Nat} {lk : Bool} {kvs : List (List Key × T)} {l : List T} {k : List Key} {t : T} (h : m[n]? = some (.dT lk kvs)) (hk : keysOf l = some k) (hl : look kvs k = some t) : idxop (.ref n) (.tup l) m = some (.ok t, m) := by
  simp only [idxop, h, dgetOp, hk, Option.map_some, hl]
  rfl
theorem get2_dT {m : Mem} {n : Nat} {lk : Bool} {kvs : List (List Key × T)} {l : List T} {k : List Key} {d : T} (h : m[n]? = some (.dT lk kvs)) (hk : keysOf l = some k) : methop .get2 (.ref n) [.tup l, d] m = some (.ok ((look kvs k).getD d), m) := by
  simp only [methop, mtGet2, dgetOp, h, hk, Option.map_some]
  rfl
theorem set_dT {m : Mem} {n : Nat} {kvs : List (List Key × T)} {l : List T} {k : List Key} {v : T} (h : m[n]? = some (.dT false kvs)) (hk : keysOf l = some k) (hs : kvs.length ≤ 16000000) : setop (.ref n) (.tup l) v m = some (m.set n (.dT false (put kvs k v))) := by
  simp only [setop, h, hk, small, hs, decide_true, ↓reduceIte]
theorem mty_get2T {m : Mem} {n : Nat} {lk : Bool} {kvs : List (List Key × T)} (h : m[n]? = some (.dT lk kvs)) : mtyOk .get2 (.ref n) m = true := by
  simp only [mtyOk, h]
/-- sorting pairs whose first members tell them apart -/
theorem sort_pairs {α β : Type} [En β] {m : Mem} {kv : List α} (s : α → Int) (v : α → β) (r : α → α → Bool) (hd : En.dp β ≤ 50) (hal : ∀ a b, PySem.W.alike (toPy (En.enc (v a))) (toPy (En.enc (v b))) = true)
    (hr : ∀ a ∈ kv, ∀ b ∈ kv, r a b = decide (s a ≤ s b)) (hi : ∀ a ∈ kv, ∀ b ∈ kv, s a = s b → v a = v b) (hl : kv.length ≤ 16000000) :
    sortOp (kv.map fun a => T.tup [.int (s a), En.enc (v a)]) m = some ((kv.mergeSort r).map fun a => T.tup [.int (s a), En.enc (v a)]) := by
  have dp : ∀ a, deep m (T.tup [.int (s a), En.enc (v a)]) = some (T.tup [.int (s a), En.enc (v a)]) := fun a => En.pu (rfN m 4) (s a, v a)
  have en : ∀ a, encT m (T.tup [.int (s a), En.enc (v a)]) = .tuple [.int (s a), toPy (En.enc (v a))] := fun a => by
    unfold encT
    rw [dp]; rfl
  have al : ∀ a b, PySem.W.alike (PyData.tuple [.int (s a), toPy (En.enc (v a))]) (.tuple [.int (s b), toPy (En.enc (v b))]) = true := fun a b => by
    simp [PySem.W.alike, PySem.W.alikeAll, hal]
  have c1 : ((kv.map fun a => T.tup [.int (s a), En.enc (v a)]).all fun t => (deep m t).isSome && decide (PyData.depth (encT m t) ≤ 60)) = true := by
    rw [List.all_eq_true]
    intro t ht
    obtain ⟨a, _, rfl⟩ := List.mem_map.mp ht
    rw [dp, en]
    have := En.dep (α := Int × β) (s a, v a)
    have e : (toPy (En.enc (s a, v a))) = .tuple [.int (s a), toPy (En.enc (v a))] := rfl
    rw [e] at this
    have h2 : En.dp (Int × β) = max 0 (En.dp β) + 1 := rfl
    simp only [Option.isSome_some, Bool.true_and, decide_eq_true_eq]
    omega
  have c2 : ((kv.map fun a => T.tup [.int (s a), En.enc (v a)]).all fun t => (kv.map fun a => T.tup [.int (s a), En.enc (v a)]).all fun u => PySem.W.alike (encT m t) (encT m u)) = true := by
    rw [List.all_eq_true]
    intro t ht
    obtain ⟨a, _, rfl⟩ := List.mem_map.mp ht
    rw [List.all_eq_true]
    intro u hu
    obtain ⟨b, _, rfl⟩ := List.mem_map.mp hu
    rw [en, en]
    exact al a b
  have c3 : sortableT m (kv.map fun a => T.tup [.int (s a), En.enc (v a)]) = true := by
    unfold sortableT
    rw [Bool.or_eq_true]
    left
    rw [List.all_eq_true]
    intro t ht
    obtain ⟨a, _, rfl⟩ := List.mem_map.mp ht
    rw [en]
  have c4 : small (kv.map fun a => T.tup [.int (s a), En.enc (v a)]).length = true := decide_eq_true (by rw [List.length_map]; exact hl)
  unfold sortOp
  rw [c1, c2, c3, c4]
  simp only [Bool.and_self, ↓reduceIte]
  congr 1
  refine (List.map_mergeSort fun a ha b hb => ?_).symm
  rw [PySem.W.dataLe_eq]
  simp only [cond_false]
  rw [en, en, PySem.W.dataLt_pair (by simp [PySem.W.alike]) (hal b a), hr a ha b hb]
  have ev : ∀ x y : Int, PyData.eqv (.int x) (.int y) = decide (x = y) := fun x y => by
    rw [Bool.eq_iff_iff, decide_eq_true_eq]; exact En.eqv (α := Int) x y
  rw [ev]
  by_cases e : s b = s a
  · have := (En.eqv (v b) (v a)).mpr (hi b hb a ha e)
    rw [if_pos (decide_eq_true e), if_pos this]
    exact decide_eq_true (by omega)
  · have e2 : PySem.W.dataLt (.int (s b)) (.int (s a)) = decide (s b < s a) := by
      have := congrFun (congrFun (PySem.W.dataLe_int (fun x : Int => x)) (s a)) (s b)
      rw [PySem.W.dataLe_eq] at this
      simp only [cond_false] at this
      have h2 : PySem.W.dataLt (.int (s b)) (.int (s a)) = !decide (s a ≤ s b) := by rw [← this]; simp
      rw [h2]
      by_cases h : s a ≤ s b
      · have : ¬ s b < s a := by omega
        simp [h, this]
      · have : s b < s a := by omega
        simp [h, this]
    rw [if_neg (by simpa using e), e2]
    by_cases h : s a ≤ s b
    · have : ¬ s b < s a := by omega
      simp [h, this]
    · have : s b < s a := by omega
      simp [h, this]
end Ev
end
section
set_option linter.all false
set_option maxRecDepth 10000
/-! Lb1: halves as fractions, numbers as lists of terms: plain laws. -/
namespace Lb
open PySem PySem.Spec PyProof.Rows L2 Ev
/-- a half: 2 taken so often below -/
def IsDy (q : Rat) : Prop := ∃ k, q.den = 2 ^ k
theorem divInt_half {t b : Int} (hb : 0 < b) : (t / (Nat.gcd t.natAbs b.natAbs : Nat), b / (Nat.gcd t.natAbs b.natAbs : Nat)) = ((Rat.divInt t b).num, ((Rat.divInt t b).den : Int)) := by
  have h1 : (Nat.gcd t.natAbs b.natAbs) = b.gcd t := by rw [Int.gcd_comm]; rfl
  rw [Rat.num_divInt, Rat.den_divInt, if_neg (by omega), Int.sign_eq_one_of_pos hb, Int.one_mul, h1]
  have e : (b.natAbs : Int) = b := by omega
  rw [Int.natCast_ediv, e]
theorem add_half (a b : Rat) : Rat.divInt (a.num * b.den + b.num * a.den) (a.den * b.den : Nat) = a + b := by
  rw [Rat.add_def', Rat.divInt_ofNat]
theorem mul_half (a b : Rat) : Rat.divInt (a.num * b.num) (a.den * b.den : Nat) = a * b := by
  rw [Rat.mul_def', Rat.divInt_ofNat]
theorem den_posI (a : Rat) : 0 < (a.den : Int) := by have := a.den_pos; omega
/-- a / b by crossing -/
theorem div_half {a b : Rat} (hb : b ≠ 0) : Rat.divInt (if a.den * b.num < 0 then -(a.num * b.den) else a.num * b.den) (if a.den * b.num < 0 then -(a.den * b.num) else a.den * b.num) = a / b := by
  have key : Rat.divInt (a.num * b.den) (a.den * b.num) = a / b := by
    rw [Rat.div_def, Rat.inv_def]
    conv => rhs; rw [← Rat.num_divInt_den a]
    rw [Rat.divInt_mul_divInt]
  split
  · rw [Rat.neg_divInt_neg, key]
  · exact key
theorem num_ne {b : Rat} (hb : b ≠ 0) : b.num ≠ 0 := fun z => hb (Rat.num_eq_zero.mp z)
theorem ints_two_pow {k : Nat} : (0 : Int) < 2 ^ k := Int.pow_pos (by decide)
/-- whole in steps of 1 by 2 ^ k, below 2 ^ l of them -/
def Db (k l : Nat) (q : Rat) : Prop := ∃ n : Int, q = Rat.divInt n (2 ^ k : Nat) ∧ n.natAbs < 2 ^ l
theorem pow_ne (k : Nat) : ((2 ^ k : Nat) : Int) ≠ 0 := by
  have := Nat.pow_pos (n := k) (show 0 < 2 by decide); omega
theorem Db.up {k l : Nat} {q : Rat} (h : Db k l q) (j : Nat) : Db (k + j) (l + j) q := by
  obtain ⟨n, rfl, h⟩ := h
  refine ⟨n * (2 ^ j : Nat), ?_, ?_⟩
  · rw [Nat.pow_add, Int.natCast_mul, Rat.divInt_mul_right (pow_ne j)]
  · rw [Int.natAbs_mul, Int.natAbs_natCast, Nat.pow_add]
    exact Nat.mul_lt_mul_of_pos_right h (Nat.pow_pos (by decide))
theorem Db.mono {k l l' : Nat} {q : Rat} (h : Db k l q) (hl : l ≤ l') : Db k l' q := by
  obtain ⟨n, e, h⟩ := h
  exact ⟨n, e, Nat.lt_of_lt_of_le h (Nat.pow_le_pow_right (by decide) hl)⟩
theorem Db.to {k l k' l' : Nat} {q : Rat} (h : Db k l q) (hk : k ≤ k') (hl : l + (k' - k) ≤ l') : Db k' l' q := by
  have := (h.up (k' - k)).mono hl
  rwa [show k + (k' - k) = k' by omega] at this
theorem Db.add {k l : Nat} {a b : Rat} (h : Db k l a) (g : Db k l b) : Db k (l + 1) (a + b) := by
  obtain ⟨n, rfl, h⟩ := h
  obtain ⟨m, rfl, g⟩ := g
  refine ⟨n + m, ?_, ?_⟩
  · rw [Rat.divInt_add_divInt _ _ (pow_ne k) (pow_ne k), ← Int.add_mul, Rat.divInt_mul_right (pow_ne k)]
  · rw [Nat.pow_succ]; omega
theorem Db.mul {k l j i : Nat} {a b : Rat} (h : Db k l a) (g : Db j i b) : Db (k + j) (l + i) (a * b) := by
  obtain ⟨n, rfl, h⟩ := h
  obtain ⟨m, rfl, g⟩ := g
  refine ⟨n * m, ?_, ?_⟩
  · rw [Rat.divInt_mul_divInt, Nat.pow_add, Int.natCast_mul]
  · rw [Int.natAbs_mul, Nat.pow_add]
    exact Nat.mul_lt_mul'' h g
theorem Db.neg {k l : Nat} {a : Rat} (h : Db k l a) : Db k l (-a) := by
  obtain ⟨n, rfl, h⟩ := h
  exact ⟨-n, by rw [Rat.neg_divInt], by rw [Int.natAbs_neg]; exact h⟩
theorem dvd_two_pow : ∀ {k d : Nat}, d ∣ 2 ^ k → ∃ j, d = 2 ^ j
  | 0, d, h => ⟨0, by simpa using h⟩
  | k + 1, d, h => by
    by_cases e : d % 2 = 0
    · obtain ⟨c, rfl⟩ := Nat.dvd_of_mod_eq_zero e
      rw [Nat.pow_succ, Nat.mul_comm (2 ^ k)] at h
      obtain ⟨j, rfl⟩ := dvd_two_pow (Nat.dvd_of_mul_dvd_mul_left (by decide : 0 < 2) h)
      exact ⟨j + 1, by rw [Nat.pow_succ, Nat.mul_comm]⟩
    · have c : Nat.Coprime d 2 := by
        have h1 : Nat.gcd d 2 ∣ 2 := Nat.gcd_dvd_right ..
        have h2 : Nat.gcd d 2 ∣ d := Nat.gcd_dvd_left ..
        have h3 : Nat.gcd d 2 ≤ 2 := Nat.le_of_dvd (by decide) h1
        have h4 : Nat.gcd d 2 ≠ 0 := fun z => by rw [z] at h1; simp at h1
        have h5 : Nat.gcd d 2 ≠ 2 := fun z => by rw [z] at h2; omega
        show Nat.gcd d 2 = 1
        omega
      rw [Nat.pow_succ] at h
      exact dvd_two_pow (c.dvd_of_dvd_mul_right h)
abbrev Nu := List (Rat × Rat)
def cnt (l : Nu) (f : Rat) : Rat := ((l.filter fun p => decide (p.1 = f)).map (·.2)).sum
theorem cnt_nil (f : Rat) : cnt [] f = 0 := rfl
theorem cnt_none {l : Nu} {f : Rat} (h : ∀ p ∈ l, p.1 ≠ f) : cnt l f = 0 := by
  unfold cnt
  rw [List.filter_eq_nil_iff.mpr (fun p hp => by simpa using h p hp)]
  rfl
theorem cnt_cons (p : Rat × Rat) (b : Nu) (f : Rat) : cnt (p :: b) f = (if p.1 = f then p.2 else 0) + cnt b f := by
  unfold cnt
  by_cases h : p.1 = f
  · simp [h]
  · simp [h, Rat.zero_add]
theorem cnt_app (a b : Nu) (f : Rat) : cnt (a ++ b) f = cnt a f + cnt b f := by
  induction a with
  | nil => rw [List.nil_append, cnt_nil, Rat.zero_add]
  | cons x a ih => rw [List.cons_append, cnt_cons, cnt_cons, ih, Rat.add_assoc]
theorem cnt_perm {a b : Nu} (h : a.Perm b) (f : Rat) : cnt a f = cnt b f := by
  induction h with
  | nil => rfl
  | cons x _ ih => rw [cnt_cons, cnt_cons, ih]
  | swap x y l => simp only [cnt_cons]; grind
  | trans _ _ h1 h2 => exact h1.trans h2
/-- the powers one by one, each with what it has so far -/
def addTo : Nu → Rat → Rat → Nu
  | [], p, q => [(p, q)]
  | (a, b) :: r, p, q => if a = p then (a, b + q) :: r else (a, b) :: addTo r p q
def group (ts : Nu) : Nu := ts.foldl (fun kv t => addTo kv t.1 t.2) []
theorem addTo_mem {kv : Nu} {p q : Rat} {x : Rat × Rat} (h : x ∈ addTo kv p q) : x.1 = p ∨ x ∈ kv := by
  induction kv with
  | nil => simp only [addTo, List.mem_singleton] at h; subst h; exact .inl rfl
  | cons y kv ih =>
    obtain ⟨a, b⟩ := y
    simp only [addTo] at h
    split at h
    · rename_i e
      rcases List.mem_cons.mp h with rfl | h
      · exact .inl e
      · exact .inr (List.mem_cons_of_mem _ h)
    · rcases List.mem_cons.mp h with rfl | h
      · exact .inr (List.mem_cons_self ..)
      · rcases ih h with h | h
        · exact .inl h
        · exact .inr (List.mem_cons_of_mem _ h)
theorem addTo_nd {kv : Nu} {p q : Rat} (h : kv.Pairwise fun x y => x.1 ≠ y.1) : (addTo kv p q).Pairwise fun x y => x.1 ≠ y.1 := by
  induction kv with
  | nil => exact List.pairwise_singleton _ _
  | cons y kv ih =>
    obtain ⟨a, b⟩ := y
    obtain ⟨h1, h2⟩ := List.pairwise_cons.mp h
    simp only [addTo]
    split
    · exact List.pairwise_cons.mpr ⟨h1, h2⟩
    · rename_i e
      refine List.pairwise_cons.mpr ⟨fun z hz => ?_, ih h2⟩
      rcases addTo_mem hz with h | h
      · rw [h]; exact e
      · exact h1 z h
theorem addTo_cnt (kv : Nu) (p q f : Rat) : cnt (addTo kv p q) f = cnt kv f + if p = f then q else 0 := by
  induction kv with
  | nil => rw [addTo, cnt_cons, cnt_nil]; grind
  | cons y kv ih =>
    obtain ⟨a, b⟩ := y
    simp only [addTo]
    split
    · rename_i e
      subst e
      simp only [cnt_cons]
      split <;> grind
    · rw [cnt_cons, ih, cnt_cons]; grind
theorem addTo_len (kv : Nu) (p q : Rat) : (addTo kv p q).length ≤ kv.length + 1 := by
  induction kv with
  | nil => simp [addTo]
  | cons y kv ih =>
    obtain ⟨a, b⟩ := y
    simp only [addTo]
    split
    · simp
    · simp; grind
theorem group_snoc (ts : Nu) (t : Rat × Rat) : group (ts ++ [t]) = addTo (group ts) t.1 t.2 := by
  simp [group]
theorem rev_ind {α : Type} {P : List α → Prop} (h0 : P []) (h1 : ∀ l a, P l → P (l ++ [a])) (l : List α) : P l := by
  have : ∀ k : List α, P k.reverse := by
    intro k
    induction k with
    | nil => exact h0
    | cons a k ih => rw [List.reverse_cons]; exact h1 _ _ ih
  have := this l.reverse
  rwa [List.reverse_reverse] at this
theorem group_cnt (ts : Nu) (f : Rat) : cnt (group ts) f = cnt ts f := by
  induction ts using rev_ind with
  | h0 => rfl
  | h1 ts t ih => rw [group_snoc, addTo_cnt, ih, cnt_app, cnt_cons, cnt_nil]; grind
theorem group_nd (ts : Nu) : (group ts).Pairwise fun x y => x.1 ≠ y.1 := by
  induction ts using rev_ind with
  | h0 => exact List.Pairwise.nil
  | h1 ts t ih => rw [group_snoc]; exact addTo_nd ih
theorem group_len (ts : Nu) : (group ts).length ≤ ts.length := by
  induction ts using rev_ind with
  | h0 => exact Nat.le_refl _
  | h1 ts t ih =>
    rw [group_snoc, List.length_append]
    have := addTo_len (group ts) t.1 t.2
    simp only [List.length_cons, List.length_nil]
    grind
theorem nd_cnt {kv : Nu} (h : kv.Pairwise fun x y => x.1 ≠ y.1) {x : Rat × Rat} (hx : x ∈ kv) : cnt kv x.1 = x.2 := by
  induction kv with
  | nil => cases hx
  | cons y kv ih =>
    obtain ⟨h1, h2⟩ := List.pairwise_cons.mp h
    rw [cnt_cons]
    rcases List.mem_cons.mp hx with rfl | hx
    · rw [if_pos rfl, cnt_none fun p hp => (h1 p hp).symm]; grind
    · rw [if_neg (h1 x hx), ih h2 hx]; grind
theorem nd_mem {kv : Nu} (h : kv.Pairwise fun x y => x.1 ≠ y.1) (x : Rat × Rat) (hx : x.2 ≠ 0) : x ∈ kv ↔ cnt kv x.1 = x.2 := by
  refine ⟨nd_cnt h, fun e => ?_⟩
  by_cases k : ∃ p ∈ kv, p.1 = x.1
  · obtain ⟨p, hp, ep⟩ := k
    have := nd_cnt h hp
    rw [ep, e] at this
    have : p = x := Prod.ext ep this.symm
    rwa [this] at hp
  · rw [cnt_none fun p hp ep => k ⟨p, hp, ep⟩] at e
    exact absurd e.symm hx
/-- two lists that go down and have the same members are one -/
theorem desc_unique : ∀ {a b : Nu}, (a.Pairwise fun p q => q.1 < p.1) → (b.Pairwise fun p q => q.1 < p.1) → (∀ x, x ∈ a ↔ x ∈ b) → a = b
  | [], [], _, _, _ => rfl
  | [], y :: b, _, _, h => absurd ((h y).mpr (List.mem_cons_self ..)) (by simp)
  | x :: a, [], _, _, h => absurd ((h x).mp (List.mem_cons_self ..)) (by simp)
  | x :: a, y :: b, ha, hb, h => by
    obtain ⟨a1, a2⟩ := List.pairwise_cons.mp ha
    obtain ⟨b1, b2⟩ := List.pairwise_cons.mp hb
    have e : x = y := by
      rcases List.mem_cons.mp ((h x).mp (List.mem_cons_self ..)) with e | e
      · exact e
      · rcases List.mem_cons.mp ((h y).mpr (List.mem_cons_self ..)) with e2 | e2
        · exact e2.symm
        · have := a1 y e2; have := b1 x e; grind
    subst e
    rw [desc_unique a2 b2 fun z => ?_]
    constructor
    · intro hz
      rcases List.mem_cons.mp ((h z).mp (List.mem_cons_of_mem _ hz)) with rfl | k
      · have := a1 z hz; grind
      · exact k
    · intro hz
      rcases List.mem_cons.mp ((h z).mpr (List.mem_cons_of_mem _ hz)) with rfl | k
      · have := b1 z hz; grind
      · exact k
def leP (x y : Rat × Rat) : Bool := decide (x.1 ≤ y.1)
def geP (x y : Rat × Rat) : Bool := decide (y.1 ≤ x.1)
theorem desc_of {l : Nu} (h : l.Pairwise fun x y => geP x y = true) (n : l.Pairwise fun x y => x.1 ≠ y.1) : l.Pairwise fun p q => q.1 < p.1 := by
  refine (h.and n).imp fun ⟨h1, h2⟩ => ?_
  have := of_decide_eq_true h1
  grind
/-- the number of terms, from number_told's going -/
def nf (ts : Nu) : Nu := ((group ts).mergeSort leP).reverse.filter fun x => decide (x.2 ≠ 0)
/-- the number of terms, from _law_form's going -/
def nf2 (ts : Nu) : Nu := ((group ts).filter fun x => decide (x.2 ≠ 0)).mergeSort geP
theorem nd_perm {a b : Nu} (p : a.Perm b) (h : b.Pairwise fun x y => x.1 ≠ y.1) : a.Pairwise fun x y => x.1 ≠ y.1 := (p.pairwise_iff (fun h e => h e.symm)).mpr h
theorem nf_desc (ts : Nu) : (nf ts).Pairwise fun p q => q.1 < p.1 := by
  refine List.Pairwise.filter _ (desc_of ?_ ?_)
  · rw [List.pairwise_reverse]
    exact List.pairwise_mergeSort (le := leP) (fun a b c h1 h2 => by simp only [leP, decide_eq_true_eq] at *; grind) (fun a b => by simp only [leP, Bool.or_eq_true, decide_eq_true_eq]; grind) _
  · exact nd_perm ((List.reverse_perm _).trans (List.mergeSort_perm ..)) (group_nd ts)
theorem nf_mem (ts : Nu) (x : Rat × Rat) : x ∈ nf ts ↔ x.2 ≠ 0 ∧ cnt ts x.1 = x.2 := by
  unfold nf
  rw [List.mem_filter, List.mem_reverse, List.mem_mergeSort, decide_eq_true_eq]
  constructor
  · rintro ⟨h1, h2⟩
    exact ⟨h2, by rw [← group_cnt]; exact nd_cnt (group_nd ts) h1⟩
  · rintro ⟨h1, h2⟩
    exact ⟨(nd_mem (group_nd ts) x h1).mpr (by rw [group_cnt]; exact h2), h1⟩
theorem nf2_eq (ts : Nu) : nf2 ts = nf ts := by
  refine desc_unique ?_ (nf_desc ts) fun x => ?_
  · refine desc_of ?_ ?_
    · exact List.pairwise_mergeSort (le := geP) (fun a b c h1 h2 => by simp only [geP, decide_eq_true_eq] at *; grind) (fun a b => by simp only [geP, Bool.or_eq_true, decide_eq_true_eq]; grind) _
    · exact nd_perm (List.mergeSort_perm ..) (List.Pairwise.filter _ (group_nd ts))
  · rw [nf_mem, nf2, List.mem_mergeSort, List.mem_filter, decide_eq_true_eq]
    constructor
    · rintro ⟨h1, h2⟩
      exact ⟨h2, by rw [← group_cnt]; exact nd_cnt (group_nd ts) h1⟩
    · rintro ⟨h1, h2⟩
      exact ⟨(nd_mem (group_nd ts) x h1).mpr (by rw [group_cnt]; exact h2), h1⟩
theorem nf_ext {a b : Nu} (h : ∀ f, cnt a f = cnt b f) : nf a = nf b := desc_unique (nf_desc a) (nf_desc b) fun x => by rw [nf_mem, nf_mem, h]
theorem nf_perm {a b : Nu} (h : a.Perm b) : nf a = nf b := nf_ext (cnt_perm h)
theorem nf_nd (ts : Nu) : (nf ts).Pairwise fun x y => x.1 ≠ y.1 := (nf_desc ts).imp fun h e => by grind
theorem cnt_nf (ts : Nu) (f : Rat) : cnt (nf ts) f = cnt ts f := by
  by_cases h : cnt ts f = 0
  · rw [h]
    refine cnt_none fun p hp e => ?_
    obtain ⟨h1, h2⟩ := (nf_mem ts p).mp hp
    rw [e, h] at h2
    exact h1 h2.symm
  · exact nd_cnt (nf_nd ts) (x := (f, cnt ts f)) ((nf_mem ts _).mpr ⟨h, rfl⟩)
theorem nf_two (a b : Nu) : nf (nf a ++ nf b) = nf (a ++ b) := nf_ext fun f => by rw [cnt_app, cnt_app, cnt_nf, cnt_nf]
theorem nf_len (ts : Nu) : (nf ts).length ≤ ts.length := by
  unfold nf
  refine Nat.le_trans (List.length_filter_le ..) ?_
  rw [List.length_reverse, List.length_mergeSort]
  exact group_len ts
theorem rev_ind' {α : Type} {P : List α → Prop} (h0 : P []) (h1 : ∀ l a, P l → P (l ++ [a])) (l : List α) : P l := rev_ind h0 h1 l
/-- what a half is told by -/
def nd (q : Rat) : Int × Int := (q.num, (q.den : Int))
theorem nd_inj {a b : Rat} (h : nd a = nd b) : a = b := by
  injection h with h1 h2
  exact Rat.ext h1 (by omega)
instance : En Rat where
  enc q := .tup [.int q.num, .int q.den]
  hd q := .inr ⟨_, rfl⟩
  pu rf q := rfl
  eqv a b := by
    have := En.eqv (nd a) (nd b)
    constructor
    · exact fun h => nd_inj (this.mp h)
    · rintro rfl; exact this.mpr rfl
  lay q := En.lay (nd q)
  dp := 1
  dep q := En.dep (nd q)
theorem enc_rat (q : Rat) : En.enc q = T.tup [.int q.num, .int q.den] := rfl
theorem dy_of_dvd {q : Rat} {k : Nat} (h : q.den ∣ 2 ^ k) : IsDy q := dvd_two_pow h
theorem Db.dvd {k l : Nat} {q : Rat} (h : Db k l q) : q.den ∣ 2 ^ k := by
  obtain ⟨n, rfl, h⟩ := h
  rw [Rat.den_divInt, if_neg (pow_ne k), Int.natAbs_natCast]
  exact Nat.div_dvd_of_dvd (by
    have := Int.gcd_dvd_left ((2 ^ k : Nat) : Int) n
    exact Int.natCast_dvd_natCast.mp this)
theorem Db.dy {k l : Nat} {q : Rat} (h : Db k l q) : IsDy q := dy_of_dvd h.dvd
theorem Db.den_le {k l : Nat} {q : Rat} (h : Db k l q) : q.den ≤ 2 ^ k := Nat.le_of_dvd (Nat.pow_pos (by decide)) h.dvd
theorem Db.num_lt {k l : Nat} {q : Rat} (h : Db k l q) : q.num.natAbs < 2 ^ l := by
  obtain ⟨n, rfl, h⟩ := h
  refine Nat.lt_of_le_of_lt ?_ h
  rw [Rat.num_divInt, Int.sign_eq_one_of_pos (Int.natCast_pos.mpr (Nat.pow_pos (by decide))), Int.one_mul]
  rw [Int.natAbs_ediv_of_dvd (Int.gcd_dvd_right ..)]
  exact Nat.div_le_self ..
theorem Db.of {q : Rat} {k l : Nat} (h : q.den = 2 ^ k) (g : q.num.natAbs < 2 ^ l) : Db k l q := ⟨q.num, by rw [← h]; exact (Rat.num_divInt_den q).symm, g⟩
theorem Db.ofInt {n : Int} {l : Nat} (h : n.natAbs < 2 ^ l) : Db 0 l (n : Rat) := Db.of (k := 0) rfl h
theorem Db.zero : Db 0 0 (0 : Rat) := Db.of (k := 0) rfl (by decide)
/-- 2 taken so often, by its signs -/
theorem band_pow {n : Nat} (h : 0 < n) : (Builtin.bitAnd (n : Int) ((n : Int) - 1) = 0) ↔ ∃ k, n = 2 ^ k := by
  have e : (n : Int) - 1 = ((n - 1 : Nat) : Int) := by omega
  have e2 : Builtin.bitAnd (n : Int) ((n : Int) - 1) = ((n &&& (n - 1) : Nat) : Int) := by
    rw [e]
    unfold Builtin.bitAnd
    simp
  rw [e2]
  have := @Nat.ne_zero_and_sub_one_eq_zero_iff_isPowerOfTwo n
  constructor
  · intro z
    exact this.mp ⟨by omega, by omega⟩
  · intro z
    have := (this.mpr z).2
    omega
end Lb
end
section
set_option linter.all false
set_option maxRecDepth 10000
/-! Lb2: drawn numbers, walked for any law. -/
namespace Lb
open PySem PySem.Spec PyProof.Rows L2 Ev
abbrev Fu := List T → Mem → Rm T
def C__law_source : CD := ⟨1, 3, .cons (.asg (.name 1) (.cst (.int 11))) (.cons (.for_ (.name 2) (.seq (.var 0)) (.cons (.asg (.name 1) (.bin .mod (.bi .int (.cons false (.bin .add (.bin .add (.bin .mul (.var 1) (.cst (.int 69069))) (.bin .mul (.var 2) (.cst (.int 31)))) (.cst (.int 5))) (.nil))) (.cst (.int 2147483629)))) (.nil))) (.cons (.ret (.ddisp ["cells", "left", "mixed", "turn"] (.cons false (.mk (.rev (.lc (.bi .abs (.cons false (.var 2) (.nil))) (.name 2) (.seq (.var 0)) .none [2]))) (.cons false (.cst (.int 1)) (.cons false (.var 1) (.cons false (.cst (.int 0)) (.nil))))))) (.nil)))⟩
def C__law_pick : CD := ⟨2, 4, .cons (.whl (.and (.cmp .gt (.var 1) (.cst (.int 1))) (.and (.cmp .lt (.idx (.var 0) (.cst (.str "left"))) (.cst (.int 2))) (.cmp .gt (.bi .len (.cons false (.idx (.var 0) (.cst (.str "cells"))) (.nil))) (.cst (.int 0))))) (.cons (.sub (.var 0) (.cst (.str "left")) (.meth .pop (.idx (.var 0) (.cst (.str "cells"))) (.nil))) (.nil))) (.cons (.asg (.name 2) (.idx (.var 0) (.cst (.str "left")))) (.cons (.ife (.or (.cmp .lt (.var 1) (.cst (.int 2))) (.cmp .gt (.var 2) (.cst (.int 1)))) (.cons (.sub (.var 0) (.cst (.str "left")) (.bin .fdiv (.var 2) (.bi .max2 (.cons false (.cst (.int 1)) (.cons false (.var 1) (.nil)))))) (.cons (.ret (.bin .mod (.bi .int (.cons false (.var 2) (.nil))) (.bi .max2 (.cons false (.cst (.int 1)) (.cons false (.var 1) (.nil)))))) (.nil))) (.nil)) (.cons (.sub (.var 0) (.cst (.str "turn")) (.bin .add (.idx (.var 0) (.cst (.str "turn"))) (.cst (.int 1)))) (.cons (.asg (.name 3) (.bin .mod (.bi .int (.cons false (.bin .add (.idx (.var 0) (.cst (.str "mixed"))) (.bin .mul (.idx (.var 0) (.cst (.str "turn"))) (.cst (.int 104729)))) (.nil))) (.cst (.int 998244353)))) (.cons (.asg (.name 3) (.bin .mod (.bi .int (.cons false (.bin .add (.bin .mul (.var 3) (.var 3)) (.bin .mul (.idx (.var 0) (.cst (.str "turn"))) (.cst (.int 17)))) (.nil))) (.cst (.int 2147483647)))) (.cons (.sub (.var 0) (.cst (.str "mixed")) (.var 3)) (.cons (.ret (.bin .mod (.bi .int (.cons false (.bin .fdiv (.var 3) (.cst (.int 16))) (.nil))) (.var 1))) (.nil))))))))⟩
def C__law_of (k__law_pick : Nat) : CD := ⟨2, 2, .cons (.ret (.idx (.var 1) (.call k__law_pick (.cons false (.var 0) (.cons false (.bi .len (.cons false (.var 1) (.nil))) (.nil)))))) (.nil)⟩
def C__law_mixed (k__law_pick : Nat) : CD := ⟨2, 4, .cons (.asg (.name 2) (.bi .list (.cons false (.var 1) (.nil)))) (.cons (.ret (.mk (.lc (.meth .popAt (.var 2) (.cons false (.call k__law_pick (.cons false (.var 0) (.cons false (.bi .len (.cons false (.var 2) (.nil))) (.nil)))) (.nil))) (.name 3) (.rng (.bi .len (.cons false (.var 2) (.nil)))) .none [3]))) (.nil))⟩
theorem divOk_small {j : Int} (h : 0 < j) (h2 : j < 1000000) : divOk j = true := by
  unfold divOk
  rw [Bool.and_eq_true]
  refine ⟨decide_eq_true h, decide_eq_true ?_⟩
  have h3 : j.natAbs < 2 ^ 20 := by omega
  have : j.natAbs.log2 < 20 := (Nat.log2_lt (by omega)).mpr h3
  omega
theorem mulOk_r {i j : Int} (h1 : -1000000000000 < j) (h2 : j < 1000000000000) : mulOk i j = true := by
  unfold mulOk
  have : Builtin.Int.intBits j ≤ 64 := PySem.intBits_le_64 (by omega) (by omega)
  simp [this]
theorem mulOk_l {i j : Int} (h1 : -1000000000000 < i) (h2 : i < 1000000000000) : mulOk i j = true := by
  unfold mulOk
  have : Builtin.Int.intBits i ≤ 64 := PySem.intBits_le_64 (by omega) (by omega)
  simp [this]
def srcD (l mx tn : Int) : List (Key × T) := [(.inr "cells", .ref 0), (.inr "left", .int l), (.inr "mixed", .int mx), (.inr "turn", .int tn)]
def Src (m : Mem) : Prop := ∃ (cs : List Int) (l mx tn : Int), m[0]? = some (.lst (cs.map T.int)) ∧ m[1]? = some (.dK false (srcD l mx tn)) ∧ (∀ c ∈ cs, 0 ≤ c) ∧ 0 ≤ l ∧ cs.length ≤ 63
/-- all but the source stays -/
def Nx (m m' : Mem) : Prop := m.length ≤ m'.length ∧ ∀ n o, 2 ≤ n → m[n]? = some o → m'[n]? = some o
theorem Nx.refl (m : Mem) : Nx m m := ⟨Nat.le_refl _, fun _ _ _ h => h⟩
theorem Nx.trans {a b c : Mem} (h : Nx a b) (k : Nx b c) : Nx a c := ⟨Nat.le_trans h.1 k.1, fun n o hn ho => k.2 n o hn (h.2 n o hn ho)⟩
theorem Nx.pre {a b : Mem} (h : a <+: b) : Nx a b := ⟨h.length_le, fun _ _ _ ho => pre_get h ho⟩
theorem Nx.set {m : Mem} {n : Nat} (o : MO) (h : n < 2) : Nx m (m.set n o) := ⟨by rw [List.length_set]; exact Nat.le_refl _, fun k p hk hp => by rw [List.getElem?_set_ne (by omega)]; exact hp⟩
theorem Src.len {m : Mem} (h : Src m) : 2 ≤ m.length := by
  obtain ⟨_, _, _, _, _, h, _⟩ := h
  have := (List.getElem?_eq_some_iff.mp h).1
  omega
theorem Src.pre {m m' : Mem} (h : Src m) (p : m <+: m') : Src m' := by
  obtain ⟨cs, l, mx, tn, h0, h1, r⟩ := h
  exact ⟨cs, l, mx, tn, pre_get p h0, pre_get p h1, r⟩
theorem put_left (l mx tn v : Int) : put (srcD l mx tn) (.inr "left") (.int v) = srcD v mx tn := by rfl
theorem put_mixed (l mx tn v : Int) : put (srcD l mx tn) (.inr "mixed") (.int v) = srcD l v tn := by rfl
theorem put_turn (l mx tn v : Int) : put (srcD l mx tn) (.inr "turn") (.int v) = srcD l mx v := by rfl
theorem get_cells (l mx tn : Int) : look (srcD l mx tn) (.inr "cells") = some (.ref 0) := by rfl
theorem get_left (l mx tn : Int) : look (srcD l mx tn) (.inr "left") = some (.int l) := by rfl
theorem get_mixed (l mx tn : Int) : look (srcD l mx tn) (.inr "mixed") = some (.int mx) := by rfl
theorem get_turn (l mx tn : Int) : look (srcD l mx tn) (.inr "turn") = some (.int tn) := by rfl
theorem idx_src {m : Mem} {l mx tn : Int} {k : Str} {t : T} (h : m[1]? = some (.dK false (srcD l mx tn))) (e : look (srcD l mx tn) (.inr k) = some t) : idxop (.ref 1) (.str k) m = some (.ok t, m) := by
  simp only [idxop, h, dgetOp, keyOf, Option.map_some, e]
  rfl
theorem set_src {m : Mem} {l mx tn l' mx' tn' : Int} {k : Str} {t : T} (h : m[1]? = some (.dK false (srcD l mx tn))) (e : put (srcD l mx tn) (.inr k) t = srcD l' mx' tn') : setop (.ref 1) (.str k) t m = some (m.set 1 (.dK false (srcD l' mx' tn'))) := by
  simp only [setop, h, keyOf, e]
  rfl
theorem mty_pop {m : Mem} {n : Nat} {l : List T} (h : m[n]? = some (.lst l)) : mtyOk .pop (.ref n) m = true := by simp only [mtyOk, h]
theorem mty_append {m : Mem} {n : Nat} {l : List T} (h : m[n]? = some (.lst l)) : mtyOk .append (.ref n) m = true := by simp only [mtyOk, h]
theorem mty_popAt {m : Mem} {n : Nat} {l : List T} (h : m[n]? = some (.lst l)) : mtyOk .popAt (.ref n) m = true := by simp only [mtyOk, h]
theorem pop_last {m : Mem} {n : Nat} {l : List T} {t : T} (h : m[n]? = some (.lst (l ++ [t]))) : methop .pop (.ref n) [] m = some (.ok t, m.set n (.lst l)) := by
  simp only [methop, mtPop, h, List.length_append, List.length_cons, List.length_nil, Nat.add_sub_cancel, Nat.zero_add, List.getElem?_concat_length, List.dropLast_concat]
  rfl
theorem append_one {m : Mem} {n : Nat} {l : List T} {t : T} (h : m[n]? = some (.lst l)) (hs : l.length ≤ 16000000) : methop .append (.ref n) [t] m = some (.ok .non, m.set n (.lst (l ++ [t]))) := by
  simp only [methop, mtAppend, h]
  exact guard'_of (decide_eq_true hs) _
/-- _law_pick -/
def PickS (F : Fu) : Prop := ∀ (many : Int) (m : Mem), Src m → 1 ≤ many → many < 1000000 → Runs (F [.ref 1, .int many] m) fun r m' => ∃ i : Int, r = .int i ∧ 0 ≤ i ∧ i < many ∧ Src m' ∧ Nx m m' ∧ m'.length = m.length
theorem pick_ok {Φ : Fns} {N : Nat} (hN : 1000 ≤ N) : PickS (runD Φ N C__law_pick) := by
  intro many m hs h1 h2
  refine wpD rfl ?_
  obtain ⟨cl, l, mx, tn, g0, g1, gc, gl, gn⟩ := hs
  conv => whnf
  refine whl_wp (fun k τ m' => ∃ (cl : List Int) (l mx tn : Int), m'[0]? = some (.lst (cl.map T.int)) ∧ m'[1]? = some (.dK false (srcD l mx tn)) ∧ (∀ c ∈ cl, 0 ≤ c) ∧ 0 ≤ l ∧ cl.length ≤ 63 ∧ cl.length = k ∧ τ = [some (.ref 1), some (.int many), none, none] ∧ Nx m m' ∧ m'.length = m.length) cl.length
    (by omega) ⟨cl, l, mx, tn, g0, g1, gc, gl, gn, rfl, rfl, Nx.refl m, rfl⟩ ?_
  clear g0 g1 gc gl gn cl l mx tn
  rintro k τ m' ⟨cl, l, mx, tn, g0, g1, gc, gl, gn, rfl, rfl, nx, nl⟩
  have hmax : (if many > 1 then many else 1) = many := by split <;> omega
  have tail : ((1 : Int) < many → 1 < l ∨ cl = []) → wpSs (Φ) N (match C__law_pick.body with
    | .cons _ r => r
    | _ => .nil) [some (.ref 1), some (.int many), none, none] m' (dend fun r m' => ∃ i : Int, r = .int i ∧ 0 ≤ i ∧ i < many ∧ Src m' ∧ Nx m m' ∧ m'.length = m.length) := by
    intro hh
    conv => whnf
    refine ⟨_, idx_src g1 (get_left ..), ?_⟩
    conv => whnf
    have g1l := (List.getElem?_eq_some_iff.mp g1).1
    have fin1 : wpSs (Φ) N (match C__law_pick.body with
      | .cons _ (.cons _ (.cons (.ife _ a _) _)) => a
      | _ => .nil) [some (.ref 1), some (.int many), some (.int l), none] m' (nxt (dend fun r m' => ∃ i : Int, r = .int i ∧ 0 ≤ i ∧ i < many ∧ Src m' ∧ Nx m m' ∧ m'.length = m.length) fun _ _ => False) := by
      conv => whnf
      rw [hmax]
      refine ⟨divOk_small (by omega) h2, ?_⟩
      conv => whnf
      refine ⟨_, set_src g1 (put_left ..), ?_⟩
      conv => whnf
      rw [hmax]
      refine ⟨by omega, ?_⟩
      conv => whnf
      refine ⟨_, rfl, Int.emod_nonneg _ (by omega), Int.emod_lt_of_pos _ (by omega), ⟨cl, l / many, mx, tn, ?_, ?_, gc, ?_, gn⟩, nx.trans (Nx.set _ (by decide)), by rw [List.length_set]; exact nl⟩
      · rw [List.getElem?_set_ne (by decide)]; exact g0
      · rw [List.getElem?_set_self g1l]
      · exact Int.ediv_nonneg gl (by omega)
    have fin2 : wpSs (Φ) N (match C__law_pick.body with
      | .cons _ (.cons _ (.cons _ r)) => r
      | _ => .nil) [some (.ref 1), some (.int many), some (.int l), none] m' (dend fun r m' => ∃ i : Int, r = .int i ∧ 0 ≤ i ∧ i < many ∧ Src m' ∧ Nx m m' ∧ m'.length = m.length) := by
      conv => whnf
      refine ⟨_, idx_src g1 (get_turn ..), ?_⟩
      conv => whnf
      refine ⟨_, set_src g1 (put_turn ..), ?_⟩
      conv => whnf
      have g2 : (m'.set 1 (.dK false (srcD l mx (tn + 1))))[1]? = some (.dK false (srcD l mx (tn + 1))) := List.getElem?_set_self g1l
      refine ⟨_, idx_src g2 (get_mixed ..), ?_⟩
      conv => whnf
      refine ⟨_, idx_src g2 (get_turn ..), ?_⟩
      conv => whnf
      refine ⟨mulOk_r (by decide) (by decide), ?_⟩
      conv => whnf
      refine ⟨by decide, ?_⟩
      conv => whnf
      have b1 := Int.emod_nonneg (mx + (tn + 1) * 104729) (show (998244353 : Int) ≠ 0 by decide)
      have b2 := Int.emod_lt_of_pos (mx + (tn + 1) * 104729) (show (0 : Int) < 998244353 by decide)
      refine ⟨mulOk_r (by omega) (by omega), ?_⟩
      conv => whnf
      refine ⟨_, idx_src g2 (get_turn ..), ?_⟩
      conv => whnf
      refine ⟨mulOk_r (by decide) (by decide), ?_⟩
      conv => whnf
      refine ⟨by decide, ?_⟩
      conv => whnf
      refine ⟨_, set_src g2 (put_mixed ..), ?_⟩
      conv => whnf
      refine ⟨divOk_small (by decide) (by decide), ?_⟩
      conv => whnf
      refine ⟨by omega, ?_⟩
      conv => whnf
      have g2l := (List.getElem?_eq_some_iff.mp g2).1
      refine ⟨_, rfl, Int.emod_nonneg _ (by omega), Int.emod_lt_of_pos _ (by omega), ⟨cl, l, _, tn + 1, ?_, List.getElem?_set_self g2l, gc, gl, gn⟩, (nx.trans (Nx.set _ (by decide))).trans (Nx.set _ (by decide)), by rw [List.length_set, List.length_set]; exact nl⟩
      rw [List.getElem?_set_ne (by decide), List.getElem?_set_ne (by decide)]; exact g0
    refine ⟨fun e => ?_, fun e => ?_⟩
    · conv => whnf
      exact ⟨fun _ => fin1, fun z => nomatch z⟩
    · conv => whnf
      refine ⟨fun _ => fin1, fun _ => ?_⟩
      exact fin2
  conv => whnf
  refine ⟨fun e => ?_, fun e => ?_⟩
  · conv => whnf
    refine ⟨_, idx_src g1 (get_left ..), ?_⟩
    conv => whnf
    refine ⟨fun e2 => ?_, fun e2 => ?_⟩
    · conv => whnf
      refine ⟨_, idx_src g1 (get_cells ..), ?_⟩
      conv => whnf
      refine ⟨_, g0, ?_⟩
      conv => whnf
      refine ⟨fun e3 => ?_, fun e3 => ?_⟩
      · have e3 := of_decide_eq_true e3
        rw [List.length_map] at e3
        obtain ⟨cl', c, rfl⟩ : ∃ cl' c, cl = cl' ++ [c] := by
          rcases List.eq_nil_or_concat cl with rfl | ⟨a, b, rfl⟩
          · exact absurd e3 (by simp)
          · exact ⟨a, b, List.concat_eq_append⟩
        rw [List.map_append] at g0
        refine ⟨_, idx_src g1 (get_cells ..), ?_⟩
        conv => whnf
        refine ⟨mty_pop g0, ?_⟩
        refine ⟨_, _, pop_last g0, ?_⟩
        conv => whnf
        have g0l := (List.getElem?_eq_some_iff.mp g0).1
        have g1' : (m'.set 0 (.lst (cl'.map T.int)))[1]? = some (.dK false (srcD l mx tn)) := by rw [List.getElem?_set_ne (by decide)]; exact g1
        have g1l := (List.getElem?_eq_some_iff.mp g1').1
        refine ⟨_, set_src g1' (put_left ..), ?_⟩
        conv => whnf
        refine ⟨cl'.length, by simp, cl', c, mx, tn, ?_, ?_, fun x hx => gc x (List.mem_append_left _ hx), gc c (List.mem_append_right _ (List.mem_singleton.mpr rfl)), by simp at gn; omega, rfl, rfl, (nx.trans (Nx.set _ (by decide))).trans (Nx.set _ (by decide)), by rw [List.length_set, List.length_set]; exact nl⟩
        · rw [List.getElem?_set_ne (by decide), List.getElem?_set_self g0l]
        · rw [List.getElem?_set_self g1l]
      · refine tail fun _ => .inr ?_
        have e3 := of_decide_eq_false e3
        rw [List.length_map] at e3
        exact List.length_eq_zero_iff.mp (by omega)
    · conv => whnf
      refine ⟨fun e3 => (nomatch e3), fun e3 => ?_⟩
      refine tail fun _ => .inl ?_
      have e2 := of_decide_eq_false e2
      omega
  · conv => whnf
    refine ⟨fun e3 => (nomatch e3), fun e3 => ?_⟩
    exact tail fun h => absurd h (of_decide_eq_false e)
/-- _law_source, at a law's beginning -/
def SourceS (F : Fu) : Prop := ∀ (ns : List Int), ns.length ≤ 63 → Runs (F [.ro (ns.map T.int)] []) fun r m' => r = .ref 1 ∧ Src m'
theorem source_ok {Φ : Fns} {N : Nat} : SourceS (runD Φ N C__law_source) := by
  intro ns h
  refine wpD rfl ?_
  conv => whnf
  refine for_wp (fun i τ m' => m' = [] ∧ ∃ (mx : Int) (x : Option T), τ = [some (.ro (ns.map T.int)), some (.int mx), x]) ⟨rfl, _, _, rfl⟩ (fun _ _ _ _ _ => rfl) ?_ ?_
  · rintro i t τ m' hi ⟨rfl, mx, x, rfl⟩
    rw [List.getElem?_map, Option.map_eq_some_iff] at hi
    obtain ⟨c, hi, rfl⟩ := hi
    conv => whnf
    refine ⟨mulOk_r (by decide) (by decide), ?_⟩
    conv => whnf
    refine ⟨mulOk_r (by decide) (by decide), ?_⟩
    conv => whnf
    refine ⟨by decide, ?_⟩
    conv => whnf
    exact ⟨rfl, _, _, rfl⟩
  · rintro τ m' ⟨rfl, mx, x, rfl⟩
    conv => whnf
    refine lc_wp (α := Int) (β := Int) (fun c => some (if c < 0 then -c else c)) rfl (fun a ha => ?_) ⟨?_, ?_⟩
    · conv => whnf
      refine ⟨⟨rfl, rfl⟩, fun x hx => ?_⟩
      cases hx
      conv => whnf
      exact ⟨rfl, rfl⟩
    · have := List.length_filterMap_le (fun c : Int => some (if c < 0 then -c else c)) ns
      exact decide_eq_true (by omega)
    · conv => whnf
      refine ⟨rfl, rfl, ?_⟩
      refine ⟨((ns.filterMap fun c : Int => some (if c < 0 then -c else c)).reverse), 1, mx, 0, ?_, rfl, ?_, by decide, ?_⟩
      · show some (MO.lst _) = _
        rw [List.map_reverse]; rfl
      · intro c hc
        rw [List.mem_reverse, List.mem_filterMap] at hc
        obtain ⟨a, _, e⟩ := hc
        cases e
        split <;> omega
      · rw [List.length_reverse]
        exact Nat.le_trans (List.length_filterMap_le ..) h
/-- _law_of -/
def OfS (F : Fu) : Prop := ∀ (l : List T) (n : Nat) (m : Mem), Src m → 2 ≤ n → m[n]? = some (.lst l) → l ≠ [] → l.length < 1000000 → Runs (F [.ref 1, .ref n] m) fun r m' => r ∈ l ∧ Src m' ∧ Nx m m' ∧ m'.length = m.length
theorem of_ok {Φ : Fns} {N kp : Nat} (f15 : PickS (Φ kp)) : OfS (runD Φ N (C__law_of kp)) := by
  intro l n m hs hn ht h0 h1
  refine wpD rfl ?_
  have := List.length_pos_iff.mpr h0
  conv => whnf
  refine ⟨l, ht, ?_⟩
  conv => whnf
  refine ⟨(f15 l.length m hs (by omega) (by omega)).imp ?_⟩
  rintro r m' ⟨i, rfl, i0, i1, hs', nx, nl⟩
  conv => whnf
  obtain ⟨j, rfl⟩ : ∃ j : Nat, i = j := ⟨i.toNat, by omega⟩
  have hj : j < l.length := by omega
  have e2 : idxop (.ref n) (.int j) m' = some (.ok l[j], m') := by
    simp only [idxop, nx.2 n _ hn ht]
    rw [atI_nat (List.getElem?_eq_getElem hj)]
    rfl
  refine ⟨_, e2, ?_⟩
  exact ⟨List.getElem_mem _, hs', nx, nl⟩
theorem Src.set {m : Mem} {k : Nat} {o : MO} (h : Src m) (hk : 2 ≤ k) : Src (m.set k o) := by
  obtain ⟨cl, l, mx, tn, h0, h1, r⟩ := h
  exact ⟨cl, l, mx, tn, by rw [List.getElem?_set_ne (by omega)]; exact h0, by rw [List.getElem?_set_ne (by omega)]; exact h1, r⟩
theorem Nx.setNew {m m2 : Mem} {k : Nat} {o : MO} (h : Nx m m2) (hk : m.length ≤ k) : Nx m (m2.set k o) := ⟨by rw [List.length_set]; exact h.1, fun n p hn hp => by
  have := (List.getElem?_eq_some_iff.mp hp).1
  rw [List.getElem?_set_ne (by omega)]
  exact h.2 n p hn hp⟩
theorem perm_erase {α : Type} {l : List α} {j : Nat} (h : j < l.length) : (l[j] :: l.eraseIdx j).Perm l := by
  rw [List.eraseIdx_eq_take_drop_succ]
  refine List.perm_middle.symm.trans ?_
  rw [← List.drop_eq_getElem_cons h, List.take_append_drop]
theorem pop_at {m : Mem} {n j : Nat} {l : List T} (h : m[n]? = some (.lst l)) (hj : j < l.length) (hs : l.length ≤ 16000000) : methop .popAt (.ref n) [.int j] m = some (.ok l[j], m.set n (.lst (l.eraseIdx j))) := by
  have e : ixN l.length (j : Int) = some j := by
    unfold ixN
    rw [if_pos (by omega), if_pos (by omega)]; rfl
  simp only [methop, mtPopAt, h, e, List.getElem?_eq_getElem hj]
  exact guard'_of (decide_eq_true hs) _
/-- _law_mixed -/
def MixedS (F : Fu) : Prop := ∀ (l : List T) (n : Nat) (m : Mem), Src m → 2 ≤ n → m[n]? = some (.lst l) → l.length < 1000000 → Runs (F [.ref 1, .ref n] m) fun r m' => ∃ l2 k, r = .ref k ∧ m'[k]? = some (.lst l2) ∧ l2.Perm l ∧ Src m' ∧ Nx m m' ∧ 2 ≤ k
theorem mixed_ok {Φ : Fns} {N kp : Nat} (f15 : PickS (Φ kp)) : MixedS (runD Φ N (C__law_mixed kp)) := by
  intro l n m hs hn ht h1
  refine wpD rfl ?_
  conv => whnf
  refine ⟨l, ht, ?_⟩
  conv => whnf
  refine ⟨l, List.getElem?_concat_length .., ?_⟩
  conv => whnf
  refine ⟨by omega, ?_⟩
  conv => whnf
  have ml := hs.len
  refine lc_inv (fun i r m' => ∃ rest, m'[m.length]? = some (.lst rest) ∧ (r ++ rest).Perm l ∧ r.length = i ∧ Src m' ∧ Nx m m') ?_ (fun _ _ _ _ _ => rfl) ?_ ?_
  · exact ⟨l, List.getElem?_concat_length .., List.Perm.refl _, rfl, hs.pre (List.prefix_append ..), Nx.pre (List.prefix_append ..)⟩
  · rintro i t r m' hi ⟨rest, g, p, rfl, hs', nx⟩
    have hlt := (List.getElem?_eq_some_iff.mp hi).1
    rw [List.length_map, List.length_range] at hlt
    have pl := p.length_eq
    rw [List.length_append] at pl
    conv => whnf
    refine ⟨fun _ => ?_, fun z => nomatch z⟩
    conv => whnf
    refine ⟨mty_popAt g, ?_⟩
    refine ⟨rest, g, ?_⟩
    conv => whnf
    refine ⟨(f15 rest.length m' hs' (by omega) (by omega)).imp ?_⟩
    rintro _ m2 ⟨j, rfl, j0, j1, hs2, nx2, nl⟩
    obtain ⟨j, rfl⟩ : ∃ k : Nat, j = k := ⟨j.toNat, by omega⟩
    have hj : j < rest.length := by omega
    have g2 := nx2.2 _ _ ml g
    conv => whnf
    refine ⟨_, _, pop_at g2 hj (by omega), ?_⟩
    have g2l := (List.getElem?_eq_some_iff.mp g2).1
    refine ⟨rest.eraseIdx j, List.getElem?_set_self g2l, ?_, by simp, hs2.set ml, (nx.trans nx2).setNew (Nat.le_refl _)⟩
    rw [List.append_assoc]
    exact (List.Perm.append_left r (perm_erase hj)).trans p
  · rintro r m' ⟨rest, g, p, e, hs', nx⟩
    rw [List.length_map, List.length_range] at e
    have pl := p.length_eq
    rw [List.length_append] at pl
    obtain rfl := List.length_eq_zero_iff.mp (show rest.length = 0 by omega)
    rw [List.append_nil] at p
    refine ⟨decide_eq_true (by omega), ?_⟩
    refine ⟨r, _, rfl, List.getElem?_concat_length .., p, hs'.pre (List.prefix_append ..), nx.trans (Nx.pre (List.prefix_append ..)), ?_⟩
    have := nx.1
    show 2 ≤ m'.length
    omega
end Lb
end
section
set_option linter.all false
set_option maxRecDepth 10000
set_option exponentiation.threshold 10000
/-! Lb3: halves, walked for any law. -/
namespace Lb
open PySem PySem.Spec PyProof.Rows L2 Ev
def C_is_long : CD := ⟨1, 1, .cons (.ret (.or (.cmp .gt (.meth .bits (.var 0) (.nil)) (.glob "SURE_BITS" (.int 997))) (.cmp .gt (.bi .len (.cons false (.bi .str (.cons false (.bi .abs (.cons false (.var 0) (.nil))) (.nil))) (.nil))) (.glob "MOST_FIGURES" (.int 300))))) (.nil)⟩
def C_length_made (k_is_long : Nat) : CD := ⟨1, 3, .cons (.for_ (.tup (.cons (.name 1) (.cons (.name 2) (.nil)))) (.seq (.var 0)) (.cons (.ife (.or (.call k_is_long (.cons false (.var 1) (.nil))) (.call k_is_long (.cons false (.var 2) (.nil)))) (.cons (.never) (.nil)) (.nil)) (.nil))) (.cons (.ret (.var 0)) (.nil))⟩
def C_is_power : CD := ⟨1, 1, .cons (.ret (.and (.cmp .gt (.var 0) (.cst (.int 0))) (.cmp .eq (.bin .band (.var 0) (.bin .sub (.var 0) (.cst (.int 1)))) (.cst (.int 0))))) (.nil)⟩
def C_half_told : CD := ⟨2, 3, .cons (.asg (.name 2) (.bi .gcd (.cons false (.var 0) (.cons false (.var 1) (.nil))))) (.cons (.ret (.tup (.cons false (.bin .fdiv (.var 0) (.var 2)) (.cons false (.bin .fdiv (.var 1) (.var 2)) (.nil))))) (.nil))⟩
def C_half_made (k_length_made : Nat) : CD := ⟨1, 1, .cons (.ex (.call k_length_made (.cons false (.tup (.cons false (.var 0) (.nil))) (.nil)))) (.cons (.ret (.var 0)) (.nil))⟩
def C_half_sum (k_half_told : Nat) : CD := ⟨2, 2, .cons (.ret (.call k_half_told (.cons false (.bin .add (.bin .mul (.idx (.var 0) (.cst (.int 0))) (.idx (.var 1) (.cst (.int 1)))) (.bin .mul (.idx (.var 1) (.cst (.int 0))) (.idx (.var 0) (.cst (.int 1))))) (.cons false (.bin .mul (.idx (.var 0) (.cst (.int 1))) (.idx (.var 1) (.cst (.int 1)))) (.nil))))) (.nil)⟩
def C_half_turned : CD := ⟨1, 1, .cons (.ret (.tup (.cons false (.neg (.idx (.var 0) (.cst (.int 0)))) (.cons false (.idx (.var 0) (.cst (.int 1))) (.nil))))) (.nil)⟩
def C_half_product (k_half_told : Nat) : CD := ⟨2, 2, .cons (.ret (.call k_half_told (.cons false (.bin .mul (.idx (.var 0) (.cst (.int 0))) (.idx (.var 1) (.cst (.int 0)))) (.cons false (.bin .mul (.idx (.var 0) (.cst (.int 1))) (.idx (.var 1) (.cst (.int 1)))) (.nil))))) (.nil)⟩
def C_halves_compared : CD := ⟨2, 4, .cons (.par [2, 3] (.cons false (.bin .mul (.idx (.var 0) (.cst (.int 0))) (.idx (.var 1) (.cst (.int 1)))) (.cons false (.bin .mul (.idx (.var 1) (.cst (.int 0))) (.idx (.var 0) (.cst (.int 1)))) (.nil)))) (.cons (.ret (.bin .sub (.cmp .gt (.var 2) (.var 3)) (.cmp .lt (.var 2) (.var 3)))) (.nil))⟩
def C_half_divided (k_half_told : Nat) (k_is_power : Nat) : CD := ⟨2, 5, .cons (.par [3, 4] (.cons false (.bin .mul (.idx (.var 0) (.cst (.int 0))) (.idx (.var 1) (.cst (.int 1)))) (.cons false (.bin .mul (.idx (.var 0) (.cst (.int 1))) (.idx (.var 1) (.cst (.int 0)))) (.nil)))) (.cons (.ife (.cmp .lt (.var 4) (.cst (.int 0))) (.cons (.par [3, 4] (.cons false (.neg (.var 3)) (.cons false (.neg (.var 4)) (.nil)))) (.nil)) (.nil)) (.cons (.asg (.name 2) (.call k_half_told (.cons false (.var 3) (.cons false (.var 4) (.nil))))) (.cons (.ret (.ite (.call k_is_power (.cons false (.idx (.var 2) (.cst (.int 1))) (.nil))) (.var 2) (.cst (.non)))) (.nil))))⟩
def C_number_taken : CD := ⟨2, 4, .cons (.asg (.name 2) (.cst (.int 1))) (.cons (.for_ (.name 3) (.rng (.var 1)) (.cons (.aug 2 .mul (.var 0)) (.nil))) (.cons (.ret (.var 2)) (.nil)))⟩
def C_whole_root (k_number_taken : Nat) : CD := ⟨2, 5, .cons (.asg (.name 2) (.cst (.int 0))) (.cons (.for_ (.name 3) (.rngd (.bin .fdiv (.meth .bits (.var 0) (.nil)) (.var 1)) (.neg (.cst (.int 1)))) (.cons (.asg (.name 4) (.bin .add (.var 2) (.bin .shl (.cst (.int 1)) (.var 3)))) (.cons (.ife (.cmp .le (.call k_number_taken (.cons false (.var 4) (.cons false (.var 1) (.nil)))) (.var 0)) (.cons (.asg (.name 2) (.var 4)) (.nil)) (.nil)) (.nil)))) (.cons (.ret (.var 2)) (.nil)))⟩
def C_half_root (k_whole_root : Nat) (k_number_taken : Nat) : CD := ⟨2, 6, .cons (.asg (.tup (.cons (.name 2) (.cons (.name 3) (.nil)))) (.var 0)) (.cons (.ife (.and (.cmp .lt (.var 2) (.cst (.int 0))) (.cmp .eq (.bin .mod (.var 1) (.cst (.int 2))) (.cst (.int 0)))) (.cons (.ret (.cst (.non))) (.nil)) (.nil)) (.cons (.par [4, 5] (.cons false (.call k_whole_root (.cons false (.bi .abs (.cons false (.var 2) (.nil))) (.cons false (.var 1) (.nil)))) (.cons false (.call k_whole_root (.cons false (.var 3) (.cons false (.var 1) (.nil)))) (.nil)))) (.cons (.ife (.or (.cmp .ne (.call k_number_taken (.cons false (.var 4) (.cons false (.var 1) (.nil)))) (.bi .abs (.cons false (.var 2) (.nil)))) (.cmp .ne (.call k_number_taken (.cons false (.var 5) (.cons false (.var 1) (.nil)))) (.var 3))) (.cons (.ret (.cst (.non))) (.nil)) (.nil)) (.cons (.ret (.tup (.cons false (.ite (.cmp .ge (.var 2) (.cst (.int 0))) (.var 4) (.neg (.var 4))) (.cons false (.var 5) (.nil))))) (.nil)))))⟩
theorem bits_le' {x : Int} {m : Nat} (h : x.natAbs < 2 ^ m) : Builtin.Int.intBits x ≤ m := PyProof.Rows.intBits_le h
theorem mulOk_lt {i j : Int} {a b : Nat} (h : i.natAbs < 2 ^ a) (g : j.natAbs < 2 ^ b) (k : a + b ≤ 134217728) : mulOk i j = true := by
  unfold mulOk
  have h1 := bits_le' h
  have h2 := bits_le' g
  simp only [Bool.or_eq_true, decide_eq_true_eq]
  right
  omega
theorem divOk_lt {j : Int} {a : Nat} (h : 0 < j) (g : j.natAbs < 2 ^ a) (k : a ≤ 9000) : divOk j = true := by
  unfold divOk
  rw [Bool.and_eq_true]
  refine ⟨decide_eq_true h, decide_eq_true ?_⟩
  have := (Nat.log2_lt (n := j.natAbs) (k := a) (by omega)).mpr g
  omega
theorem big_lt {n : Int} {a : Nat} (g : n.natAbs < 2 ^ a) (k : a ≤ 1900) (k0 : 0 < a) : big n = true := by
  unfold big
  refine decide_eq_true ?_
  by_cases z : n.natAbs = 0
  · rw [z]; decide
  · have := (Nat.log2_lt z).mpr g
    omega
theorem str_of {a : Int} {m : Mem} (h : big a = true) : biop .str [.int a] m = some (.ok (.str (toString a)), m) := by
  simp only [biop, biStr, h, guard'_true]
  rfl
theorem len_str {s : Str} {m : Mem} (h : s.length ≤ 16000000) : biop .len [.str s] m = some (.ok (.int s.length), m) := by
  simp only [biop, biLen]
  exact guard'_of (decide_eq_true h) _
def IsLongS (F : Fu) : Prop := ∀ (n : Int) (m : Mem), n.natAbs < 10 ^ 300 → Runs (F [.int n] m) fun r m' => r = .bl false ∧ m' = m
theorem is_long_ok {Φ : Fns} {N : Nat} : IsLongS (runD Φ N C_is_long) := by
  intro n m h
  refine wpD rfl ?_
  have k997 : (10 : Nat) ^ 300 ≤ 2 ^ 997 := by decide +kernel
  have hb : Builtin.Int.intBits n ≤ 997 := bits_le' (Nat.lt_of_lt_of_le h k997)
  conv => whnf
  refine ⟨rfl, ?_⟩
  conv => whnf
  refine ⟨_, _, rfl, ?_⟩
  conv => whnf
  refine ⟨fun e => ?_, fun e => ?_⟩
  · have := of_decide_eq_true e
    omega
  · have ha : 0 ≤ (if n < 0 then -n else n) ∧ (if n < 0 then -n else n).natAbs = n.natAbs := by split <;> omega
    have hs := toString_length_le ha.1 (k := 300) (by decide) (by
      have : (if n < 0 then -n else n) = (((if n < 0 then -n else n).natAbs : Nat) : Int) := by omega
      rw [this, ha.2]
      exact_mod_cast h)
    conv => whnf
    refine ⟨_, _, str_of (big_lt (a := 997) (by rw [ha.2]; exact Nat.lt_of_lt_of_le h k997) (by decide) (by decide)), ?_⟩
    conv => whnf
    refine ⟨_, _, len_str (Nat.le_trans hs (by decide)), ?_⟩
    conv => whnf
    refine ⟨?_, rfl⟩
    refine congrArg T.bl (decide_eq_false ?_)
    have : (toString (if n < 0 then -n else n) : Str).length = (Str.ofString (toString (if n < 0 then -n else n))).length := rfl
    omega
def LengthMadeS (F : Fu) : Prop := ∀ (l : List (Int × Int)) (m : Mem), (∀ p ∈ l, p.1.natAbs < 10 ^ 300 ∧ p.2.natAbs < 10 ^ 300) → Runs (F [En.enc l] m) fun r m' => r = En.enc l ∧ m' = m
theorem length_made_ok {Φ : Fns} {N k : Nat} (f0 : IsLongS (Φ k)) : LengthMadeS (runD Φ N (C_length_made k)) := by
  intro l m h
  refine wpD rfl ?_
  conv => whnf
  refine for_wp (fun i τ m' => m' = m ∧ ∃ x y, τ = [some (En.enc l), x, y]) ⟨rfl, _, _, rfl⟩ (fun _ _ _ _ _ => rfl) ?_ ?_
  · rintro i t τ m' hi ⟨rfl, x, y, rfl⟩
    rw [List.getElem?_map, Option.map_eq_some_iff] at hi
    obtain ⟨⟨p, q⟩, hi, rfl⟩ := hi
    obtain ⟨h1, h2⟩ := h _ (List.mem_of_getElem? hi)
    conv => whnf
    refine ⟨(f0 p _ h1).imp ?_⟩
    rintro _ _ ⟨rfl, rfl⟩
    conv => whnf
    refine ⟨fun z => (nomatch z), fun _ => ?_⟩
    conv => whnf
    refine ⟨(f0 q _ h2).imp ?_⟩
    rintro _ _ ⟨rfl, rfl⟩
    conv => whnf
    refine ⟨fun z => (nomatch z), fun _ => ?_⟩
    exact ⟨rfl, _, _, rfl⟩
  · rintro τ m' ⟨rfl, x, y, rfl⟩
    conv => whnf
    exact ⟨rfl, rfl⟩
def IsPowerS (F : Fu) : Prop := ∀ (n : Nat) (m : Mem), 0 < n → Runs (F [.int n] m) fun r m' => (∃ b, r = .bl b ∧ (b = true ↔ ∃ k, n = 2 ^ k)) ∧ m' = m
theorem is_power_ok {Φ : Fns} {N : Nat} : IsPowerS (runD Φ N C_is_power) := by
  intro n m h
  refine wpD rfl ?_
  conv => whnf
  refine ⟨fun e => ?_, fun e => ?_⟩
  · conv => whnf
    refine ⟨⟨_, rfl, ?_⟩, rfl⟩
    rw [decide_eq_true_eq]
    exact band_pow h
  · exact absurd (of_decide_eq_false e) (by omega)
def HalfToldS (F : Fu) : Prop := ∀ (t b : Int) (m : Mem), 0 < b → b.natAbs < 2 ^ 9000 → Runs (F [.int t, .int b] m) fun r m' => r = En.enc (Rat.divInt t b) ∧ m' = m
theorem half_told_ok {Φ : Fns} {N : Nat} : HalfToldS (runD Φ N C_half_told) := by
  intro t b m hb hb2
  refine wpD rfl ?_
  have hd : Nat.gcd t.natAbs b.natAbs ∣ b.natAbs := Nat.gcd_dvd_right ..
  have h1 : Nat.gcd t.natAbs b.natAbs ≤ b.natAbs := Nat.le_of_dvd (by omega) hd
  have h0 : 0 < Nat.gcd t.natAbs b.natAbs := Nat.gcd_pos_of_pos_right _ (by omega)
  have hg : divOk ((Nat.gcd t.natAbs b.natAbs : Nat) : Int) = true := divOk_lt (a := 9000) (by omega) (by rw [Int.natAbs_natCast]; omega) (by decide)
  conv => whnf
  refine ⟨hg, ?_⟩
  conv => whnf
  refine ⟨hg, ?_⟩
  conv => whnf
  refine ⟨?_, rfl⟩
  have := divInt_half (t := t) hb
  rw [enc_rat]
  injection this with e1 e2
  rw [← e1, ← e2]
def HalfMadeS (F : Fu) : Prop := ∀ (q : Rat) (m : Mem), q.num.natAbs < 10 ^ 300 → q.den < 10 ^ 300 → Runs (F [En.enc q] m) fun r m' => r = En.enc q ∧ m' = m
theorem half_made_ok {Φ : Fns} {N k : Nat} (f1 : LengthMadeS (Φ k)) : HalfMadeS (runD Φ N (C_half_made k)) := by
  intro q m h g
  refine wpD rfl ?_
  conv => whnf
  refine ⟨(f1 [nd q] m fun p hp => ?_).imp ?_⟩
  · rw [List.mem_singleton] at hp
    subst hp
    exact ⟨h, g⟩
  · rintro _ _ ⟨rfl, rfl⟩
    conv => whnf
    exact ⟨rfl, rfl⟩
def Bd (K : Nat) (q : Rat) : Prop := q.num.natAbs < 2 ^ K ∧ q.den < 2 ^ K
theorem Bd.den {K : Nat} {q : Rat} (h : Bd K q) : ((q.den : Int)).natAbs < 2 ^ K := by rw [Int.natAbs_natCast]; exact h.2
def HalfSumS (F : Fu) : Prop := ∀ (a b : Rat) (m : Mem), Bd 4000 a → Bd 4000 b → Runs (F [En.enc a, En.enc b] m) fun r m' => r = En.enc (a + b) ∧ m' = m
theorem dens_lt {a b : Rat} (ha : Bd 4000 a) (hb : Bd 4000 b) : ((a.den : Int) * b.den).natAbs < 2 ^ 9000 := by
  rw [Int.natAbs_mul, Int.natAbs_natCast, Int.natAbs_natCast]
  calc a.den * b.den < 2 ^ 4000 * 2 ^ 4000 := Nat.mul_lt_mul'' ha.2 hb.2
    _ = 2 ^ 8000 := by rw [← Nat.pow_add]
    _ ≤ 2 ^ 9000 := Nat.pow_le_pow_right (by decide) (by decide)
theorem half_sum_ok {Φ : Fns} {N k : Nat} (f : HalfToldS (Φ k)) : HalfSumS (runD Φ N (C_half_sum k)) := by
  intro a b m ha hb
  refine wpD rfl ?_
  conv => whnf
  refine ⟨_, atI_nat (j := 0) rfl, ?_⟩
  conv => whnf
  refine ⟨_, atI_nat (j := 1) rfl, ?_⟩
  conv => whnf
  refine ⟨mulOk_lt ha.1 hb.den (by decide), ?_⟩
  conv => whnf
  refine ⟨_, atI_nat (j := 0) rfl, ?_⟩
  conv => whnf
  refine ⟨_, atI_nat (j := 1) rfl, ?_⟩
  conv => whnf
  refine ⟨mulOk_lt hb.1 ha.den (by decide), ?_⟩
  conv => whnf
  refine ⟨_, atI_nat (j := 1) rfl, ?_⟩
  conv => whnf
  refine ⟨_, atI_nat (j := 1) rfl, ?_⟩
  conv => whnf
  refine ⟨mulOk_lt ha.den hb.den (by decide), ?_⟩
  conv => whnf
  refine ⟨(f _ _ m (Int.mul_pos (den_posI a) (den_posI b)) (dens_lt ha hb)).imp ?_⟩
  rintro _ _ ⟨rfl, rfl⟩
  rw [← add_half, Int.natCast_mul]
  exact ⟨rfl, rfl⟩
def HalfTurnedS (F : Fu) : Prop := ∀ (a : Rat) (m : Mem), Runs (F [En.enc a] m) fun r m' => r = En.enc (-a) ∧ m' = m
theorem half_turned_ok {Φ : Fns} {N : Nat} : HalfTurnedS (runD Φ N C_half_turned) := by
  intro a m
  refine wpD rfl ?_
  conv => whnf
  refine ⟨_, atI_nat (j := 0) rfl, ?_⟩
  conv => whnf
  refine ⟨_, atI_nat (j := 1) rfl, ?_⟩
  conv => whnf
  exact ⟨rfl, rfl⟩
def HalfProductS (F : Fu) : Prop := ∀ (a b : Rat) (m : Mem), Bd 4000 a → Bd 4000 b → Runs (F [En.enc a, En.enc b] m) fun r m' => r = En.enc (a * b) ∧ m' = m
theorem half_product_ok {Φ : Fns} {N k : Nat} (f : HalfToldS (Φ k)) : HalfProductS (runD Φ N (C_half_product k)) := by
  intro a b m ha hb
  refine wpD rfl ?_
  conv => whnf
  refine ⟨_, atI_nat (j := 0) rfl, ?_⟩
  conv => whnf
  refine ⟨_, atI_nat (j := 0) rfl, ?_⟩
  conv => whnf
  refine ⟨mulOk_lt ha.1 hb.1 (by decide), ?_⟩
  conv => whnf
  refine ⟨_, atI_nat (j := 1) rfl, ?_⟩
  conv => whnf
  refine ⟨_, atI_nat (j := 1) rfl, ?_⟩
  conv => whnf
  refine ⟨mulOk_lt ha.den hb.den (by decide), ?_⟩
  conv => whnf
  refine ⟨(f _ _ m (Int.mul_pos (den_posI a) (den_posI b)) (dens_lt ha hb)).imp ?_⟩
  rintro _ _ ⟨rfl, rfl⟩
  rw [← mul_half, Int.natCast_mul]
  exact ⟨rfl, rfl⟩
/-- 1, 0, -1 as above, alike, below -/
def sgn (a b : Rat) : Int := (if b < a then 1 else 0) - (if a < b then 1 else 0)
def HalvesComparedS (F : Fu) : Prop := ∀ (a b : Rat) (m : Mem), Bd 4000 a → Bd 4000 b → Runs (F [En.enc a, En.enc b] m) fun r m' => r = .int (sgn a b) ∧ m' = m
theorem halves_compared_ok {Φ : Fns} {N : Nat} : HalvesComparedS (runD Φ N C_halves_compared) := by
  intro a b m ha hb
  refine wpD rfl ?_
  conv => whnf
  refine ⟨_, atI_nat (j := 0) rfl, ?_⟩
  conv => whnf
  refine ⟨_, atI_nat (j := 1) rfl, ?_⟩
  conv => whnf
  refine ⟨mulOk_lt ha.1 hb.den (by decide), ?_⟩
  conv => whnf
  refine ⟨_, atI_nat (j := 0) rfl, ?_⟩
  conv => whnf
  refine ⟨_, atI_nat (j := 1) rfl, ?_⟩
  conv => whnf
  refine ⟨mulOk_lt hb.1 ha.den (by decide), ?_⟩
  conv => whnf
  refine ⟨_, _, rfl, ?_⟩
  refine ⟨?_, rfl⟩
  unfold sgn
  by_cases h1 : b < a <;> by_cases h2 : a < b <;> simp [h1, h2, ← Rat.lt_iff]
def HalfDividedS (F : Fu) : Prop := ∀ (a b : Rat) (m : Mem), Bd 4000 a → Bd 4000 b → b ≠ 0 → Runs (F [En.enc a, En.enc b] m) fun r m' => ((IsDy (a / b) ∧ r = En.enc (a / b)) ∨ (¬ IsDy (a / b) ∧ r = .non)) ∧ m' = m
theorem half_divided_ok {Φ : Fns} {N k kp : Nat} (f : HalfToldS (Φ k)) (fp : IsPowerS (Φ kp)) : HalfDividedS (runD Φ N (C_half_divided k kp)) := by
  intro a b m ha hb h0
  refine wpD rfl ?_
  have n0 := num_ne h0
  have pa := den_posI a
  have fin : ∀ (t c : Int) (τ1 : Option T) (τ2 : Option T) (τ3 : Option T), 0 < c → c.natAbs < 2 ^ 9000 → Rat.divInt t c = a / b → wpSs Φ N (match (C_half_divided k kp).body with
      | .cons _ (.cons _ r) => r
      | _ => .nil) [τ1, τ2, τ3, some (.int t), some (.int c)] m (dend fun r m' => ((IsDy (a / b) ∧ r = En.enc (a / b)) ∨ (¬ IsDy (a / b) ∧ r = .non)) ∧ m' = m) := by
    intro t c τ1 τ2 τ3 hc hc2 e
    conv => whnf
    refine ⟨(f t c m hc hc2).imp ?_⟩
    rintro _ m ⟨rfl, rfl⟩
    rw [e]
    conv => whnf
    refine ⟨_, atI_nat (j := 1) rfl, ?_⟩
    conv => whnf
    refine ⟨(fp (a / b).den m (Rat.den_pos _)).imp ?_⟩
    rintro _ m ⟨⟨v, rfl, hv⟩, rfl⟩
    conv => whnf
    refine ⟨fun z => ?_, fun z => ?_⟩
    · conv => whnf
      exact ⟨.inl ⟨hv.mp z, rfl⟩, rfl⟩
    · conv => whnf
      refine ⟨.inr ⟨fun y => ?_, rfl⟩, rfl⟩
      rw [hv.mpr y] at z
      cases z
  have e := div_half (a := a) h0
  have lt : ((a.den : Int) * b.num).natAbs < 2 ^ 9000 := by
    rw [Int.natAbs_mul, Int.natAbs_natCast]
    calc a.den * b.num.natAbs < 2 ^ 4000 * 2 ^ 4000 := Nat.mul_lt_mul'' ha.2 hb.1
      _ = 2 ^ 8000 := by rw [← Nat.pow_add]
      _ ≤ 2 ^ 9000 := Nat.pow_le_pow_right (by decide) (by decide)
  have ne : (a.den : Int) * b.num ≠ 0 := Int.mul_ne_zero (by omega) n0
  conv => whnf
  refine ⟨_, atI_nat (j := 0) rfl, ?_⟩
  conv => whnf
  refine ⟨_, atI_nat (j := 1) rfl, ?_⟩
  conv => whnf
  refine ⟨mulOk_lt ha.1 hb.den (by decide), ?_⟩
  conv => whnf
  refine ⟨_, atI_nat (j := 1) rfl, ?_⟩
  conv => whnf
  refine ⟨_, atI_nat (j := 0) rfl, ?_⟩
  conv => whnf
  refine ⟨mulOk_lt ha.den hb.1 (by decide), ?_⟩
  conv => whnf
  refine ⟨fun z => ?_, fun z => ?_⟩
  · have z := of_decide_eq_true z
    rw [if_pos z, if_pos z] at e
    conv => whnf
    exact fin _ _ _ _ _ (by omega) (by rw [Int.natAbs_neg]; exact lt) e
  · have z := of_decide_eq_false z
    rw [if_neg z, if_neg z] at e
    conv => whnf
    exact fin _ _ _ _ _ (by omega) lt e
end Lb
end
section
set_option linter.all false
set_option maxRecDepth 10000
set_option exponentiation.threshold 10000
/-! Lb4: roots of halves. -/
namespace Lb
open PySem PySem.Spec PyProof.Rows L2 Ev
def C__law_taken : CD := ⟨2, 4, .cons (.asg (.name 2) (.cst (.int 1))) (.cons (.for_ (.name 3) (.rng (.var 1)) (.cons (.asg (.name 2) (.bin .mul (.var 2) (.var 0))) (.nil))) (.cons (.ret (.var 2)) (.nil)))⟩
theorem natAbs_pow_lt {x : Int} {K n : Nat} (h : x.natAbs < 2 ^ K) : (x ^ n).natAbs < 2 ^ (K * n + 1) := by
  rw [Int.natAbs_pow]
  calc x.natAbs ^ n ≤ (2 ^ K) ^ n := Nat.pow_le_pow_left (Nat.le_of_lt h) n
    _ = 2 ^ (K * n) := by rw [← Nat.pow_mul]
    _ < 2 ^ (K * n + 1) := Nat.pow_lt_pow_right (by decide) (by omega)
def NumberTakenS (F : Fu) : Prop := ∀ (x : Int) (n K : Nat) (m : Mem), x.natAbs < 2 ^ K → n ≤ 100000 → K * (n + 1) ≤ 1000000 → Runs (F [.int x, .int n] m) fun r m' => r = .int (x ^ n) ∧ m' = m
theorem number_taken_ok {Φ : Fns} {N : Nat} : NumberTakenS (runD Φ N C_number_taken) := by
  intro x n K m hx hn hK
  refine wpD rfl ?_
  conv => whnf
  refine ⟨by omega, ?_⟩
  conv => whnf
  refine for_wp (fun i τ m' => m' = m ∧ ∃ y, τ = [some (.int x), some (.int n), some (.int (x ^ i)), y]) ⟨rfl, none, by rw [Int.pow_zero]; rfl⟩ (fun _ _ _ _ _ => rfl) ?_ ?_
  · rintro i t τ m' hi ⟨rfl, y, rfl⟩
    have hlt := (List.getElem?_eq_some_iff.mp hi).1
    rw [List.length_map, List.length_range] at hlt
    have hlt : i < n := by simpa using hlt
    conv => whnf
    have h1 := natAbs_pow_lt (n := i) hx
    have h2 : K * i ≤ K * (n + 1) := Nat.mul_le_mul_left K (by omega)
    have h3 : K ≤ K * (n + 1) := Nat.le_mul_of_pos_right K (by omega)
    refine ⟨w_guard.mpr ⟨mulOk_lt h1 hx (by omega), Runs.ret ?_⟩⟩
    refine ⟨rfl, some t, ?_⟩
    rw [Int.pow_succ]
    rfl
  · rintro τ m' ⟨rfl, y, rfl⟩
    conv => whnf
    rw [List.length_map, List.length_range]
    exact ⟨rfl, rfl⟩
theorem law_taken_ok {Φ : Fns} {N : Nat} : NumberTakenS (runD Φ N C__law_taken) := by
  intro x n K m hx hn hK
  refine wpD rfl ?_
  conv => whnf
  refine ⟨by omega, ?_⟩
  conv => whnf
  refine for_wp (fun i τ m' => m' = m ∧ ∃ y, τ = [some (.int x), some (.int n), some (.int (x ^ i)), y]) ⟨rfl, none, by rw [Int.pow_zero]; rfl⟩ (fun _ _ _ _ _ => rfl) ?_ ?_
  · rintro i t τ m' hi ⟨rfl, y, rfl⟩
    have hlt := (List.getElem?_eq_some_iff.mp hi).1
    rw [List.length_map, List.length_range] at hlt
    have hlt : i < n := by simpa using hlt
    conv => whnf
    have h1 := natAbs_pow_lt (n := i) hx
    have h2 : K * i ≤ K * (n + 1) := Nat.mul_le_mul_left K (by omega)
    have h3 : K ≤ K * (n + 1) := Nat.le_mul_of_pos_right K (by omega)
    refine ⟨mulOk_lt h1 hx (by omega), ?_⟩
    conv => whnf
    refine ⟨rfl, some t, ?_⟩
    rw [Int.pow_succ]
    rfl
  · rintro τ m' ⟨rfl, y, rfl⟩
    conv => whnf
    rw [List.length_map, List.length_range]
    exact ⟨rfl, rfl⟩
theorem shl_ok {i j : Int} {m : Mem} (h : powOk i j = true) : binop .shl (.int i) (.int j) m = some (.ok (.int (i * 2 ^ j.toNat)), m) := by
  simp only [binop, h, guard'_true]
  rfl
def WholeRootS (F : Fu) : Prop := ∀ (x k : Nat) (m : Mem), 2 ≤ k → k ≤ 100 → x < 2 ^ 2000 → Runs (F [.int x, .int k] m) fun r m' => (∃ w : Nat, r = .int w ∧ w ^ k ≤ x ∧ x < (w + 1) ^ k) ∧ m' = m
theorem whole_root_ok {Φ : Fns} {N kt : Nat} (f : NumberTakenS (Φ kt)) : WholeRootS (runD Φ N (C_whole_root kt)) := by
  intro x k m hk hk2 hx
  refine wpD rfl ?_
  have hb1 : Builtin.Int.intBits (x : Int) ≤ 2000 := bits_le' (by rw [Int.natAbs_natCast]; exact hx)
  have hb2 : x < 2 ^ Builtin.Int.intBits (x : Int) := by
    have := (intBits_le_iff (m := Builtin.Int.intBits (x : Int)) (x := (x : Int))).mp (Nat.le_refl _)
    rwa [Int.natAbs_natCast] at this
  generalize hB : Builtin.Int.intBits (x : Int) = B at *
  have hq : (B : Int) / k = ((B / k : Nat) : Int) := by simp
  have hp : B / k ≤ 1000 := by
    have : B / k ≤ B / 2 := Nat.div_le_div_left hk (by decide)
    omega
  have hx0 : x < 2 ^ ((B / k + 1) * k) := by
    refine Nat.lt_of_lt_of_le hb2 (Nat.pow_le_pow_right (by decide) ?_)
    have := Nat.div_add_mod B k
    have h2 := Nat.mod_lt B (show 0 < k by omega)
    rw [Nat.add_mul, Nat.mul_comm]
    omega
  generalize hP : B / k = P at *
  conv => whnf
  refine ⟨rfl, ?_⟩
  conv => whnf
  refine ⟨.int (B : Nat), m, by rw [← hB]; rfl, ?_⟩
  conv => whnf
  refine ⟨divOk_small (by omega) (by omega), ?_⟩
  conv => whnf
  rw [hq]
  refine ⟨by omega, ?_⟩
  conv => whnf
  refine for_wp (fun i τ m' => m' = m ∧ i ≤ P + 1 ∧ ∃ (w : Nat) (y z : Option T), τ = [some (.int x), some (.int k), some (.int w), y, z] ∧ w ^ k ≤ x ∧ x < (w + 2 ^ (P + 1 - i)) ^ k ∧ w + 2 ^ (P + 1 - i) ≤ 2 ^ (P + 1)) ?_ (fun _ _ _ _ _ => rfl) ?_ ?_
  · refine ⟨rfl, Nat.zero_le _, 0, none, none, rfl, ?_, ?_, ?_⟩
    · rw [Nat.zero_pow (by omega)]; exact Nat.zero_le _
    · rw [Nat.zero_add, Nat.sub_zero, ← Nat.pow_mul]; exact hx0
    · rw [Nat.zero_add, Nat.sub_zero]; exact Nat.le_refl _
  · rintro i t τ m' hi ⟨rfl, hiP, w, y, z, rfl, h1, h2, h3⟩
    rw [List.getElem?_map] at hi
    have hlt := List.getElem?_range (n := ((P : Int) - -1).toNat) (i := i)
    have hiP2 : i < P + 1 := by
      rcases Nat.lt_or_ge i ((P : Int) - -1).toNat with z | z
      · omega
      · rw [List.getElem?_eq_none (by rw [List.length_range]; exact z)] at hi
        cases hi
    rw [hlt (by omega)] at hi
    cases hi
    obtain ⟨e, he⟩ : ∃ e : Nat, e = P - i := ⟨_, rfl⟩
    have e1 : P + 1 - i = e + 1 := by omega
    have e2 : P + 1 - (i + 1) = e := by omega
    rw [e1] at h2 h3
    rw [e2]
    have e3 : (P : Int) - Int.ofNat i = (e : Int) := by rw [he]; show (P : Int) - (i : Int) = _; omega
    show wpT (asgT _ (T.int ((P : Int) - Int.ofNat i)) _) _
    rw [e3]
    rw [Nat.pow_succ] at h2 h3
    have hw : w + 2 ^ e < 2 ^ 1003 := by
      have : 2 ^ (P + 1) < 2 ^ 1003 := Nat.pow_lt_pow_right (by decide) (by omega)
      have := Nat.pow_pos (n := e) (show 0 < 2 by decide)
      omega
    conv => whnf
    refine ⟨_, _, shl_ok (by
      unfold powOk
      simp only [Bool.and_eq_true, decide_eq_true_eq]
      refine ⟨⟨by omega, by omega⟩, by decide⟩), ?_⟩
    have e4 : (w : Int) + 1 * 2 ^ (e : Int).toNat = ((w + 2 ^ e : Nat) : Int) := by
      rw [Int.one_mul, Int.toNat_natCast, Int.natCast_add, Int.natCast_pow]
      rfl
    conv => whnf
    rw [e4]
    refine ⟨(f ((w + 2 ^ e : Nat) : Int) k 1003 _ (by rw [Int.natAbs_natCast]; exact hw) (by omega) (by omega)).imp ?_⟩
    rintro _ _ ⟨rfl, rfl⟩
    conv => whnf
    have e5 : (((w + 2 ^ e : Nat) : Int) ^ k ≤ (x : Int)) ↔ (w + 2 ^ e) ^ k ≤ x := by
      rw [← Int.natCast_pow]
      exact Int.ofNat_le
    refine ⟨fun c => ?_, fun c => ?_⟩
    · have c := e5.mp (of_decide_eq_true c)
      conv => whnf
      refine ⟨rfl, hiP2, w + 2 ^ e, some (.int e), some (.int ((w + 2 ^ e : Nat) : Int)), rfl, c, ?_, by omega⟩
      rw [show w + 2 ^ e + 2 ^ e = w + 2 ^ e * 2 by omega]
      exact h2
    · have c : ¬ (w + 2 ^ e) ^ k ≤ x := fun y => of_decide_eq_false c (e5.mpr y)
      conv => whnf
      exact ⟨rfl, hiP2, w, some (.int e), some (.int ((w + 2 ^ e : Nat) : Int)), rfl, h1, by omega, by omega⟩
  · rintro τ m' ⟨rfl, _, w, y, z, rfl, h1, h2, h3⟩
    conv => whnf
    have e1 : (P + 1 - ((List.range ((P : Int) - -1).toNat).map fun k => T.int ((P : Int) - Int.ofNat k)).length) = 0 := by
      rw [List.length_map, List.length_range]; omega
    refine ⟨⟨w, rfl, h1, ?_⟩, rfl⟩
    have h2 := h2
    rw [show (P + 1 - (_ : List T).length) = 0 from e1] at h2
    simpa using h2
end Lb
end
section
set_option linter.all false
set_option maxRecDepth 10000
set_option exponentiation.threshold 10000
/-! Lb5: roots of halves. -/
namespace Lb
open PySem PySem.Spec PyProof.Rows L2 Ev
theorem pow_lt_pow {a b k : Nat} (h : a < b) (hk : 0 < k) : a ^ k < b ^ k := Nat.pow_lt_pow_left h (by omega)
theorem root_unique {a b k n : Nat} (hk : 0 < k) (h1 : a ^ k ≤ n) (h2 : n < (a + 1) ^ k) (h : b ^ k = n) : a = b := by
  rcases Nat.lt_trichotomy a b with z | z | z
  · have := Nat.pow_le_pow_left (show a + 1 ≤ b from z) k
    omega
  · exact z
  · have := pow_lt_pow z hk
    omega
theorem coprime_of_pow {a b k : Nat} (hk : 0 < k) (h : Nat.Coprime (a ^ k) (b ^ k)) : Nat.Coprime a b := by
  have h1 : Nat.gcd a b ∣ a ^ k := Nat.dvd_trans (Nat.gcd_dvd_left ..) (by have := Nat.pow_dvd_pow a (show 1 ≤ k from hk); rwa [Nat.pow_one] at this)
  have h2 : Nat.gcd a b ∣ b ^ k := Nat.dvd_trans (Nat.gcd_dvd_right ..) (by have := Nat.pow_dvd_pow b (show 1 ≤ k from hk); rwa [Nat.pow_one] at this)
  have := Nat.dvd_gcd h1 h2
  rw [h] at this
  exact Nat.eq_one_of_dvd_one this
/-- a root put together -/
theorem root_make {q : Rat} {k a b : Nat} (hk : 0 < k) (ha : a ^ k = q.num.natAbs) (hb : b ^ k = q.den) (hs : 0 ≤ q.num ∨ k % 2 = 1) :
    ∃ x : Rat, x ^ k = q ∧ x.num = (if 0 ≤ q.num then (a : Int) else -(a : Int)) ∧ x.den = b := by
  have hb0 : b ≠ 0 := by
    rintro rfl
    rw [Nat.zero_pow hk] at hb
    exact q.den_nz hb.symm
  have hc : Nat.Coprime a b := coprime_of_pow hk (by rw [ha, hb]; exact q.reduced)
  refine ⟨⟨if 0 ≤ q.num then (a : Int) else -(a : Int), b, hb0, ?_⟩, ?_, rfl, rfl⟩
  · split
    · simpa using hc
    · simpa using hc
  · refine Rat.ext ?_ ?_
    · rw [Rat.num_pow]
      show (if 0 ≤ q.num then (a : Int) else -(a : Int)) ^ k = q.num
      by_cases z : 0 ≤ q.num
      · rw [if_pos z, ← Int.natCast_pow, ha]; omega
      · rw [if_neg z]
        have ho : k % 2 = 1 := hs.resolve_left z
        have e : (-(a : Int)) ^ k = -((a : Int) ^ k) := by
          obtain ⟨j, rfl⟩ : ∃ j, k = 2 * j + 1 := ⟨k / 2, by omega⟩
          rw [Int.pow_succ, Int.pow_succ, Int.pow_mul, Int.pow_mul]
          rw [show (-(a : Int)) ^ 2 = (a : Int) ^ 2 by rw [Int.pow_succ, Int.pow_succ, Int.pow_succ, Int.pow_succ]; simp only [Int.pow_zero, Int.one_mul, Int.neg_mul_neg]]
          rw [Int.mul_neg]
        rw [e, ← Int.natCast_pow, ha]; omega
    · rw [Rat.den_pow]; exact hb
theorem root_parts {x q : Rat} {k : Nat} (h : x ^ k = q) : x.num.natAbs ^ k = q.num.natAbs ∧ x.den ^ k = q.den := by
  subst h
  exact ⟨by rw [Rat.num_pow, Int.natAbs_pow], rfl⟩
theorem even_pow_nonneg {x : Rat} {k : Nat} (h : k % 2 = 0) : 0 ≤ (x ^ k).num := by
  rw [Rat.num_pow]
  obtain ⟨j, rfl⟩ : ∃ j, k = 2 * j := ⟨k / 2, by omega⟩
  rw [Int.pow_mul]
  refine Int.pow_nonneg ?_
  rw [Int.pow_succ, Int.pow_succ, Int.pow_zero, Int.one_mul]
  rcases Int.le_total 0 x.num with z | z
  · exact Int.mul_nonneg z z
  · exact Int.mul_nonneg_of_nonpos_of_nonpos z z
/-- the root that is told -/
def IsRoot (q : Rat) (k : Nat) (x : Rat) : Prop := x ^ k = q ∧ (0 ≤ q.num → 0 ≤ x.num)
def HalfRootS (F : Fu) : Prop := ∀ (q : Rat) (k : Nat) (m : Mem), 2 ≤ k → k ≤ 100 → Bd 2000 q → Runs (F [En.enc q, .int k] m) fun r m' => ((∃ x, IsRoot q k x ∧ r = En.enc x) ∨ ((∀ x : Rat, x ^ k ≠ q) ∧ r = .non)) ∧ m' = m
theorem half_root_ok {Φ : Fns} {N kw kt : Nat} (fw : WholeRootS (Φ kw)) (ft : NumberTakenS (Φ kt)) : HalfRootS (runD Φ N (C_half_root kw kt)) := by
  intro q k m hk hk2 hq
  refine wpD rfl ?_
  have hab : (if q.num < 0 then -q.num else q.num) = (q.num.natAbs : Int) := by split <;> omega
  have main : ¬ (q.num < 0 ∧ k % 2 = 0) → wpSs Φ N (match (C_half_root kw kt).body with
      | .cons _ (.cons _ r) => r
      | _ => .nil) [some (En.enc q), some (.int k), some (.int q.num), some (.int q.den), none, none] m (dend fun r m' => ((∃ x, IsRoot q k x ∧ r = En.enc x) ∨ ((∀ x : Rat, x ^ k ≠ q) ∧ r = .non)) ∧ m' = m) := by
    intro hn
    conv => whnf
    rw [hab]
    refine ⟨(fw q.num.natAbs k m hk hk2 hq.1).imp ?_⟩
    rintro _ m ⟨⟨a, rfl, a1, a2⟩, rfl⟩
    conv => whnf
    refine ⟨(fw q.den k m hk hk2 hq.2).imp ?_⟩
    rintro _ m ⟨⟨b, rfl, b1, b2⟩, rfl⟩
    have la : a < 2 ^ 2000 := Nat.lt_of_le_of_lt (Nat.le_trans (Nat.le_self_pow (by omega) a) a1) hq.1
    have lb : b < 2 ^ 2000 := Nat.lt_of_le_of_lt (Nat.le_trans (Nat.le_self_pow (by omega) b) b1) hq.2
    have no : (a ^ k ≠ q.num.natAbs ∨ b ^ k ≠ q.den) → ∀ x : Rat, x ^ k ≠ q := by
      intro h x e
      obtain ⟨e1, e2⟩ := root_parts e
      rcases h with h | h
      · rw [root_unique (by omega) a1 a2 e1] at h; exact h e1
      · rw [root_unique (by omega) b1 b2 e2] at h; exact h e2
    conv => whnf
    refine ⟨(ft a k 2000 m (by rw [Int.natAbs_natCast]; exact la) (by omega) (by omega)).imp ?_⟩
    rintro _ m ⟨rfl, rfl⟩
    conv => whnf
    rw [hab, ← Int.natCast_pow]
    refine ⟨fun z => ?_, fun z => ?_⟩
    · conv => whnf
      refine ⟨fun _ => ?_, fun y => nomatch y⟩
      conv => whnf
      refine ⟨.inr ⟨no (.inl fun e => ?_), rfl⟩, rfl⟩
      rw [e] at z
      simp at z
    · have ea : a ^ k = q.num.natAbs := by
        have : ((a ^ k : Nat) : Int) = (q.num.natAbs : Int) := by simpa using z
        exact_mod_cast this
      conv => whnf
      refine ⟨(ft b k 2000 m (by rw [Int.natAbs_natCast]; exact lb) (by omega) (by omega)).imp ?_⟩
      rintro _ m ⟨rfl, rfl⟩
      conv => whnf
      rw [← Int.natCast_pow]
      refine ⟨fun z => ?_, fun z => ?_⟩
      · conv => whnf
        refine ⟨.inr ⟨no (.inr fun e => ?_), rfl⟩, rfl⟩
        rw [e] at z
        simp at z
      · have eb : b ^ k = q.den := by
          have : ((b ^ k : Nat) : Int) = (q.den : Int) := by simpa using z
          exact_mod_cast this
        obtain ⟨x, x1, x2, x3⟩ := root_make (by omega) ea eb (by omega)
        conv => whnf
        refine ⟨fun c => ?_, fun c => ?_⟩
        · have c := of_decide_eq_true c
          rw [if_pos c] at x2
          conv => whnf
          refine ⟨.inl ⟨x, ⟨x1, fun _ => by omega⟩, ?_⟩, rfl⟩
          rw [enc_rat, x2, x3]
        · have c := of_decide_eq_false c
          rw [if_neg c] at x2
          conv => whnf
          refine ⟨.inl ⟨x, ⟨x1, fun y => absurd y c⟩, ?_⟩, rfl⟩
          rw [enc_rat, x2, x3]
  conv => whnf
  refine ⟨fun z => ?_, fun z => ?_⟩
  · have z := of_decide_eq_true z
    conv => whnf
    refine ⟨by decide, ?_⟩
    conv => whnf
    refine ⟨fun y => ?_, fun y => ?_⟩
    · have y : (k : Int) % 2 = 0 := of_decide_eq_true y
      conv => whnf
      refine ⟨.inr ⟨fun x e => ?_, rfl⟩, rfl⟩
      have := even_pow_nonneg (x := x) (k := k) (by omega)
      rw [e] at this
      omega
    · have y : ¬ (k : Int) % 2 = 0 := of_decide_eq_false y
      exact main (by omega)
  · have z := of_decide_eq_false z
    conv => whnf
    refine ⟨fun y => (nomatch y), fun _ => ?_⟩
    exact main fun y => z y.1
end Lb
end
section
set_option linter.all false
set_option maxRecDepth 10000
set_option exponentiation.threshold 10000
/-! Lb6: numbers told, walked for any law. -/
namespace Lb
open PySem PySem.Spec PyProof.Rows L2 Ev
def C_number_told (k_half_sum : Nat) : CD := ⟨1, 7, .cons (.asg (.name 1) (.dnew true)) (.cons (.for_ (.tup (.cons (.name 4) (.cons (.name 5) (.nil)))) (.seq (.var 0)) (.cons (.sub (.var 1) (.var 4) (.call k_half_sum (.cons false (.meth .get2 (.var 1) (.cons false (.var 4) (.cons false (.glob "NOUGHT" (.tup [.int 0, .int 1])) (.nil)))) (.cons false (.var 5) (.nil))))) (.nil))) (.cons (.asg (.name 2) (.biq .maxl (.lst (.cons false (.cst (.int 1)) (.cons true (.mk (.lcd (.idx (.var 4) (.cst (.int 1))) (.name 4) 1 .none [4])) (.nil)))))) (.cons (.asg (.name 3) (.mk (.rev (.sorted (.lcd (.tup (.cons false (.bin .mul (.idx (.var 4) (.cst (.int 0))) (.bin .fdiv (.var 2) (.idx (.var 4) (.cst (.int 1))))) (.cons false (.var 4) (.nil)))) (.name 4) 1 .none [4]))))) (.cons (.ret (.biq .tuple (.lc (.tup (.cons false (.var 4) (.cons false (.idx (.var 1) (.var 4)) (.nil)))) (.tup (.cons (.name 6) (.cons (.name 4) (.nil)))) (.seq (.var 3)) (.some (.cmp .ne (.idx (.var 1) (.var 4)) (.glob "NOUGHT" (.tup [.int 0, .int 1])))) [6, 4]))) (.nil)))))⟩
theorem put_new {κ α : Type} [DecidableEq κ] {kvs : List (κ × α)} {k : κ} {v : α} (h : ∀ p ∈ kvs, p.1 ≠ k) : put kvs k v = kvs ++ [(k, v)] := by
  unfold put
  rw [if_neg]
  simp only [List.any_eq_true, decide_eq_true_eq, not_exists, not_and]
  exact h
theorem merge_new {κ α : Type} [DecidableEq κ] : ∀ (kvs acc : List (κ × α)), (acc ++ kvs).Pairwise (fun p q => p.1 ≠ q.1) → merge acc kvs = acc ++ kvs
  | [], acc, _ => by simp [merge]
  | (k, v) :: r, acc, h => by
    unfold merge
    rw [put_new, merge_new r (acc ++ [(k, v)]) (by simpa using h)]
    · simp
    · intro p hp
      exact (List.pairwise_append.mp h).2.2 p hp _ (List.mem_cons_self ..)
theorem look_cons {κ α : Type} [DecidableEq κ] (a : κ × α) (r : List (κ × α)) (k : κ) : look (a :: r) k = if a.1 = k then some a.2 else look r k := by
  unfold look
  by_cases h : a.1 = k
  · simp [h]
  · simp [h]
theorem put_cons {κ α : Type} [DecidableEq κ] (a : κ × α) (r : List (κ × α)) (k : κ) (v : α) (h : a.1 = k → ∀ x ∈ r, x.1 ≠ k) : put (a :: r) k v = if a.1 = k then (a.1, v) :: r else a :: put r k v := by
  unfold put
  by_cases e : a.1 = k
  · have h := h e
    simp only [List.any_cons, e, decide_true, Bool.true_or, ↓reduceIte, List.map_cons]
    congr 1
    conv => rhs; rw [← List.map_id r]
    refine List.map_congr_left fun x hx => ?_
    rw [if_neg (h x hx)]
    rfl
  · simp only [List.any_cons, e, decide_false, Bool.false_or, List.map_cons, ↓reduceIte]
    split <;> rfl
theorem take_succ {α : Type} {l : List α} {i : Nat} {a : α} (h : l[i]? = some a) : l.take (i + 1) = l.take i ++ [a] := by
  rw [List.take_add_one, h]; rfl
theorem seqOf_new {m : Mem} {l : List T} : seqOf (m ++ [.lst l]) (.ref m.length) = some l := by
  simp only [seqOf, List.getElem?_concat_length]
theorem stay_at {m m1 : Mem} {t : T} {l : List T} (h : seqOf m t = some l) (p : m <+: m1) : stayOf m1 t = stayOf m t := by
  unfold seqOf at h
  split at h
  · rfl
  · rfl
  · split at h
    · rename_i e
      simp only [stayOf, e, pre_get p e]
    · cases h
  · cases h
theorem set_new {m : Mem} {o o' : MO} : (m ++ [o]).set m.length o' = m ++ [o'] := by simp
abbrev ky (p : Rat) : List Key := [.inl p.num, .inl p.den]
theorem ky_inj {p q : Rat} (h : ky p = ky q) : p = q := by
  injection h with h1 h2
  injection h1 with h1
  injection h2 with h2 _
  injection h2 with h2
  exact Rat.ext h1 (by omega)
def kvD (kv : Nu) : List (List Key × T) := kv.map fun x => (ky x.1, En.enc x.2)
theorem look_kvD {kv : Nu} (nd : kv.Pairwise fun x y => x.1 ≠ y.1) (p : Rat) : (look (kvD kv) (ky p)).getD (En.enc (0 : Rat)) = En.enc (cnt kv p) := by
  induction kv with
  | nil => rfl
  | cons x kv ih =>
    obtain ⟨h1, h2⟩ := List.pairwise_cons.mp nd
    show (look ((ky x.1, En.enc x.2) :: kvD kv) (ky p)).getD _ = _
    rw [look_cons, cnt_cons]
    by_cases e : x.1 = p
    · subst e
      rw [if_pos rfl, if_pos rfl, cnt_none fun q hq => (h1 q hq).symm, Rat.add_zero]
      rfl
    · rw [if_neg (fun z => e (ky_inj z)), if_neg e, ih h2, Rat.zero_add]
theorem look_mem {kv : Nu} (nd : kv.Pairwise fun x y => x.1 ≠ y.1) {x : Rat × Rat} (hx : x ∈ kv) : look (kvD kv) (ky x.1) = some (En.enc x.2) := by
  induction kv with
  | nil => cases hx
  | cons y kv ih =>
    obtain ⟨h1, h2⟩ := List.pairwise_cons.mp nd
    show look ((ky y.1, En.enc y.2) :: kvD kv) (ky x.1) = _
    rw [look_cons]
    rcases List.mem_cons.mp hx with rfl | hx
    · rw [if_pos rfl]
    · rw [if_neg (fun z => h1 x hx (ky_inj z)), ih h2 hx]
theorem put_kvD {kv : Nu} (nd : kv.Pairwise fun x y => x.1 ≠ y.1) (p q : Rat) : put (kvD kv) (ky p) (En.enc (cnt kv p + q)) = kvD (addTo kv p q) := by
  induction kv with
  | nil =>
    show [(ky p, En.enc (cnt [] p + q))] = [(ky p, En.enc q)]
    rw [cnt_nil, Rat.zero_add]
  | cons x kv ih =>
    obtain ⟨h1, h2⟩ := List.pairwise_cons.mp nd
    obtain ⟨a, b⟩ := x
    show put ((ky a, En.enc b) :: kvD kv) (ky p) _ = _
    rw [put_cons]
    · rw [cnt_cons]
      by_cases e : a = p
      · subst e
        have : cnt kv a = 0 := cnt_none fun z hz => (h1 z hz).symm
        simp only [addTo, this, ↓reduceIte, kvD, List.map_cons, Rat.add_zero]
      · have e2 : ky a ≠ ky p := fun z => e (ky_inj z)
        have e3 : addTo ((a, b) :: kv) p q = (a, b) :: addTo kv p q := by simp only [addTo, if_neg e]
        rw [if_neg e2, if_neg e, Rat.zero_add, ih h2, e3]
        rfl
    · intro e y hy
      obtain ⟨z, hz, rfl⟩ := List.mem_map.mp hy
      intro e2
      exact h1 z hz (ky_inj (e.trans e2.symm))
theorem kvD_len (kv : Nu) : (kvD kv).length = kv.length := by simp [kvD]
theorem kvD_keys (kv : Nu) : ((kvD kv).map fun x => T.tup (x.1.map kT)) = kv.map fun x => En.enc x.1 := by
  unfold kvD
  rw [List.map_map]
  rfl
theorem get2_kv {m : Mem} {n : Nat} {lk : Bool} {kv : Nu} (h : m[n]? = some (.dT lk (kvD kv))) (nd : kv.Pairwise fun x y => x.1 ≠ y.1) (p : Rat) : methop .get2 (.ref n) [T.tup [.int p.num, .int p.den], .tup [.int 0, .int 1]] m = some (.ok (En.enc (cnt kv p)), m) := by
  rw [get2_dT h (k := ky p) rfl, ← look_kvD nd]
  rfl
theorem set_kv {m : Mem} {n : Nat} {kv : Nu} (h : m[n]? = some (.dT false (kvD kv))) (nd : kv.Pairwise fun x y => x.1 ≠ y.1) (hl : kv.length ≤ 16000000) (p q : Rat) : setop (.ref n) (T.tup [.int p.num, .int p.den]) (En.enc (cnt kv p + q)) m = some (m.set n (.dT false (kvD (addTo kv p q)))) := by
  rw [set_dT h (k := ky p) rfl (by rw [kvD_len]; exact hl), put_kvD nd]
theorem idx_kv {m : Mem} {n : Nat} {lk : Bool} {kv : Nu} (h : m[n]? = some (.dT lk (kvD kv))) (nd : kv.Pairwise fun x y => x.1 ≠ y.1) {x : Rat × Rat} (hx : x ∈ kv) : idxop (.ref n) (T.tup [.int x.1.num, .int x.1.den]) m = some (.ok (En.enc x.2), m) :=
  idx_dT h (k := ky x.1) rfl (look_mem nd hx)
theorem maxl_of {l : List Int} {B : Int} {m : Mem} (h : maxI l = some B) : bqop .maxl (l.map En.enc) m = some (.ok (.int B), m) := by
  unfold bqop
  simp only [intsOf_enc, h]
  rfl
/-- the greatest of some -/
theorem max_of : ∀ (a : Int) (l : List Int), ∃ B, maxI (a :: l) = some B ∧ B ∈ a :: l ∧ ∀ b ∈ a :: l, b ≤ B := by
  intro a l
  induction l generalizing a with
  | nil => exact ⟨a, rfl, List.mem_singleton.mpr rfl, fun b hb => by rw [List.mem_singleton] at hb; omega⟩
  | cons c l ih =>
    obtain ⟨B, e, hB, hb⟩ := ih c
    refine ⟨if a < B then B else a, ?_, ?_, fun b hb2 => ?_⟩
    · show (maxI (c :: l)).map _ = _
      rw [e]; rfl
    · split
      · exact List.mem_cons_of_mem _ hB
      · exact List.mem_cons_self ..
    · rcases List.mem_cons.mp hb2 with rfl | hb2
      · split <;> omega
      · have := hb b hb2
        split <;> omega
/-- how many whole ones of a bottom -/
def sz (B : Int) (p : Rat) : Int := p.num * (B / (p.den : Int))
theorem sz_mono {B : Int} (hB : 0 < B) {p q : Rat} (hp : (p.den : Int) ∣ B) (hq : (q.den : Int) ∣ B) : sz B p ≤ sz B q ↔ p ≤ q := by
  obtain ⟨c, hc⟩ := hp
  obtain ⟨d, hd⟩ := hq
  have pp := den_posI p
  have pq := den_posI q
  have e1 : B / (p.den : Int) = c := by rw [hc]; exact Int.mul_ediv_cancel_left _ (by omega)
  have e2 : B / (q.den : Int) = d := by rw [hd]; exact Int.mul_ediv_cancel_left _ (by omega)
  unfold sz
  rw [e1, e2, Rat.le_iff]
  have l1 : p.num * c * ((p.den : Int) * q.den) = p.num * q.den * B := by rw [hc]; ac_rfl
  have l2 : q.num * d * ((p.den : Int) * q.den) = q.num * p.den * B := by rw [hd]; ac_rfl
  have pos := Int.mul_pos pp pq
  rw [← Int.mul_le_mul_right pos, l1, l2, Int.mul_le_mul_right hB]
end Lb
end
section
set_option linter.all false
set_option maxRecDepth 10000
set_option exponentiation.threshold 10000
/-! Lb7: number_told, walked for any law. -/
namespace Lb
open PySem PySem.Spec PyProof.Rows L2 Ev
theorem Src.new {m : Mem} {o : MO} (h : Src m) : Src (m ++ [o]) := h.pre (List.prefix_append ..)
theorem Nx.new {m : Mem} {o : MO} : Nx m (m ++ [o]) := Nx.pre (List.prefix_append ..)
theorem get_new {m : Mem} {o : MO} : (m ++ [o])[m.length]? = some o := List.getElem?_concat_length ..
theorem nought_eq : (0 : Rat) = ⟨0, 1, by decide, by decide⟩ := rfl
/-- an e that may be told -/
def EOk (p : Rat) : Prop := IsDy p ∧ Bd 4000 p
/-- terms that may be told -/
structure TOk (ts : Nu) : Prop where
  e : ∀ t ∈ ts, EOk t.1
  a : ∀ t ∈ ts, Bd 4000 t.2
  s : ∀ i p, Bd 4000 (cnt (ts.take i) p)
  l : ts.length ≤ 100000
theorem pow_dvd_of_le {a b : Nat} (h : (2 ^ a : Nat) ≤ 2 ^ b) : 2 ^ a ∣ 2 ^ b := Nat.pow_dvd_pow 2 ((Nat.pow_le_pow_iff_right (by decide)).mp h)
theorem bot_dvd {G : Nu} {B : Int} (hG : ∀ x ∈ G, IsDy x.1) (hB : B ∈ (1 : Int) :: G.map fun x => (x.1.den : Int)) (hb : ∀ b ∈ (1 : Int) :: G.map fun x => (x.1.den : Int), b ≤ B) : 0 < B ∧ ∀ x ∈ G, (x.1.den : Int) ∣ B := by
  have h1 : 1 ≤ B := hb 1 (List.mem_cons_self ..)
  refine ⟨by omega, fun x hx => ?_⟩
  obtain ⟨k, hk⟩ := hG x hx
  have hle := hb (x.1.den : Int) (List.mem_cons_of_mem _ (List.mem_map_of_mem hx))
  rcases List.mem_cons.mp hB with e | hB
  · have : x.1.den = 1 := by have := x.1.den_pos; omega
    rw [this]; exact Int.one_dvd _
  · obtain ⟨y, hy, rfl⟩ := List.mem_map.mp hB
    obtain ⟨j, hj⟩ := hG y hy
    have : x.1.den ≤ y.1.den := by omega
    rw [hk, hj] at this
    rw [hk, hj]
    exact Int.natCast_dvd_natCast.mpr (pow_dvd_of_le this)
theorem group_mem {ts : Nu} {x : Rat × Rat} (h : x ∈ group ts) : ∃ t ∈ ts, t.1 = x.1 := by
  induction ts using rev_ind with
  | h0 => cases h
  | h1 ts t ih =>
    rw [group_snoc] at h
    rcases addTo_mem h with e | h
    · exact ⟨t, List.mem_append_right _ (List.mem_singleton.mpr rfl), e.symm⟩
    · obtain ⟨y, hy, e⟩ := ih h
      exact ⟨y, List.mem_append_left _ hy, e⟩
def NumberToldS (F : Fu) : Prop := ∀ (ts : Nu) (t : T) (m : Mem), seqOf m t = some (ts.map En.enc) → TOk ts → Runs (F [t] m) fun r m' => r = En.enc (nf ts) ∧ m <+: m'
theorem number_told_ok {Φ : Fns} {N k : Nat} (f7 : HalfSumS (Φ k)) : NumberToldS (runD Φ N (C_number_told k)) := by
  intro ts t m ht ok
  have hl := ok.l
  refine wpD rfl ?_
  conv => whnf
  refine wpSeq_of (seq_pre (List.prefix_append ..) ht) ?_
  conv => whnf
  refine for_wp (fun i τ m' => m' = m ++ [.dT false (kvD (group (ts.take i)))] ∧ ∃ x y, τ = [some t, some (.ref m.length), none, none, x, y, none]) ⟨rfl, _, _, rfl⟩ ?_ ?_ ?_
  · rintro i τ m' hi ⟨rfl, _⟩
    rw [stay_at ht (List.prefix_append ..)]
    exact stay_pre (List.prefix_append ..) ht
  · rintro i t' τ m' hi ⟨rfl, x, y, rfl⟩
    have hlt := (List.getElem?_eq_some_iff.mp hi).1
    rw [List.length_map] at hlt
    rw [List.getElem?_map, Option.map_eq_some_iff] at hi
    obtain ⟨⟨p, q⟩, hi, rfl⟩ := hi
    have nd := group_nd (ts.take i)
    have gl := group_len (ts.take i)
    rw [List.length_take] at gl
    have hm := List.mem_of_getElem? hi
    conv => whnf
    refine ⟨mty_get2T get_new, ?_⟩
    conv => whnf
    refine ⟨_, _, get2_kv get_new nd p, ?_⟩
    conv => whnf
    refine ⟨(f7 _ q _ (by rw [group_cnt]; exact ok.s i p) (ok.a _ hm)).imp ?_⟩
    rintro _ _ ⟨rfl, rfl⟩
    conv => whnf
    refine ⟨_, set_kv get_new nd (by omega) p q, ?_⟩
    rw [set_new]
    refine ⟨?_, _, _, rfl⟩
    rw [take_succ hi, group_snoc]
  · rintro τ m' ⟨rfl, x, y, rfl⟩
    rw [List.length_map, List.take_length]
    have nd := group_nd ts
    have gl := group_len ts
    have gm : ∀ x ∈ group ts, EOk x.1 := fun x hx => by
      by_cases k : ∃ p ∈ ts, p.1 = x.1
      · obtain ⟨p, hp, e⟩ := k
        rw [← e]; exact ok.e p hp
      · exfalso
        obtain ⟨t, ht, e⟩ := group_mem hx
        exact k ⟨t, ht, e⟩
    generalize hG : group ts = G at *
    conv => whnf
    refine lcd_wp (l := G) (f := fun x => En.enc x.1) (g := fun x => some (.int (x.1.den : Int))) rfl get_new (kvD_keys G) (fun a ha => ?_) ⟨?_, ?_⟩
    · conv => whnf
      refine ⟨⟨rfl, rfl⟩, fun x hx => ?_⟩
      cases hx
      conv => whnf
      refine ⟨_, atI_nat (j := 1) rfl, ?_⟩
      conv => whnf
      exact ⟨rfl, rfl⟩
    · exact decide_eq_true (Nat.le_trans (List.length_filterMap_le ..) (by omega))
    · conv => whnf
      refine ⟨_, get_new, ?_⟩
      conv => whnf
      have e1 : (G.filterMap fun x => some (T.int (x.1.den : Int))) = (G.map fun x => (x.1.den : Int)).map T.int := by
        rw [List.filterMap_eq_map', List.map_map]; rfl
      rw [e1]
      refine ⟨?_, ?_⟩
      · refine decide_eq_true ?_
        simp only [List.length_cons, List.length_append, List.length_map, List.length_nil]
        omega
      · obtain ⟨B, eB, hB, hb⟩ := max_of 1 (G.map fun x => (x.1.den : Int))
        obtain ⟨hB0, hdv⟩ := bot_dvd (fun x hx => (gm x hx).1) hB hb
        have hB2 : B.natAbs ≤ 2 ^ 4000 := by
          rcases List.mem_cons.mp hB with e | hB
          · rw [e]; decide
          · obtain ⟨y, hy, rfl⟩ := List.mem_map.mp hB
            rw [Int.natAbs_natCast]
            exact Nat.le_of_lt (gm y hy).2.2
        conv => whnf
        rw [List.append_nil]
        refine ⟨_, _, maxl_of eB, ?_⟩
        conv => whnf
        refine lcd_wp (l := G) (f := fun x => En.enc x.1) (g := fun x => some (.tup [.int (sz B x.1), En.enc x.1])) rfl (pre_get (List.prefix_append ..) get_new) (kvD_keys G) (fun a ha => ?_) ⟨?_, ?_⟩
        · conv => whnf
          refine ⟨⟨rfl, rfl⟩, fun x hx => ?_⟩
          cases hx
          have q0 := den_posI a.1
          have q1 := (gm a ha).2
          have q2 : B / (a.1.den : Int) ≤ B := Int.ediv_le_self _ (by omega)
          have q3 : 0 ≤ B / (a.1.den : Int) := Int.ediv_nonneg (by omega) (by omega)
          conv => whnf
          refine ⟨_, atI_nat (j := 0) rfl, ?_⟩
          conv => whnf
          refine ⟨_, atI_nat (j := 1) rfl, ?_⟩
          conv => whnf
          refine ⟨divOk_lt q0 q1.den (by decide), ?_⟩
          conv => whnf
          have q4 : (B / (a.1.den : Int)).natAbs < 2 ^ 4001 := by
            refine Nat.lt_of_le_of_lt (Nat.le_trans (show (B / (a.1.den : Int)).natAbs ≤ B.natAbs by omega) hB2) ?_
            exact Nat.pow_lt_pow_right (by decide) (by decide)
          refine ⟨mulOk_lt q1.1 q4 (by decide), ?_⟩
          conv => whnf
          exact ⟨rfl, rfl⟩
        · exact decide_eq_true (Nat.le_trans (List.length_filterMap_le ..) (by omega))
        · conv => whnf
          rw [List.filterMap_eq_map']
          have smono : ∀ x ∈ G, ∀ y ∈ G, (sz B x.1 ≤ sz B y.1 ↔ x.1 ≤ y.1) := fun x hx y hy => sz_mono hB0 (hdv x hx) (hdv y hy)
          refine ⟨_, sort_pairs (fun x : Rat × Rat => sz B x.1) (fun x => x.1) leP (by decide) (fun a b => rfl) (fun a ha b hb => ?_) (fun a ha b hb e => ?_) (by omega), ?_⟩
          · have := smono a ha b hb
            unfold leP
            exact decide_eq_decide.mpr this.symm
          · have e1 := (smono a ha b hb).mp (Int.le_of_eq e)
            have e2 := (smono b hb a ha).mp (Int.le_of_eq e.symm)
            exact Rat.le_antisymm e1 e2
          · conv => whnf
            refine ⟨_, get_new, ?_⟩
            conv => whnf
            rw [← List.map_reverse]
            have gd : ∀ {o1 o2 : MO}, (m ++ [.dT false (kvD G)] ++ [o1] ++ [o2])[m.length]? = some (.dT false (kvD G)) := pre_get ((List.prefix_append ..).trans (List.prefix_append ..)) get_new
            refine lc_map (fun x : Rat × Rat => T.tup [.int (sz B x.1), En.enc x.1]) (fun x => if x.2 ≠ 0 then some (En.enc x) else none) ?_ (fun a ha => ?_) ⟨?_, ?_⟩
            · simp only [stayOf, get_new, Option.map_some, Stay.ok, MO_beq_lst]
            · rw [List.mem_reverse, List.mem_mergeSort] at ha
              conv => whnf
              refine ⟨_, idx_kv gd nd ha, ?_⟩
              conv => whnf
              refine ⟨_, cmp_ne_enc (α := Rat) (by decide) _ a.2 0, ?_⟩
              conv => whnf
              refine ⟨⟨?_, rfl⟩, fun x hx => ?_⟩
              · by_cases z : a.2 = 0 <;> simp [z]
              · conv => whnf
                refine ⟨_, idx_kv gd nd ha, ?_⟩
                conv => whnf
                refine ⟨?_, rfl⟩
                split at hx
                · cases hx; rfl
                · cases hx
            · refine decide_eq_true (Nat.le_trans (List.length_filterMap_le ..) ?_)
              rw [List.length_reverse, List.length_mergeSort]
              omega
            · conv => whnf
              refine ⟨?_, ?_⟩
              · rw [fm_map (fun x : Rat × Rat => x.2 ≠ 0) (fun x => En.enc x)]
                unfold nf
                rw [hG]
                rfl
              · simp only [List.append_assoc]
                exact List.prefix_append ..
end Lb
end
section
set_option linter.all false
set_option maxRecDepth 10000
/-! Lb8: numbers added, multiplied: plain laws. -/
namespace Lb
open PySem PySem.Spec PyProof.Rows L2 Ev
/-- a number, less it -/
def turned (n : Nu) : Nu := n.map fun t => (t.1, -t.2)
/-- all products, term by term -/
def prod (a b : Nu) : Nu := a.flatMap fun x => b.map fun y => (x.1 + y.1, x.2 * y.2)
/-- alike numbers -/
def Eqv (a b : Nu) : Prop := ∀ f, cnt a f = cnt b f
theorem Eqv.refl (a : Nu) : Eqv a a := fun _ => rfl
theorem Eqv.symm {a b : Nu} (h : Eqv a b) : Eqv b a := fun f => (h f).symm
theorem Eqv.trans {a b c : Nu} (h : Eqv a b) (k : Eqv b c) : Eqv a c := fun f => (h f).trans (k f)
theorem eqv_nf (a : Nu) : Eqv (nf a) a := fun f => cnt_nf a f
theorem nf_eq {a b : Nu} (h : Eqv a b) : nf a = nf b := nf_ext h
theorem Eqv.app {a b c d : Nu} (h : Eqv a b) (k : Eqv c d) : Eqv (a ++ c) (b ++ d) := fun f => by rw [cnt_app, cnt_app, h, k]
theorem cnt_turned (a : Nu) (f : Rat) : cnt (turned a) f = -cnt a f := by
  induction a with
  | nil => rfl
  | cons x a ih =>
    show cnt ((x.1, -x.2) :: turned a) f = _
    rw [cnt_cons, cnt_cons, ih]
    split <;> grind
theorem Eqv.neg {a b : Nu} (h : Eqv a b) : Eqv (turned a) (turned b) := fun f => by rw [cnt_turned, cnt_turned, h]
theorem prod_nil (b : Nu) : prod [] b = [] := rfl
theorem prod_cons (x : Rat × Rat) (a b : Nu) : prod (x :: a) b = b.map (fun y => (x.1 + y.1, x.2 * y.2)) ++ prod a b := rfl
theorem prod_app (a c b : Nu) : prod (a ++ c) b = prod a b ++ prod c b := by simp [prod]
theorem cnt_shift (x : Rat × Rat) (b : Nu) (f : Rat) : cnt (b.map fun y => (x.1 + y.1, x.2 * y.2)) f = x.2 * cnt b (f - x.1) := by
  induction b with
  | nil => rw [List.map_nil, cnt_nil, cnt_nil]; grind
  | cons y b ih =>
    rw [List.map_cons, cnt_cons, cnt_cons, ih]
    have : (x.1 + y.1 = f) ↔ (y.1 = f - x.1) := by constructor <;> intro h <;> grind
    by_cases h : y.1 = f - x.1
    · rw [if_pos h, if_pos (this.mpr h)]; grind
    · rw [if_neg h, if_neg fun z => h (this.mp z)]; grind
theorem cnt_prod (x : Rat × Rat) (a b : Nu) (f : Rat) : cnt (prod (x :: a) b) f = x.2 * cnt b (f - x.1) + cnt (prod a b) f := by
  rw [prod_cons, cnt_app, cnt_shift]
theorem prod_congr_right (a : Nu) {b c : Nu} (h : Eqv b c) : Eqv (prod a b) (prod a c) := by
  intro f
  induction a with
  | nil => rfl
  | cons x a ih => rw [cnt_prod, cnt_prod, h, ih]
theorem cnt_prod_one (b : Nu) (x : Rat × Rat) (f : Rat) : cnt (prod b [x]) f = x.2 * cnt b (f - x.1) := by
  induction b with
  | nil => rw [prod_nil, cnt_nil, cnt_nil]; grind
  | cons y b ih =>
    rw [cnt_prod, cnt_cons, ih, cnt_cons, cnt_nil]
    have : (x.1 = f - y.1) ↔ (y.1 = f - x.1) := by constructor <;> intro h <;> grind
    by_cases h : y.1 = f - x.1
    · rw [if_pos h, if_pos (this.mpr h)]; grind
    · rw [if_neg h, if_neg fun z => h (this.mp z)]; grind
theorem cnt_prod_cons_right (b : Nu) (x : Rat × Rat) (a : Nu) (f : Rat) : cnt (prod b (x :: a)) f = x.2 * cnt b (f - x.1) + cnt (prod b a) f := by
  induction b with
  | nil => rw [prod_nil, prod_nil, cnt_nil, cnt_nil]; grind
  | cons y b ih =>
    rw [cnt_prod, cnt_prod, ih, cnt_cons, cnt_cons]
    have : (x.1 = f - y.1) ↔ (y.1 = f - x.1) := by constructor <;> intro h <;> grind
    by_cases h : y.1 = f - x.1
    · rw [if_pos h, if_pos (this.mpr h)]; grind
    · rw [if_neg h, if_neg fun z => h (this.mp z)]; grind
theorem prod_nil_right (b : Nu) (f : Rat) : cnt (prod b []) f = 0 := by
  induction b with
  | nil => rfl
  | cons y b ih => rw [cnt_prod, ih, cnt_nil]; grind
theorem prod_comm (a b : Nu) : Eqv (prod a b) (prod b a) := by
  intro f
  induction a with
  | nil => rw [prod_nil, prod_nil_right, cnt_nil]
  | cons x a ih => rw [cnt_prod, cnt_prod_cons_right, ih]
theorem prod_congr {a b c d : Nu} (h : Eqv a b) (k : Eqv c d) : Eqv (prod a c) (prod b d) :=
  (prod_congr_right a k).trans ((prod_comm a d).trans ((prod_congr_right d h).trans (prod_comm d b)))
theorem map_prod (x : Rat × Rat) (b c : Nu) : (prod b c).map (fun y => (x.1 + y.1, x.2 * y.2)) = prod (b.map fun y => (x.1 + y.1, x.2 * y.2)) c := by
  induction b with
  | nil => rfl
  | cons y b ih =>
    rw [prod_cons, List.map_append, ih, List.map_cons, prod_cons, List.map_map]
    congr 1
    refine List.map_congr_left fun z _ => ?_
    show (x.1 + (y.1 + z.1), x.2 * (y.2 * z.2)) = (x.1 + y.1 + z.1, x.2 * y.2 * z.2)
    rw [Rat.add_assoc, Rat.mul_assoc]
theorem prod_assoc (a b c : Nu) : prod (prod a b) c = prod a (prod b c) := by
  induction a with
  | nil => rfl
  | cons x a ih => rw [prod_cons, prod_cons, prod_app, ih, map_prod]
theorem prod_add (a b c : Nu) : Eqv (prod a (b ++ c)) (prod a b ++ prod a c) := by
  intro f
  induction a with
  | nil => rfl
  | cons x a ih =>
    rw [cnt_prod, cnt_app, cnt_app, cnt_prod, cnt_prod, ih, cnt_app]; grind
theorem prod_turned (a b : Nu) : Eqv (prod a (turned b)) (turned (prod a b)) := by
  intro f
  induction a with
  | nil => rfl
  | cons x a ih =>
    rw [cnt_prod, cnt_turned, ih, cnt_turned, cnt_turned, cnt_prod]; grind
theorem nf_one (p q : Rat) : nf [(p, q)] = if q = 0 then [] else [(p, q)] := by
  split
  · rename_i h
    refine desc_unique (nf_desc _) List.Pairwise.nil fun x => ?_
    rw [nf_mem, cnt_cons, cnt_nil, h]
    simp
    intro h1 h2
    apply h1
    grind
  · rename_i h
    refine desc_unique (nf_desc _) (List.pairwise_singleton _ _) fun x => ?_
    rw [nf_mem, cnt_cons, cnt_nil, List.mem_singleton]
    constructor
    · rintro ⟨h1, h2⟩
      obtain ⟨a, b⟩ := x
      simp only at h1 h2
      split at h2
      · rename_i e
        simp only [Prod.mk.injEq]
        exact ⟨e.symm, by grind⟩
      · exact absurd (by grind) h1
    · rintro rfl
      exact ⟨h, by rw [if_pos rfl]; grind⟩
theorem nf_nil : nf [] = [] := by simp [nf, group]
/-- a number as it is told -/
def Nm (n : Nu) : Prop := (n.Pairwise fun p q => q.1 < p.1) ∧ ∀ x ∈ n, x.2 ≠ 0
theorem nf_nm (ts : Nu) : Nm (nf ts) := ⟨nf_desc ts, fun x hx => ((nf_mem ts x).mp hx).1⟩
theorem nf_of {n : Nu} (h : Nm n) : nf n = n := by
  refine desc_unique (nf_desc n) h.1 fun x => ?_
  rw [nf_mem]
  have nd : n.Pairwise fun x y => x.1 ≠ y.1 := h.1.imp fun h e => by grind
  constructor
  · rintro ⟨h1, h2⟩
    exact (nd_mem nd x h1).mpr h2
  · intro hx
    exact ⟨h.2 x hx, nd_cnt nd hx⟩
theorem nm_eq {a b : Nu} (ha : Nm a) (hb : Nm b) (h : Eqv a b) : a = b := by rw [← nf_of ha, ← nf_of hb]; exact nf_eq h
end Lb
end
section
set_option linter.all false
set_option maxRecDepth 10000
set_option exponentiation.threshold 10000
/-! Lb9: what is done with numbers, walked for any law. -/
namespace Lb
open PySem PySem.Spec PyProof.Rows L2 Ev
def C_few_terms : CD := ⟨1, 1, .cons (.ife (.cmp .gt (.bi .len (.cons false (.var 0) (.nil))) (.glob "MOST_TERMS" (.int 60))) (.cons (.never) (.nil)) (.nil)) (.cons (.ret (.var 0)) (.nil))⟩
def C_number_made (k_few_terms : Nat) (k_half_made : Nat) : CD := ⟨1, 3, .cons (.for_ (.tup (.cons (.name 1) (.cons (.name 2) (.nil)))) (.seq (.call k_few_terms (.cons false (.var 0) (.nil)))) (.cons (.ex (.call k_half_made (.cons false (.var 1) (.nil)))) (.cons (.ex (.call k_half_made (.cons false (.var 2) (.nil)))) (.nil)))) (.cons (.ret (.var 0)) (.nil))⟩
def C_number_turned (k_half_turned : Nat) : CD := ⟨1, 3, .cons (.ret (.biq .tuple (.lc (.tup (.cons false (.var 1) (.cons false (.call k_half_turned (.cons false (.var 2) (.nil))) (.nil)))) (.tup (.cons (.name 1) (.cons (.name 2) (.nil)))) (.seq (.var 0)) .none [1, 2]))) (.nil)⟩
def C_put_by (k_half_sum : Nat) (k_half_product : Nat) (k_number_told : Nat) : CD := ⟨2, 7, .cons (.asg (.name 2) (.mk (.lst (.nil)))) (.cons (.for_ (.tup (.cons (.name 3) (.cons (.name 4) (.nil)))) (.seq (.var 0)) (.cons (.ex (.meth .extend (.var 2) (.cons false (.mk (.lc (.tup (.cons false (.call k_half_sum (.cons false (.var 3) (.cons false (.var 5) (.nil)))) (.cons false (.call k_half_product (.cons false (.var 4) (.cons false (.var 6) (.nil)))) (.nil)))) (.tup (.cons (.name 5) (.cons (.name 6) (.nil)))) (.seq (.var 1)) .none [5, 6])) (.nil)))) (.nil))) (.cons (.ret (.call k_number_told (.cons false (.var 2) (.nil)))) (.nil)))⟩
def C_numbers_and (k_number_made : Nat) (k_number_told : Nat) : CD := ⟨2, 2, .cons (.ret (.call k_number_made (.cons false (.call k_number_told (.cons false (.mk (.lst (.cons true (.var 0) (.cons true (.var 1) (.nil))))) (.nil))) (.nil)))) (.nil)⟩
def C_numbers_less (k_numbers_and : Nat) (k_number_turned : Nat) : CD := ⟨2, 2, .cons (.ret (.call k_numbers_and (.cons false (.var 0) (.cons false (.call k_number_turned (.cons false (.var 1) (.nil))) (.nil))))) (.nil)⟩
def C_number_power (k_few_terms : Nat) (k_put_by : Nat) (k_number_made : Nat) : CD := ⟨2, 4, .cons (.asg (.name 2) (.glob "ONE" (.tup [.tup [.tup [.int 0, .int 1], .tup [.int 1, .int 1]]]))) (.cons (.for_ (.name 3) (.rng (.var 1)) (.cons (.asg (.name 2) (.call k_few_terms (.cons false (.call k_put_by (.cons false (.var 2) (.cons false (.var 0) (.nil)))) (.nil)))) (.nil))) (.cons (.ret (.call k_number_made (.cons false (.var 2) (.nil)))) (.nil)))⟩
def C_let_term : CD := ⟨2, 2, .cons (.ife (.cmp .eq (.bi .len (.cons false (.var 0) (.nil))) (.glob "MOST_TERMS" (.int 60))) (.cons (.never) (.nil)) (.nil)) (.cons (.ex (.meth .append (.var 0) (.cons false (.var 1) (.nil)))) (.nil))⟩
def C_sloped (k_number_told : Nat) (k_half_product : Nat) : CD := ⟨1, 3, .cons (.ret (.call k_number_told (.cons false (.mk (.lc (.tup (.cons false (.var 1) (.cons false (.call k_half_product (.cons false (.var 1) (.cons false (.var 2) (.nil)))) (.nil)))) (.tup (.cons (.name 1) (.cons (.name 2) (.nil)))) (.seq (.var 0)) .none [1, 2])) (.nil)))) (.nil)⟩
def C_first_root (k_half_divided : Nat) (k_half_root : Nat) : CD := ⟨2, 4, .cons (.par [2, 3] (.cons false (.call k_half_divided (.cons false (.idx (.idx (.var 0) (.cst (.int 0))) (.cst (.int 0))) (.cons false (.tup (.cons false (.var 1) (.cons false (.cst (.int 1)) (.nil)))) (.nil)))) (.cons false (.call k_half_root (.cons false (.idx (.idx (.var 0) (.cst (.int 0))) (.cst (.int 1))) (.cons false (.var 1) (.nil)))) (.nil)))) (.cons (.ret (.ite (.and (.isN true (.var 2)) (.isN true (.var 3))) (.tup (.cons false (.var 2) (.cons false (.var 3) (.nil)))) (.cst (.non)))) (.nil))⟩
def FewS (F : Fu) : Prop := ∀ (l : List T) (m : Mem), l.length ≤ 60 → Runs (F [.tup l] m) fun r m' => r = .tup l ∧ m' = m
theorem few_ok {Φ : Fns} {N : Nat} : FewS (runD Φ N C_few_terms) := by
  intro l m h
  refine wpD rfl ?_
  conv => whnf
  refine ⟨fun e => ?_, fun e => ?_⟩
  · have := of_decide_eq_true e
    omega
  · conv => whnf
    exact ⟨rfl, rfl⟩
/-- at most 300 figures -/
def Short (q : Rat) : Prop := q.num.natAbs < 10 ^ 300 ∧ q.den < 10 ^ 300
def NumberMadeS (F : Fu) : Prop := ∀ (n : Nu) (m : Mem), n.length ≤ 60 → (∀ t ∈ n, Short t.1 ∧ Short t.2) → Runs (F [En.enc n] m) fun r m' => r = En.enc n ∧ m' = m
theorem number_made_ok {Φ : Fns} {N kf kh : Nat} (ff : FewS (Φ kf)) (fh : HalfMadeS (Φ kh)) : NumberMadeS (runD Φ N (C_number_made kf kh)) := by
  intro l m hl h
  refine wpD rfl ?_
  conv => whnf
  refine ⟨(ff (l.map En.enc) m (by rw [List.length_map]; exact hl)).imp ?_⟩
  rintro _ m ⟨rfl, rfl⟩
  conv => whnf
  refine for_wp (fun i τ m' => m' = m ∧ ∃ x y, τ = [some (En.enc l), x, y]) ⟨rfl, _, _, rfl⟩ (fun _ _ _ _ _ => rfl) ?_ ?_
  · rintro i t τ m' hi ⟨rfl, x, y, rfl⟩
    rw [List.getElem?_map, Option.map_eq_some_iff] at hi
    obtain ⟨⟨p, q⟩, hi, rfl⟩ := hi
    obtain ⟨h1, h2⟩ := h _ (List.mem_of_getElem? hi)
    conv => whnf
    refine ⟨(fh p _ h1.1 h1.2).imp ?_⟩
    rintro _ _ ⟨rfl, rfl⟩
    conv => whnf
    refine ⟨(fh q _ h2.1 h2.2).imp ?_⟩
    rintro _ _ ⟨rfl, rfl⟩
    conv => whnf
    exact ⟨rfl, _, _, rfl⟩
  · rintro τ m' ⟨rfl, x, y, rfl⟩
    conv => whnf
    exact ⟨rfl, rfl⟩
def NumberTurnedS (F : Fu) : Prop := ∀ (n : Nu) (m : Mem), n.length ≤ 100000 → Runs (F [En.enc n] m) fun r m' => r = En.enc (turned n) ∧ m' = m
theorem number_turned_ok {Φ : Fns} {N k : Nat} (f : HalfTurnedS (Φ k)) : NumberTurnedS (runD Φ N (C_number_turned k)) := by
  intro n m hl
  refine wpD rfl ?_
  conv => whnf
  refine lc_wp (α := Rat × Rat) (β := Rat × Rat) (fun x => some (x.1, -x.2)) rfl (fun a ha => ?_) ⟨?_, ?_⟩
  · conv => whnf
    refine ⟨⟨rfl, rfl⟩, fun x hx => ?_⟩
    cases hx
    conv => whnf
    refine ⟨(f a.2 m).imp ?_⟩
    rintro _ _ ⟨rfl, rfl⟩
    exact ⟨rfl, rfl⟩
  · have := List.length_filterMap_le (fun x : Rat × Rat => some (x.1, -x.2)) n
    exact decide_eq_true (by omega)
  · conv => whnf
    refine ⟨?_, rfl⟩
    rw [List.filterMap_eq_map']
    rfl
/-- products that may be told -/
structure POk (a b : Nu) : Prop where
  l : ∀ x ∈ a, Bd 4000 x.1 ∧ Bd 4000 x.2
  r : ∀ x ∈ b, Bd 4000 x.1 ∧ Bd 4000 x.2
  t : TOk (prod a b)
theorem mty_extend {m : Mem} {n : Nat} {l : List T} (h : m[n]? = some (.lst l)) : mtyOk .extend (.ref n) m = true := by simp only [mtyOk, h]
theorem extend_of {m : Mem} {n k : Nat} {l l2 : List T} (h : m[n]? = some (.lst l)) (h2 : m[k]? = some (.lst l2)) (hs : l.length + l2.length ≤ 16000000) : methop .extend (.ref n) [.ref k] m = some (.ok .non, m.set n (.lst (l ++ l2))) := by
  simp only [methop, mtExtend, h, h2]
  exact guard'_of (decide_eq_true hs) _
theorem pre_set {m m' : Mem} {k : Nat} {o : MO} (h : m <+: m') (hk : m.length ≤ k) : m <+: m'.set k o := by
  obtain ⟨r, rfl⟩ := h
  rw [List.set_append_right _ _ hk]
  exact List.prefix_append ..
def PutByS (F : Fu) : Prop := ∀ (a b : Nu) (m : Mem), POk a b → Runs (F [En.enc a, En.enc b] m) fun r m' => r = En.enc (nf (prod a b)) ∧ m <+: m'
theorem prod_len (a b : Nu) : (prod a b).length = a.length * b.length := by
  induction a with
  | nil => simp [prod_nil]
  | cons x a ih => rw [prod_cons, List.length_append, ih, List.length_map, List.length_cons, Nat.succ_mul, Nat.add_comm]
theorem put_by_ok {Φ : Fns} {N k1 k2 k3 : Nat} (f1 : HalfSumS (Φ k1)) (f2 : HalfProductS (Φ k2)) (f3 : NumberToldS (Φ k3)) : PutByS (runD Φ N (C_put_by k1 k2 k3)) := by
  intro a b m ok
  refine wpD rfl ?_
  have hl := ok.t.l
  conv => whnf
  refine for_wp (fun i τ m' => m <+: m' ∧ m'[m.length]? = some (.lst ((prod (a.take i) b).map En.enc)) ∧ ∃ x y z w, τ = [some (En.enc a), some (En.enc b), some (.ref m.length), x, y, z, w]) ⟨List.prefix_append .., get_new, _, _, _, _, rfl⟩ (fun _ _ _ _ _ => rfl) ?_ ?_
  · rintro i t τ m' hi ⟨pm, g, x, y, z, w, rfl⟩
    rw [List.getElem?_map, Option.map_eq_some_iff] at hi
    obtain ⟨⟨p, q⟩, hi, rfl⟩ := hi
    have ha := ok.l _ (List.mem_of_getElem? hi)
    have e : prod (a.take (i + 1)) b = prod (a.take i) b ++ b.map fun y => (p + y.1, q * y.2) := by
      rw [take_succ hi, prod_app, prod_cons, prod_nil, List.append_nil]
    have hlen : (prod (a.take i) b).length + b.length ≤ 100000 := by
      have h1 : (prod (a.take (i + 1)) b).length ≤ (prod a b).length := by
        rw [prod_len, prod_len]
        exact Nat.mul_le_mul_right _ (by rw [List.length_take]; exact Nat.min_le_right ..)
      rw [e, List.length_append, List.length_map] at h1
      omega
    conv => whnf
    refine ⟨mty_extend g, ?_⟩
    conv => whnf
    refine lc_wp (α := Rat × Rat) (β := Rat × Rat) (fun y => some (p + y.1, q * y.2)) rfl (fun c hc => ?_) ⟨?_, ?_⟩
    · have hb := ok.r c hc
      conv => whnf
      refine ⟨⟨rfl, rfl⟩, fun x hx => ?_⟩
      cases hx
      conv => whnf
      refine ⟨(f1 p c.1 m' ha.1 hb.1).imp ?_⟩
      rintro _ m' ⟨rfl, rfl⟩
      conv => whnf
      refine ⟨(f2 q c.2 m' ha.2 hb.2).imp ?_⟩
      rintro _ m' ⟨rfl, rfl⟩
      conv => whnf
      exact ⟨rfl, rfl⟩
    · have := List.length_filterMap_le (fun y : Rat × Rat => some (p + y.1, q * y.2)) b
      exact decide_eq_true (by omega)
    · conv => whnf
      rw [List.filterMap_eq_map']
      have g2 : (m' ++ [MO.lst ((b.map fun y : Rat × Rat => (p + y.1, q * y.2)).map En.enc)])[m.length]? = some (.lst ((prod (a.take i) b).map En.enc)) := pre_get (List.prefix_append ..) g
      refine ⟨_, _, extend_of g2 get_new (by rw [List.length_map, List.length_map, List.length_map]; omega), ?_⟩
      refine ⟨pre_set (pm.trans (List.prefix_append ..)) (Nat.le_refl _), ?_, some (En.enc p), some (En.enc q), z, w, rfl⟩
      rw [List.getElem?_set_self (List.getElem?_eq_some_iff.mp g2).1, e, List.map_append]
  · rintro τ m' ⟨pm, g, x, y, z, w, rfl⟩
    rw [List.length_map, List.take_length] at g
    conv => whnf
    refine ⟨(f3 (prod a b) (.ref m.length) m' (by simp only [seqOf, g]) ok.t).imp ?_⟩
    rintro _ m2 ⟨rfl, p2⟩
    exact ⟨rfl, pm.trans p2⟩
/-- a number that is told -/
def MOk (n : Nu) : Prop := n.length ≤ 60 ∧ ∀ t ∈ n, Short t.1 ∧ Short t.2
def NumbersAndS (F : Fu) : Prop := ∀ (a b : Nu) (m : Mem), TOk (a ++ b) → MOk (nf (a ++ b)) → Runs (F [En.enc a, En.enc b] m) fun r m' => r = En.enc (nf (a ++ b)) ∧ m <+: m'
theorem numbers_and_ok {Φ : Fns} {N k1 k2 : Nat} (f1 : NumberMadeS (Φ k1)) (f2 : NumberToldS (Φ k2)) : NumbersAndS (runD Φ N (C_numbers_and k1 k2)) := by
  intro a b m ok mk
  refine wpD rfl ?_
  have hl := ok.l
  rw [List.length_append] at hl
  conv => whnf
  refine ⟨?_, ?_⟩
  · refine decide_eq_true ?_
    simp only [List.length_append, List.length_nil, List.length_map]
    omega
  · have e : a.map En.enc ++ (b.map En.enc ++ []) = (a ++ b).map En.enc := by simp
    conv => whnf
    refine ⟨(f2 (a ++ b) _ _ (by rw [seqOf_new, e]) ok).imp ?_⟩
    rintro _ m2 ⟨rfl, p2⟩
    conv => whnf
    refine ⟨(f1 (nf (a ++ b)) m2 mk.1 mk.2).imp ?_⟩
    rintro _ _ ⟨rfl, rfl⟩
    exact ⟨rfl, (List.prefix_append ..).trans p2⟩
def NumbersLessS (F : Fu) : Prop := ∀ (a b : Nu) (m : Mem), TOk (a ++ turned b) → MOk (nf (a ++ turned b)) → Runs (F [En.enc a, En.enc b] m) fun r m' => r = En.enc (nf (a ++ turned b)) ∧ m <+: m'
theorem numbers_less_ok {Φ : Fns} {N k1 k2 : Nat} (f1 : NumbersAndS (Φ k1)) (f2 : NumberTurnedS (Φ k2)) : NumbersLessS (runD Φ N (C_numbers_less k1 k2)) := by
  intro a b m ok mk
  refine wpD rfl ?_
  have hl := ok.l
  rw [List.length_append] at hl
  have : (turned b).length = b.length := by simp [turned]
  conv => whnf
  refine ⟨(f2 b m (by omega)).imp ?_⟩
  rintro _ m ⟨rfl, rfl⟩
  conv => whnf
  exact ⟨f1 a (turned b) m ok mk⟩
/-- a power, one after another -/
def pw (n : Nu) : Nat → Nu
  | 0 => [(0, 1)]
  | k + 1 => nf (prod (pw n k) n)
def NumberPowerS (F : Fu) : Prop := ∀ (n : Nu) (k : Nat) (m : Mem), k ≤ 1000 → (∀ i < k, POk (pw n i) n ∧ (pw n (i + 1)).length ≤ 60) → MOk (pw n k) → Runs (F [En.enc n, .int k] m) fun r m' => r = En.enc (pw n k) ∧ m <+: m'
theorem number_power_ok {Φ : Fns} {N k1 k2 k3 : Nat} (f1 : FewS (Φ k1)) (f2 : PutByS (Φ k2)) (f3 : NumberMadeS (Φ k3)) : NumberPowerS (runD Φ N (C_number_power k1 k2 k3)) := by
  intro n k m hk ok mk
  refine wpD rfl ?_
  conv => whnf
  refine ⟨by omega, ?_⟩
  conv => whnf
  refine for_wp (fun i τ m' => m <+: m' ∧ ∃ x, τ = [some (En.enc n), some (.int k), some (En.enc (pw n i)), x]) ⟨List.prefix_refl _, none, rfl⟩ (fun _ _ _ _ _ => rfl) ?_ ?_
  · rintro i t τ m' hi ⟨pm, x, rfl⟩
    have hlt := (List.getElem?_eq_some_iff.mp hi).1
    rw [List.length_map, List.length_range] at hlt
    obtain ⟨o1, o2⟩ := ok i (by simpa using hlt)
    conv => whnf
    refine ⟨(f2 (pw n i) n m' o1).imp ?_⟩
    rintro _ m2 ⟨rfl, p2⟩
    conv => whnf
    refine ⟨(f1 ((nf (prod (pw n i) n)).map En.enc) m2 (by rw [List.length_map]; exact o2)).imp ?_⟩
    rintro _ m2 ⟨rfl, rfl⟩
    conv => whnf
    exact ⟨pm.trans p2, some t, rfl⟩
  · rintro τ m' ⟨pm, x, rfl⟩
    rw [List.length_map, List.length_range]
    conv => whnf
    refine ⟨(f3 (pw n k) m' mk.1 mk.2).imp ?_⟩
    rintro _ _ ⟨rfl, rfl⟩
    exact ⟨rfl, pm⟩
def LetTermS (F : Fu) : Prop := ∀ (n : Nat) (l : List T) (t : T) (m : Mem), m[n]? = some (.lst l) → l.length < 60 → Runs (F [.ref n, t] m) fun r m' => r = .non ∧ m' = m.set n (.lst (l ++ [t]))
theorem let_term_ok {Φ : Fns} {N : Nat} : LetTermS (runD Φ N C_let_term) := by
  intro n l t m h hl
  refine wpD rfl ?_
  conv => whnf
  refine ⟨_, h, ?_⟩
  conv => whnf
  refine ⟨fun e => ?_, fun e => ?_⟩
  · have := of_decide_eq_true e
    omega
  · conv => whnf
    refine ⟨mty_append h, ?_⟩
    conv => whnf
    refine ⟨_, _, append_one h (by omega), ?_⟩
    exact ⟨rfl, rfl⟩
/-- each term taken by its e -/
def slope (n : Nu) : Nu := n.map fun t => (t.1, t.1 * t.2)
def SlopedS (F : Fu) : Prop := ∀ (n : Nu) (m : Mem), (∀ x ∈ n, Bd 4000 x.1 ∧ Bd 4000 x.2) → TOk (slope n) → Runs (F [En.enc n] m) fun r m' => r = En.enc (nf (slope n)) ∧ m <+: m'
theorem sloped_ok {Φ : Fns} {N k1 k2 : Nat} (f1 : NumberToldS (Φ k1)) (f2 : HalfProductS (Φ k2)) : SlopedS (runD Φ N (C_sloped k1 k2)) := by
  intro n m h ok
  refine wpD rfl ?_
  have hl : n.length ≤ 100000 := by have := ok.l; simpa [slope] using this
  conv => whnf
  refine lc_wp (α := Rat × Rat) (β := Rat × Rat) (fun t => some (t.1, t.1 * t.2)) rfl (fun a ha => ?_) ⟨?_, ?_⟩
  · conv => whnf
    refine ⟨⟨rfl, rfl⟩, fun x hx => ?_⟩
    cases hx
    conv => whnf
    refine ⟨(f2 a.1 a.2 m (h a ha).1 (h a ha).2).imp ?_⟩
    rintro _ m ⟨rfl, rfl⟩
    exact ⟨rfl, rfl⟩
  · have := List.length_filterMap_le (fun t : Rat × Rat => some (t.1, t.1 * t.2)) n
    exact decide_eq_true (by omega)
  · conv => whnf
    rw [List.filterMap_eq_map']
    refine ⟨(f1 (slope n) _ _ seqOf_new ok).imp ?_⟩
    rintro _ m2 ⟨rfl, p2⟩
    exact ⟨rfl, (List.prefix_append ..).trans p2⟩
theorem enc_nat (k : Nat) : En.enc ((k : Nat) : Rat) = T.tup [.int k, .int 1] := rfl
def FirstRootS (F : Fu) : Prop := ∀ (w c : Rat) (rest : Nu) (k : Nat) (m : Mem), 2 ≤ k → k ≤ 100 → Bd 4000 w → Bd 2000 c → Runs (F [En.enc ((w, c) :: rest), .int k] m) fun r m' =>
  ((∃ x, IsDy (w / k) ∧ IsRoot c k x ∧ r = En.enc (w / k, x)) ∨ ((¬ IsDy (w / k) ∨ ∀ x : Rat, x ^ k ≠ c) ∧ r = .non)) ∧ m' = m
theorem first_root_ok {Φ : Fns} {N k1 k2 : Nat} (f1 : HalfDividedS (Φ k1)) (f2 : HalfRootS (Φ k2)) : FirstRootS (runD Φ N (C_first_root k1 k2)) := by
  intro w c rest k m hk hk2 hw hc
  refine wpD rfl ?_
  have kb : Bd 4000 (k : Rat) := ⟨by rw [Rat.num_natCast, Int.natAbs_natCast]; exact Nat.lt_of_le_of_lt hk2 (by decide), by rw [Rat.den_natCast]; decide⟩
  have k0 : (k : Rat) ≠ 0 := fun z => by
    have := congrArg Rat.num z
    rw [Rat.num_natCast] at this
    simp at this
    omega
  conv => whnf
  refine ⟨_, atI_nat (j := 0) rfl, ?_⟩
  conv => whnf
  refine ⟨_, atI_nat (j := 0) rfl, ?_⟩
  conv => whnf
  refine ⟨(f1 w k m hw kb k0).imp ?_⟩
  rintro r m ⟨h1, rfl⟩
  conv => whnf
  refine ⟨_, atI_nat (j := 0) rfl, ?_⟩
  conv => whnf
  refine ⟨_, atI_nat (j := 1) rfl, ?_⟩
  conv => whnf
  refine ⟨(f2 c k m hk hk2 hc).imp ?_⟩
  rintro r2 m ⟨h2, rfl⟩
  rcases h1 with ⟨d1, rfl⟩ | ⟨d1, rfl⟩
  · rcases h2 with ⟨x, x1, rfl⟩ | ⟨x1, rfl⟩
    · conv => whnf
      refine ⟨fun _ => ?_, fun z => nomatch z⟩
      conv => whnf
      refine ⟨fun _ => ?_, fun z => nomatch z⟩
      exact ⟨.inl ⟨x, d1, x1, rfl⟩, rfl⟩
    · conv => whnf
      refine ⟨fun _ => ?_, fun z => nomatch z⟩
      conv => whnf
      refine ⟨fun z => (nomatch z), fun _ => ?_⟩
      conv => whnf
      exact ⟨.inr ⟨.inr x1, rfl⟩, rfl⟩
  · conv => whnf
    refine ⟨fun z => (nomatch z), fun _ => ?_⟩
    conv => whnf
    refine ⟨fun z => (nomatch z), fun _ => ?_⟩
    conv => whnf
    exact ⟨.inr ⟨.inl d1, rfl⟩, rfl⟩
end Lb
end
section
set_option linter.all false
set_option maxRecDepth 10000
set_option exponentiation.threshold 10000
/-! Lb10: roots and quotients of one term. -/
namespace Lb
open PySem PySem.Spec PyProof.Rows L2 Ev
def C_over_told (k_half_sum : Nat) (k_half_turned : Nat) (k_half_divided : Nat) (k_halves_compared : Nat) (k_number_made : Nat) (k_let_term : Nat) (k_number_told : Nat) (k_number_turned : Nat) (k_put_by : Nat) : CD := ⟨2, 7, .cons (.ife (.cmp .eq (.var 1) (.tup (.nil))) (.cons (.never) (.nil)) (.nil)) (.cons (.par [2, 3] (.cons false (.var 0) (.cons false (.mk (.lst (.nil))) (.nil)))) (.cons (.whl (.cmp .ne (.var 2) (.tup (.nil))) (.cons (.asg (.name 4) (.call k_half_sum (.cons false (.idx (.idx (.var 2) (.cst (.int 0))) (.cst (.int 0))) (.cons false (.call k_half_turned (.cons false (.idx (.idx (.var 1) (.cst (.int 0))) (.cst (.int 0))) (.nil))) (.nil))))) (.cons (.asg (.name 5) (.call k_half_sum (.cons false (.idx (.idx (.var 0) (.neg (.cst (.int 1)))) (.cst (.int 0))) (.cons false (.call k_half_turned (.cons false (.idx (.idx (.var 1) (.neg (.cst (.int 1)))) (.cst (.int 0))) (.nil))) (.nil))))) (.cons (.asg (.name 6) (.call k_half_divided (.cons false (.idx (.idx (.var 2) (.cst (.int 0))) (.cst (.int 1))) (.cons false (.idx (.idx (.var 1) (.cst (.int 0))) (.cst (.int 1))) (.nil))))) (.cons (.ife (.or (.isN false (.var 6)) (.cmp .lt (.call k_halves_compared (.cons false (.var 4) (.cons false (.var 5) (.nil)))) (.cst (.int 0)))) (.cons (.ret (.tup (.cons false (.glob "REST" (.str "rest")) (.cons false (.call k_number_made (.cons false (.var 2) (.nil))) (.nil))))) (.nil)) (.nil)) (.cons (.ex (.call k_let_term (.cons false (.var 3) (.cons false (.tup (.cons false (.var 4) (.cons false (.var 6) (.nil)))) (.nil))))) (.cons (.asg (.name 2) (.call k_number_told (.cons false (.mk (.lst (.cons true (.var 2) (.cons true (.call k_number_turned (.cons false (.call k_put_by (.cons false (.tup (.cons false (.idx (.var 3) (.neg (.cst (.int 1)))) (.nil))) (.cons false (.var 1) (.nil)))) (.nil))) (.nil))))) (.nil)))) (.nil)))))))) (.cons (.ret (.tup (.cons false (.glob "NUMBER" (.str "number")) (.cons false (.call k_number_made (.cons false (.bi .tuple (.cons false (.var 3) (.nil))) (.nil))) (.nil))))) (.nil))))⟩
def C_next_root (k_put_by : Nat) (k_sloped : Nat) (k_number_told : Nat) (k_number_turned : Nat) (k_half_sum : Nat) (k_half_turned : Nat) (k_half_product : Nat) (k_half_divided : Nat) : CD := ⟨3, 10, .cons (.asg (.name 3) (.call k_put_by (.cons false (.bi .tuple (.cons false (.var 2) (.nil))) (.cons false (.call k_sloped (.cons false (.var 0) (.nil))) (.nil))))) (.cons (.asg (.name 4) (.call k_put_by (.cons false (.var 0) (.cons false (.call k_put_by (.cons false (.call k_sloped (.cons false (.bi .tuple (.cons false (.var 2) (.nil))) (.nil))) (.cons false (.tup (.cons false (.tup (.cons false (.tup (.cons false (.cst (.int 0)) (.cons false (.cst (.int 1)) (.nil)))) (.cons false (.tup (.cons false (.var 1) (.cons false (.cst (.int 1)) (.nil)))) (.nil)))) (.nil))) (.nil)))) (.nil))))) (.cons (.asg (.name 5) (.call k_number_told (.cons false (.mk (.lst (.cons true (.var 3) (.cons true (.call k_number_turned (.cons false (.var 4) (.nil))) (.nil))))) (.nil)))) (.cons (.ife (.cmp .eq (.var 5) (.tup (.nil))) (.cons (.ret (.cst (.non))) (.nil)) (.nil)) (.cons (.asg (.tup (.cons (.name 8) (.cons (.name 9) (.nil)))) (.idx (.var 0) (.cst (.int 0)))) (.cons (.asg (.name 6) (.call k_half_sum (.cons false (.idx (.idx (.var 5) (.cst (.int 0))) (.cst (.int 0))) (.cons false (.call k_half_turned (.cons false (.var 8) (.nil))) (.nil))))) (.cons (.asg (.name 7) (.call k_half_product (.cons false (.var 9) (.cons false (.call k_half_sum (.cons false (.var 8) (.cons false (.call k_half_turned (.cons false (.call k_half_product (.cons false (.var 6) (.cons false (.tup (.cons false (.var 1) (.cons false (.cst (.int 1)) (.nil)))) (.nil)))) (.nil))) (.nil)))) (.nil))))) (.cons (.ret (.tup (.cons false (.var 6) (.cons false (.call k_half_divided (.cons false (.call k_half_turned (.cons false (.idx (.idx (.var 5) (.cst (.int 0))) (.cst (.int 1))) (.nil))) (.cons false (.var 7) (.nil)))) (.nil))))) (.nil))))))))⟩
def C_root_told (k_first_root : Nat) (k_halves_compared : Nat) (k_half_product : Nat) (k_numbers_less : Nat) (k_number_power : Nat) (k_let_term : Nat) (k_next_root : Nat) (k_number_made : Nat) : CD := ⟨2, 4, .cons (.ife (.or (.cmp .eq (.var 0) (.tup (.nil))) (.cmp .eq (.var 1) (.cst (.int 1)))) (.cons (.ret (.tup (.cons false (.glob "NUMBER" (.str "number")) (.cons false (.var 0) (.nil))))) (.nil)) (.nil)) (.cons (.par [2, 3] (.cons false (.call k_first_root (.cons false (.var 0) (.cons false (.var 1) (.nil)))) (.cons false (.mk (.lst (.nil))) (.nil)))) (.cons (.ife (.isN false (.var 2)) (.cons (.ret (.tup (.cons false (.glob "REST" (.str "rest")) (.cons false (.var 0) (.nil))))) (.nil)) (.nil)) (.cons (.whl (.isN true (.var 2)) (.cons (.ife (.or (.isN false (.idx (.var 2) (.cst (.int 1)))) (.cmp .lt (.call k_halves_compared (.cons false (.call k_half_product (.cons false (.idx (.var 2) (.cst (.int 0))) (.cons false (.tup (.cons false (.var 1) (.cons false (.cst (.int 1)) (.nil)))) (.nil)))) (.cons false (.idx (.idx (.var 0) (.neg (.cst (.int 1)))) (.cst (.int 0))) (.nil)))) (.cst (.int 0)))) (.cons (.ret (.tup (.cons false (.glob "REST" (.str "rest")) (.cons false (.call k_numbers_less (.cons false (.var 0) (.cons false (.call k_number_power (.cons false (.bi .tuple (.cons false (.var 3) (.nil))) (.cons false (.var 1) (.nil)))) (.nil)))) (.nil))))) (.nil)) (.nil)) (.cons (.ex (.call k_let_term (.cons false (.var 3) (.cons false (.var 2) (.nil))))) (.cons (.asg (.name 2) (.call k_next_root (.cons false (.var 0) (.cons false (.var 1) (.cons false (.var 3) (.nil)))))) (.nil))))) (.cons (.ret (.tup (.cons false (.glob "NUMBER" (.str "number")) (.cons false (.call k_number_made (.cons false (.bi .tuple (.cons false (.var 3) (.nil))) (.nil))) (.nil))))) (.nil)))))⟩
theorem Bd.mono {a b : Nat} {q : Rat} (h : Bd a q) (k : a ≤ b) : Bd b q := ⟨Nat.lt_of_lt_of_le h.1 (Nat.pow_le_pow_right (by decide) k), Nat.lt_of_lt_of_le h.2 (Nat.pow_le_pow_right (by decide) k)⟩
theorem Bd.neg {a : Nat} {q : Rat} (h : Bd a q) : Bd a (-q) := ⟨by rw [Rat.neg_num, Int.natAbs_neg]; exact h.1, h.2⟩
theorem Bd.mul {a b : Nat} {p q : Rat} (h : Bd a p) (k : Bd b q) : Bd (a + b) (p * q) := by
  constructor
  · rw [Rat.num_mul, Int.natAbs_ediv_of_dvd]
    · refine Nat.lt_of_le_of_lt (Nat.div_le_self ..) ?_
      rw [Int.natAbs_mul, Nat.pow_add]
      exact Nat.mul_lt_mul'' h.1 k.1
    · exact Int.ofNat_dvd_left.mpr (by first | exact Nat.gcd_dvd_left .. | exact Nat.gcd_dvd_right ..)
  · rw [Rat.den_mul]
    refine Nat.lt_of_le_of_lt (Nat.div_le_self ..) ?_
    rw [Nat.pow_add]
    exact Nat.mul_lt_mul'' h.2 k.2
theorem Bd.add {a b : Nat} {p q : Rat} (h : Bd a p) (k : Bd b q) : Bd (a + b + 1) (p + q) := by
  constructor
  · rw [Rat.num_add, Int.natAbs_ediv_of_dvd]
    · refine Nat.lt_of_le_of_lt (Nat.div_le_self ..) ?_
      refine Nat.lt_of_le_of_lt (Int.natAbs_add_le ..) ?_
      rw [Int.natAbs_mul, Int.natAbs_mul, Int.natAbs_natCast, Int.natAbs_natCast, Nat.pow_succ, Nat.pow_add]
      have h1 : p.num.natAbs * q.den < 2 ^ a * 2 ^ b := Nat.mul_lt_mul'' h.1 k.2
      have h2 : q.num.natAbs * p.den < 2 ^ b * 2 ^ a := Nat.mul_lt_mul'' k.1 h.2
      rw [Nat.mul_comm (2 ^ b)] at h2
      omega
    · exact Int.ofNat_dvd_left.mpr (by first | exact Nat.gcd_dvd_left .. | exact Nat.gcd_dvd_right ..)
  · rw [Rat.den_add]
    refine Nat.lt_of_le_of_lt (Nat.div_le_self ..) ?_
    rw [Nat.pow_succ, Nat.pow_add]
    have := Nat.mul_lt_mul'' h.2 k.2
    omega
theorem Bd.zero (a : Nat) : Bd (a + 1) 0 := by
  have := Nat.pow_pos (n := a) (show 0 < 2 by decide)
  have e : 2 ^ (a + 1) = 2 ^ a * 2 := Nat.pow_succ ..
  constructor
  · show 0 < 2 ^ (a + 1); omega
  · show 1 < 2 ^ (a + 1); omega
theorem dy_add {p q : Rat} (h : IsDy p) (k : IsDy q) : IsDy (p + q) := by
  obtain ⟨i, h⟩ := h
  obtain ⟨j, k⟩ := k
  refine dvd_two_pow (k := i + j) ?_
  rw [Rat.den_add, h, k, ← Nat.pow_add]
  exact Nat.div_dvd_of_dvd (by first | exact Nat.gcd_dvd_left .. | exact Nat.gcd_dvd_right ..)
theorem dy_neg {p : Rat} (h : IsDy p) : IsDy (-p) := h
theorem dy_mul {p q : Rat} (h : IsDy p) (k : IsDy q) : IsDy (p * q) := by
  obtain ⟨i, h⟩ := h
  obtain ⟨j, k⟩ := k
  refine dvd_two_pow (k := i + j) ?_
  rw [Rat.den_mul, h, k, ← Nat.pow_add]
  exact Nat.div_dvd_of_dvd (by first | exact Nat.gcd_dvd_left .. | exact Nat.gcd_dvd_right ..)
theorem dy_int (n : Int) : IsDy (n : Rat) := ⟨0, rfl⟩
theorem dy_nat (n : Nat) : IsDy (n : Rat) := ⟨0, rfl⟩
theorem dy_zero : IsDy 0 := ⟨0, rfl⟩
/-- few terms may be told -/
theorem tok_few {ts : Nu} (h : ∀ t ∈ ts, EOk t.1 ∧ Bd 1900 t.2) (hl : ts.length ≤ 2) : TOk ts := by
  refine ⟨fun t ht => (h t ht).1, fun t ht => (h t ht).2.mono (by decide), fun i p => ?_, by omega⟩
  have key : ∀ l : Nu, (∀ t ∈ l, Bd 1900 t.2) → l.length ≤ 2 → Bd 4000 (cnt l p) := by
    intro l hb hl
    match l, hb, hl with
    | [], _, _ => exact Bd.zero 3999
    | [a], hb, _ =>
      rw [cnt_cons, cnt_nil, Rat.add_zero]
      split
      · exact (hb a (by simp)).mono (by decide)
      · exact Bd.zero 3999
    | [a, b], hb, _ =>
      rw [cnt_cons, cnt_cons, cnt_nil, Rat.add_zero]
      have h1 : Bd 1900 (if a.1 = p then a.2 else 0) := by split; exact hb a (by simp); exact Bd.zero 1899
      have h2 : Bd 1900 (if b.1 = p then b.2 else 0) := by split; exact hb b (by simp); exact Bd.zero 1899
      exact (h1.add h2).mono (by decide)
  exact key _ (fun t ht => (h t (List.mem_of_mem_take ht)).2) (by rw [List.length_take]; omega)
theorem tok_one {p q : Rat} (h : EOk p) (k : Bd 1900 q) : TOk [(p, q)] := tok_few (fun t ht => by rw [List.mem_singleton] at ht; subst ht; exact ⟨h, k⟩) (by simp)
theorem EOk.add {p q : Rat} {a b : Nat} (h : IsDy p) (hb : Bd a p) (k : IsDy q) (kb : Bd b q) (l : a + b + 1 ≤ 4000) : EOk (p + q) := ⟨dy_add h k, (hb.add kb).mono l⟩
end Lb
end
section
set_option linter.all false
set_option maxRecDepth 10000
set_option exponentiation.threshold 10000
/-! Lb11: roots and quotients of one term, walked. -/
namespace Lb
open PySem PySem.Spec PyProof.Rows L2 Ev
def gapOf (n fd : Nu) (k : Nat) : Nu := nf (nf (prod fd (nf (slope n))) ++ turned (nf (prod n (nf (prod (nf (slope fd)) [(0, (k : Rat))])))))
structure NROk (n fd : Nu) (k : Nat) : Prop where
  hn : ∀ x ∈ n, Bd 4000 x.1 ∧ Bd 4000 x.2
  sn : TOk (slope n)
  p1 : POk fd (nf (slope n))
  hf : ∀ x ∈ fd, Bd 4000 x.1 ∧ Bd 4000 x.2
  sf : TOk (slope fd)
  p2 : POk (nf (slope fd)) [(0, (k : Rat))]
  p3 : POk n (nf (prod (nf (slope fd)) [(0, (k : Rat))]))
  t : TOk (nf (prod fd (nf (slope n))) ++ turned (nf (prod n (nf (prod (nf (slope fd)) [(0, (k : Rat))])))))
theorem enc_one (p q : Rat) : En.enc [(p, q)] = T.tup [T.tup [En.enc p, En.enc q]] := rfl
def NextRootS (F : Fu) : Prop := ∀ (n fd : Nu) (k r : Nat) (m : Mem), m[r]? = some (.lst (fd.map En.enc)) → NROk n fd k → gapOf n fd k = [] → Runs (F [En.enc n, .int k, .ref r] m) fun t m' => t = .non ∧ m <+: m'
theorem next_root_ok {Φ : Fns} {N k1 k2 k3 k4 k5 k6 k7 k8 : Nat} (f1 : PutByS (Φ k1)) (f2 : SlopedS (Φ k2)) (f3 : NumberToldS (Φ k3)) (f4 : NumberTurnedS (Φ k4)) : NextRootS (runD Φ N (C_next_root k1 k2 k3 k4 k5 k6 k7 k8)) := by
  intro n fd k r m hr ok hg
  refine wpD rfl ?_
  conv => whnf
  refine ⟨_, hr, ?_⟩
  conv => whnf
  refine ⟨(f2 n m ok.hn ok.sn).imp ?_⟩
  rintro _ m1 ⟨rfl, p1⟩
  conv => whnf
  refine ⟨(f1 fd (nf (slope n)) m1 ok.p1).imp ?_⟩
  rintro _ m2 ⟨rfl, p2⟩
  have g2 := pre_get (p1.trans p2) hr
  conv => whnf
  refine ⟨_, g2, ?_⟩
  conv => whnf
  refine ⟨(f2 fd m2 ok.hf ok.sf).imp ?_⟩
  rintro _ m3 ⟨rfl, p3⟩
  conv => whnf
  refine ⟨(f1 (nf (slope fd)) [(0, (k : Rat))] m3 ok.p2).imp ?_⟩
  rintro _ m4 ⟨rfl, p4⟩
  conv => whnf
  refine ⟨(f1 n _ m4 ok.p3).imp ?_⟩
  rintro _ m5 ⟨rfl, p5⟩
  have hl := ok.t.l
  rw [List.length_append] at hl
  have tl : ∀ a : Nu, (turned a).length = a.length := fun a => by simp [turned]
  rw [tl] at hl
  conv => whnf
  refine ⟨(f4 _ m5 (by omega)).imp ?_⟩
  rintro _ m5 ⟨rfl, rfl⟩
  conv => whnf
  refine ⟨?_, ?_⟩
  · refine decide_eq_true ?_
    simp only [List.length_append, List.length_nil, List.length_map, tl]
    omega
  · conv => whnf
    refine ⟨(f3 _ _ _ ?_ ok.t).imp ?_⟩
    · rw [seqOf_new, List.append_nil, List.map_append]
    · rintro _ m6 ⟨rfl, p6⟩
      have hg' : nf (nf (prod fd (nf (slope n))) ++ turned (nf (prod n (nf (prod (nf (slope fd)) [(0, (k : Rat))]))))) = [] := hg
      rw [hg']
      conv => whnf
      refine ⟨_, cmp_eq_enc (α := Nu) (by decide) _ [] [], ?_⟩
      conv => whnf
      refine ⟨fun _ => ?_, fun z => (nomatch z)⟩
      conv => whnf
      exact ⟨rfl, ((((p1.trans p2).trans p3).trans p4).trans p5).trans ((List.prefix_append ..).trans p6)⟩
/-- one term, its root -/
structure Root1 (w c : Rat) (k : Nat) (s x : Rat) : Prop where
  k1 : 2 ≤ k
  k2 : k ≤ 100
  hw : EOk w ∧ Bd 200 w
  hc : Bd 500 c
  hs1 : IsDy s ∧ Bd 200 s
  hx : Bd 200 x
  ws : w = s * k
  cx : IsRoot c k x
  hs : Short s ∧ Short x
  x0 : x ≠ 0
theorem nf_one_mem {p q : Rat} {x : Rat × Rat} (h : x ∈ nf [(p, q)]) : x = (p, q) := by
  rw [nf_one] at h
  split at h
  · cases h
  · exact List.mem_singleton.mp h
theorem nf_one_len (p q : Rat) : (nf [(p, q)]).length ≤ 1 := Nat.le_trans (nf_len _) (by simp)
theorem prod_one_mem {a b : Nu} {x : Rat × Rat} (h : x ∈ prod a b) : ∃ y ∈ a, ∃ z ∈ b, x = (y.1 + z.1, y.2 * z.2) := by
  unfold prod at h
  obtain ⟨y, hy, h⟩ := List.mem_flatMap.mp h
  obtain ⟨z, hz, rfl⟩ := List.mem_map.mp h
  exact ⟨y, hy, z, hz, rfl⟩
theorem bd_nat {k : Nat} (h : k ≤ 100) : Bd 10 (k : Rat) := ⟨by rw [Rat.num_natCast, Int.natAbs_natCast]; exact Nat.lt_of_le_of_lt h (by decide), by rw [Rat.den_natCast]; decide⟩
theorem root_gap {s x : Rat} {k : Nat} {w c : Rat} (ws : w = s * k) : gapOf [(w, c)] [(s, x)] k = [] := by
  unfold gapOf
  refine (nf_eq (b := []) fun f => ?_).trans nf_nil
  rw [cnt_app, cnt_turned, cnt_nf, cnt_nf, cnt_nil]
  have h1 := prod_congr_right [(s, x)] (eqv_nf (slope [(w, c)])) f
  have h2 := prod_congr_right [(w, c)] ((eqv_nf (prod (nf (slope [(s, x)])) [(0, (k : Rat))])).trans (prod_congr (eqv_nf (slope [(s, x)])) (Eqv.refl _))) f
  rw [h1, h2]
  simp only [slope, List.map_cons, List.map_nil, prod_cons, prod_nil, List.append_nil, cnt_cons, cnt_nil]
  have e : (s + w = f) ↔ (w + (s + 0) = f) := by constructor <;> intro h <;> grind
  by_cases h : s + w = f
  · rw [if_pos h, if_pos (e.mp h)]
    subst ws
    grind
  · rw [if_neg h, if_neg fun z => h (e.mpr z)]
    grind
theorem root_nrok {w c s x : Rat} {k : Nat} (h : Root1 w c k s x) : NROk [(w, c)] [(s, x)] k := by
  have bk := bd_nat h.k2
  have bwc : Bd 700 (w * c) := (h.hw.2.mul h.hc)
  have bsx : Bd 400 (s * x) := (h.hs1.2.mul h.hx)
  have es : EOk s := ⟨h.hs1.1, h.hs1.2.mono (by decide)⟩
  have b1 : ∀ y ∈ nf [(s, s * x)], y.1 = s ∧ Bd 400 y.2 := fun y hy => by rw [nf_one_mem hy]; exact ⟨rfl, bsx⟩
  have b2 : ∀ y ∈ nf (prod (nf [(s, s * x)]) [(0, (k : Rat))]), y.1 = s ∧ Bd 410 y.2 := fun y hy => by
    by_cases z : s * x = 0
    · rw [nf_one, if_pos z, prod_nil, nf_nil] at hy; cases hy
    · rw [nf_one, if_neg z] at hy
      rw [nf_one_mem (p := s + 0) (q := s * x * k) hy]
      exact ⟨Rat.add_zero s, bsx.mul bk⟩
  have l2 : (nf (prod (nf [(s, s * x)]) [(0, (k : Rat))])).length ≤ 1 := Nat.le_trans (nf_len _) (by rw [prod_len]; have := nf_one_len s (s * x); simpa using this)
  have bw : ∀ y ∈ [(w, c)], Bd 4000 y.1 ∧ Bd 4000 y.2 := fun y hy => by rw [List.mem_singleton] at hy; subst hy; exact ⟨h.hw.2.mono (by decide), h.hc.mono (by decide)⟩
  have bs : ∀ y ∈ [(s, x)], Bd 4000 y.1 ∧ Bd 4000 y.2 := fun y hy => by rw [List.mem_singleton] at hy; subst hy; exact ⟨h.hs1.2.mono (by decide), h.hx.mono (by decide)⟩
  have esw : EOk (s + w) := EOk.add h.hs1.1 h.hs1.2 h.hw.1.1 h.hw.2 (by decide)
  have ews : EOk (w + s) := EOk.add h.hw.1.1 h.hw.2 h.hs1.1 h.hs1.2 (by decide)
  have m1 : ∀ y ∈ prod [(s, x)] (nf [(w, w * c)]), EOk y.1 ∧ Bd 1900 y.2 := fun y hy => by
    obtain ⟨a, ha, b, hb, rfl⟩ := prod_one_mem hy
    rw [List.mem_singleton] at ha
    subst ha
    rw [nf_one_mem hb]
    exact ⟨esw, (h.hx.mul bwc).mono (by decide)⟩
  have m2 : ∀ y ∈ prod [(w, c)] (nf (prod (nf [(s, s * x)]) [(0, (k : Rat))])), EOk y.1 ∧ Bd 1900 y.2 := fun y hy => by
    obtain ⟨a, ha, b, hb, rfl⟩ := prod_one_mem hy
    rw [List.mem_singleton] at ha
    subst ha
    obtain ⟨e1, e2⟩ := b2 b hb
    rw [e1]
    exact ⟨ews, (h.hc.mul e2).mono (by decide)⟩
  have lp1 : (prod [(s, x)] (nf [(w, w * c)])).length ≤ 1 := by rw [prod_len]; have := nf_one_len w (w * c); simpa using this
  have lp2 : (prod [(w, c)] (nf (prod (nf [(s, s * x)]) [(0, (k : Rat))]))).length ≤ 1 := by rw [prod_len]; simpa using l2
  have nfm : ∀ (l : Nu), l.length ≤ 1 → (∀ y ∈ l, EOk y.1 ∧ Bd 1900 y.2) → ∀ y ∈ nf l, EOk y.1 ∧ Bd 1900 y.2 := by
    intro l hl hm y hy
    match l, hl, hm with
    | [], _, _ => rw [nf_nil] at hy; cases hy
    | [a], _, hm => rw [nf_one_mem (p := a.1) (q := a.2) hy]; exact hm a (by simp)
  refine ⟨bw, tok_one h.hw.1 (bwc.mono (by decide)), ⟨bs, fun y hy => ?_, tok_few m1 (Nat.le_trans lp1 (by decide))⟩, bs, tok_one es (bsx.mono (by decide)), ⟨fun y hy => ?_, fun y hy => ?_, ?_⟩, ⟨bw, fun y hy => ?_, tok_few m2 (Nat.le_trans lp2 (by decide))⟩, ?_⟩
  · rw [nf_one_mem (p := w) (q := w * c) hy]
    exact ⟨h.hw.2.mono (by decide), bwc.mono (by decide)⟩
  · obtain ⟨e1, e2⟩ := b1 y hy
    rw [e1]
    exact ⟨h.hs1.2.mono (by decide), e2.mono (by decide)⟩
  · rw [List.mem_singleton] at hy
    subst hy
    exact ⟨Bd.zero 3999, bk.mono (by decide)⟩
  · refine tok_few (fun y hy => ?_) (by rw [prod_len]; have := nf_one_len s (s * x); show (nf [(s, s * x)]).length * 1 ≤ 2; omega)
    obtain ⟨a, ha, b, hb, rfl⟩ := prod_one_mem hy
    rw [List.mem_singleton] at hb
    subst hb
    obtain ⟨e1, e2⟩ := b1 a ha
    rw [e1]
    exact ⟨by rw [Rat.add_zero]; exact es, (e2.mul bk).mono (by decide)⟩
  · obtain ⟨e1, e2⟩ := b2 y hy
    rw [e1]
    exact ⟨h.hs1.2.mono (by decide), e2.mono (by decide)⟩
  · refine tok_few (fun y hy => ?_) ?_
    · rcases List.mem_append.mp hy with hy | hy
      · exact nfm _ lp1 m1 y hy
      · obtain ⟨z, hz, rfl⟩ := List.mem_map.mp hy
        obtain ⟨q1, q2⟩ := nfm _ lp2 m2 z hz
        exact ⟨q1, q2.neg⟩
    · rw [List.length_append]
      have h1 := nf_len (prod [(s, x)] (nf [(w, w * c)]))
      have h2 := nf_len (prod [(w, c)] (nf (prod (nf [(s, s * x)]) [(0, (k : Rat))])))
      have tl : ∀ a : Nu, (turned a).length = a.length := fun a => by simp [turned]
      show (nf (prod [(s, x)] (nf [(w, w * c)]))).length + (turned (nf (prod [(w, c)] (nf (prod (nf [(s, s * x)]) [(0, (k : Rat))]))))).length ≤ 2
      rw [tl]
      omega
end Lb
end
section
set_option linter.all false
set_option maxRecDepth 10000
set_option exponentiation.threshold 10000
/-! Lb12: roots and quotients of one term, walked. -/
namespace Lb
open PySem PySem.Spec PyProof.Rows L2 Ev
theorem idx_last {m : Mem} {n : Nat} {l : List T} {t : T} (h : m[n]? = some (.lst (l ++ [t]))) : idxop (.ref n) (.int (-1)) m = some (.ok t, m) := by
  have e : ixN (l ++ [t]).length (-1) = some l.length := by
    unfold ixN
    simp only [List.length_append, List.length_cons, List.length_nil]
    rw [if_neg (by decide), if_pos (by omega)]
    congr 1
    omega
  simp only [idxop, h, atI, e, Option.bind_some, List.getElem?_concat_length]
  rfl
theorem atI_last {α : Type} {l : List α} {t : α} : atI (l ++ [t]) (-1) = some t := by
  have e : ixN (l ++ [t]).length (-1) = some l.length := by
    unfold ixN
    simp only [List.length_append, List.length_cons, List.length_nil]
    rw [if_neg (by decide), if_pos (by omega)]
    congr 1
    omega
  simp only [atI, e, Option.bind_some, List.getElem?_concat_length]
theorem sgn_self (a : Rat) : sgn a a = 0 := by unfold sgn; simp
theorem div_nat {w s : Rat} {k : Nat} (hk : 2 ≤ k) (h : w = s * k) : w / k = s := by
  have k0 : (k : Rat) ≠ 0 := fun z => by
    have := congrArg Rat.num z
    rw [Rat.num_natCast] at this
    simp at this
    omega
  subst h
  exact Rat.mul_div_cancel k0
theorem root_unique' {c x y : Rat} {k : Nat} (hk : 2 ≤ k) (h : IsRoot c k x) (g : IsRoot c k y) : x = y := by
  obtain ⟨h1, h2⟩ := h
  obtain ⟨g1, g2⟩ := g
  obtain ⟨a1, a2⟩ := root_parts h1
  obtain ⟨b1, b2⟩ := root_parts g1
  have inj : ∀ {a b : Nat}, a ^ k = b ^ k → a = b := fun {a b} e => by
    rcases Nat.lt_trichotomy a b with z | z | z
    · have := pow_lt_pow z (show 0 < k by omega); omega
    · exact z
    · have := pow_lt_pow z (show 0 < k by omega); omega
  have e1 : x.num.natAbs = y.num.natAbs := inj (a1.trans b1.symm)
  have e2 : x.den = y.den := inj (a2.trans b2.symm)
  refine Rat.ext ?_ e2
  by_cases z : 0 ≤ c.num
  · have := h2 z
    have := g2 z
    omega
  · have neg : ∀ u : Rat, u ^ k = c → u.num < 0 := fun u e => by
      by_cases y : 0 ≤ u.num
      · exfalso
        have : 0 ≤ (u ^ k).num := by rw [Rat.num_pow]; exact Int.pow_nonneg y
        rw [e] at this
        exact z this
      · omega
    have := neg x h1
    have := neg y g1
    omega
def RootOneS (F : Fu) : Prop := ∀ (w c : Rat) (k : Nat) (s x : Rat) (m : Mem), Root1 w c k s x → Runs (F [En.enc [(w, c)], .int k] m) fun r m' => r = .tup [.str "number", En.enc [(s, x)]] ∧ m <+: m'
theorem root_one_ok {Φ : Fns} {N k1 k2 k3 k4 k5 k6 k7 k8 : Nat} (hN : 100 ≤ N) (f1 : FirstRootS (Φ k1)) (f2 : HalvesComparedS (Φ k2)) (f3 : HalfProductS (Φ k3)) (f6 : LetTermS (Φ k6)) (f7 : NextRootS (Φ k7)) (f8 : NumberMadeS (Φ k8)) : RootOneS (runD Φ N (C_root_told k1 k2 k3 k4 k5 k6 k7 k8)) := by
  intro w c k s x m h
  refine wpD rfl ?_
  have hk := h.k1
  have hk2 := h.k2
  have bk := bd_nat hk2
  conv => whnf
  refine ⟨_, cmp_eq_enc (α := Nu) (by decide) _ [(w, c)] [], ?_⟩
  conv => whnf
  refine ⟨fun z => (nomatch z), fun _ => ?_⟩
  conv => whnf
  refine ⟨fun z => ?_, fun _ => ?_⟩
  · have : (k : Int) = 1 := of_decide_eq_true z
    omega
  conv => whnf
  refine ⟨(f1 w c [] k m hk hk2 (h.hw.2.mono (by decide)) (h.hc.mono (by decide))).imp ?_⟩
  rintro r m ⟨hr, rfl⟩
  have er : r = T.tup [En.enc s, En.enc x] := by
    rcases hr with ⟨y, d, y1, rfl⟩ | ⟨no, _⟩
    · rw [div_nat hk h.ws, root_unique' hk y1 h.cx]; rfl
    · rw [div_nat hk h.ws] at no
      rcases no with no | no
      · exact absurd h.hs1.1 no
      · exact absurd h.cx.1 (no x)
  subst er
  conv => whnf
  refine ⟨fun z => (nomatch z), fun _ => ?_⟩
  conv => whnf
  refine whl_wp (fun j τ m' => (j = 1 ∧ m' = m ++ [.lst []] ∧ τ = [some (En.enc [(w, c)]), some (.int k), some (T.tup [En.enc s, En.enc x]), some (.ref m.length)]) ∨
    (j = 0 ∧ m <+: m' ∧ m'[m.length]? = some (.lst [En.enc (s, x)]) ∧ τ = [some (En.enc [(w, c)]), some (.int k), some .non, some (.ref m.length)])) 1 (by omega) (.inl ⟨rfl, rfl, rfl⟩) ?_
  rintro j τ m' (⟨rfl, rfl, rfl⟩ | ⟨rfl, pm, g, rfl⟩)
  · conv => whnf
    refine ⟨fun _ => ?_, fun z => nomatch z⟩
    conv => whnf
    refine ⟨_, atI_nat (j := 1) rfl, ?_⟩
    conv => whnf
    refine ⟨fun z => (nomatch z), fun _ => ?_⟩
    conv => whnf
    refine ⟨_, atI_nat (j := 0) rfl, ?_⟩
    conv => whnf
    refine ⟨(f3 s k _ (h.hs1.2.mono (by decide)) (bk.mono (by decide))).imp ?_⟩
    rintro _ m1 ⟨rfl, rfl⟩
    conv => whnf
    refine ⟨_, atI_last (l := []), ?_⟩
    conv => whnf
    refine ⟨_, atI_nat (j := 0) rfl, ?_⟩
    conv => whnf
    refine ⟨(f2 (s * k) w _ (((h.hs1.2).mul bk).mono (by decide)) (h.hw.2.mono (by decide))).imp ?_⟩
    rintro _ m1 ⟨rfl, rfl⟩
    rw [← h.ws, sgn_self]
    conv => whnf
    refine ⟨fun z => (nomatch z), fun _ => ?_⟩
    conv => whnf
    refine ⟨(f6 m.length [] (T.tup [En.enc s, En.enc x]) _ get_new (by simp)).imp ?_⟩
    rintro _ m2 ⟨rfl, rfl⟩
    rw [set_new]
    conv => whnf
    refine ⟨(f7 [(w, c)] [(s, x)] k m.length _ get_new (root_nrok h) (root_gap h.ws)).imp ?_⟩
    rintro _ m3 ⟨rfl, p3⟩
    conv => whnf
    refine ⟨0, by decide, .inr ⟨rfl, (List.prefix_append ..).trans p3, ?_, rfl⟩⟩
    exact pre_get p3 get_new
  · conv => whnf
    refine ⟨fun z => (nomatch z), fun _ => ?_⟩
    conv => whnf
    refine ⟨_, g, ?_⟩
    conv => whnf
    refine ⟨(f8 [(s, x)] m' (by simp) (fun t ht => ?_)).imp ?_⟩
    · rw [List.mem_singleton] at ht
      subst ht
      exact h.hs
    · rintro _ m2 ⟨rfl, rfl⟩
      conv => whnf
      exact ⟨rfl, pm⟩
def RootNoneS (F : Fu) : Prop := ∀ (w c : Rat) (k : Nat) (m : Mem), 2 ≤ k → k ≤ 100 → Bd 4000 w → Bd 2000 c → (∀ x : Rat, x ^ k ≠ c) → Runs (F [En.enc [(w, c)], .int k] m) fun r m' => r = .tup [.str "rest", En.enc [(w, c)]] ∧ m <+: m'
theorem root_none_ok {Φ : Fns} {N k1 k2 k3 k4 k5 k6 k7 k8 : Nat} (f1 : FirstRootS (Φ k1)) : RootNoneS (runD Φ N (C_root_told k1 k2 k3 k4 k5 k6 k7 k8)) := by
  intro w c k m hk hk2 hw hc no
  refine wpD rfl ?_
  conv => whnf
  refine ⟨_, cmp_eq_enc (α := Nu) (by decide) _ [(w, c)] [], ?_⟩
  conv => whnf
  refine ⟨fun z => (nomatch z), fun _ => ?_⟩
  conv => whnf
  refine ⟨fun z => ?_, fun _ => ?_⟩
  · have : (k : Int) = 1 := of_decide_eq_true z
    omega
  conv => whnf
  refine ⟨(f1 w c [] k m hk hk2 hw hc).imp ?_⟩
  rintro r m ⟨hr, rfl⟩
  have er : r = T.non := by
    rcases hr with ⟨y, d, y1, rfl⟩ | ⟨_, e⟩
    · exact absurd y1.1 (no y)
    · exact e
  subst er
  conv => whnf
  refine ⟨fun _ => ?_, fun z => (nomatch z)⟩
  conv => whnf
  exact ⟨rfl, List.prefix_append ..⟩
/-- one term by another one -/
structure Over1 (w c s d : Rat) : Prop where
  hw : IsDy w ∧ Bd 200 w
  hs : IsDy s ∧ Bd 200 s
  hc : Bd 1000 c
  hd : Bd 500 d
  c0 : c ≠ 0
  d0 : d ≠ 0
  dy : IsDy (c / d)
  hq : Bd 1000 (c / d)
  sh : Short (w - s) ∧ Short (c / d)
def OverOneS (F : Fu) : Prop := ∀ (w c s d : Rat) (m : Mem), Over1 w c s d → Runs (F [En.enc [(w, c)], En.enc [(s, d)]] m) fun r m' => r = .tup [.str "number", En.enc [(w - s, c / d)]] ∧ m <+: m'
theorem over_one_ok {Φ : Fns} {N k1 k2 k3 k4 k5 k6 k7 k8 k9 : Nat} (hN : 100 ≤ N) (f1 : HalfSumS (Φ k1)) (f2 : HalfTurnedS (Φ k2)) (f3 : HalfDividedS (Φ k3)) (f4 : HalvesComparedS (Φ k4)) (f5 : NumberMadeS (Φ k5)) (f6 : LetTermS (Φ k6)) (f7 : NumberToldS (Φ k7)) (f8 : NumberTurnedS (Φ k8)) (f9 : PutByS (Φ k9)) :
    OverOneS (runD Φ N (C_over_told k1 k2 k3 k4 k5 k6 k7 k8 k9)) := by
  intro w c s d m h
  refine wpD rfl ?_
  have ews : w + -s = w - s := (Rat.sub_eq_add_neg w s).symm
  have ews2 : w - s + s = w := Rat.sub_add_cancel
  have ecd : c / d * d = c := Rat.div_mul_cancel h.d0
  have bws : Bd 401 (w - s) := by rw [← ews]; exact h.hw.2.add h.hs.2.neg
  conv => whnf
  refine ⟨_, cmp_eq_enc (α := Nu) (by decide) _ [(s, d)] [], ?_⟩
  conv => whnf
  refine ⟨fun z => (nomatch z), fun _ => ?_⟩
  conv => whnf
  refine whl_wp (fun j τ m' => (j = 1 ∧ m' = m ++ [.lst []] ∧ τ = [some (En.enc [(w, c)]), some (En.enc [(s, d)]), some (En.enc [(w, c)]), some (.ref m.length), none, none, none]) ∨
    (j = 0 ∧ m <+: m' ∧ m'[m.length]? = some (.lst [En.enc (w - s, c / d)]) ∧ ∃ x y z, τ = [some (En.enc [(w, c)]), some (En.enc [(s, d)]), some (En.enc ([] : Nu)), some (.ref m.length), x, y, z])) 1 (by omega) (.inl ⟨rfl, rfl, rfl⟩) ?_
  rintro j τ m' (⟨rfl, rfl, rfl⟩ | ⟨rfl, pm, g, x, y, z, rfl⟩)
  · conv => whnf
    refine ⟨_, cmp_ne_enc (α := Nu) (by decide) _ [(w, c)] [], ?_⟩
    conv => whnf
    refine ⟨fun _ => ?_, fun z => (nomatch z)⟩
    conv => whnf
    refine ⟨_, atI_nat (j := 0) rfl, ?_⟩
    conv => whnf
    refine ⟨_, atI_nat (j := 0) rfl, ?_⟩
    conv => whnf
    refine ⟨_, atI_nat (j := 0) rfl, ?_⟩
    conv => whnf
    refine ⟨_, atI_nat (j := 0) rfl, ?_⟩
    conv => whnf
    refine ⟨(f2 s _).imp ?_⟩
    rintro _ m1 ⟨rfl, rfl⟩
    conv => whnf
    refine ⟨(f1 w (-s) _ (h.hw.2.mono (by decide)) (h.hs.2.neg.mono (by decide))).imp ?_⟩
    rintro _ m1 ⟨rfl, rfl⟩
    rw [ews]
    conv => whnf
    refine ⟨_, atI_last (l := []), ?_⟩
    conv => whnf
    refine ⟨_, atI_nat (j := 0) rfl, ?_⟩
    conv => whnf
    refine ⟨_, atI_last (l := []), ?_⟩
    conv => whnf
    refine ⟨_, atI_nat (j := 0) rfl, ?_⟩
    conv => whnf
    refine ⟨(f2 s _).imp ?_⟩
    rintro _ m1 ⟨rfl, rfl⟩
    conv => whnf
    refine ⟨(f1 w (-s) _ (h.hw.2.mono (by decide)) (h.hs.2.neg.mono (by decide))).imp ?_⟩
    rintro _ m1 ⟨rfl, rfl⟩
    rw [ews]
    conv => whnf
    refine ⟨_, atI_nat (j := 0) rfl, ?_⟩
    conv => whnf
    refine ⟨_, atI_nat (j := 1) rfl, ?_⟩
    conv => whnf
    refine ⟨_, atI_nat (j := 0) rfl, ?_⟩
    conv => whnf
    refine ⟨_, atI_nat (j := 1) rfl, ?_⟩
    conv => whnf
    refine ⟨(f3 c d _ (h.hc.mono (by decide)) (h.hd.mono (by decide)) h.d0).imp ?_⟩
    rintro r m1 ⟨hr, rfl⟩
    have er : r = En.enc (c / d) := by
      rcases hr with ⟨_, e⟩ | ⟨no, _⟩
      · exact e
      · exact absurd h.dy no
    subst er
    conv => whnf
    refine ⟨fun z => (nomatch z), fun _ => ?_⟩
    conv => whnf
    refine ⟨(f4 (w - s) (w - s) _ (bws.mono (by decide)) (bws.mono (by decide))).imp ?_⟩
    rintro _ m1 ⟨rfl, rfl⟩
    rw [sgn_self]
    conv => whnf
    refine ⟨fun z => (nomatch z), fun _ => ?_⟩
    conv => whnf
    refine ⟨(f6 m.length [] (T.tup [En.enc (w - s), En.enc (c / d)]) _ get_new (by simp)).imp ?_⟩
    rintro _ m2 ⟨rfl, rfl⟩
    rw [set_new]
    conv => whnf
    refine ⟨_, idx_last (l := []) get_new, ?_⟩
    conv => whnf
    have eprod : prod [(w - s, c / d)] [(s, d)] = [(w, c)] := by
      rw [prod_cons, prod_nil, List.append_nil, List.map_cons, List.map_nil, ews2, ecd]
    refine ⟨(f9 [(w - s, c / d)] [(s, d)] _ ⟨fun x hx => ?_, fun x hx => ?_, ?_⟩).imp ?_⟩
    · rw [List.mem_singleton] at hx
      subst hx
      exact ⟨bws.mono (by decide), h.hq.mono (by decide)⟩
    · rw [List.mem_singleton] at hx
      subst hx
      exact ⟨h.hs.2.mono (by decide), h.hd.mono (by decide)⟩
    · rw [eprod]
      exact tok_one ⟨h.hw.1, h.hw.2.mono (by decide)⟩ (h.hc.mono (by decide))
    · rintro _ m3 ⟨rfl, p3⟩
      rw [eprod, nf_one, if_neg h.c0]
      conv => whnf
      refine ⟨(f8 [(w, c)] m3 (by simp)).imp ?_⟩
      rintro _ m3 ⟨rfl, rfl⟩
      conv => whnf
      refine ⟨rfl, ?_⟩
      conv => whnf
      refine ⟨(f7 [(w, c), (w, -c)] _ _ seqOf_new ?_).imp ?_⟩
      · refine tok_few (fun t ht => ?_) (by simp)
        rcases List.mem_cons.mp ht with rfl | ht
        · exact ⟨⟨h.hw.1, h.hw.2.mono (by decide)⟩, h.hc.mono (by decide)⟩
        · rw [List.mem_singleton] at ht
          subst ht
          exact ⟨⟨h.hw.1, h.hw.2.mono (by decide)⟩, h.hc.neg.mono (by decide)⟩
      · rintro _ m4 ⟨rfl, p4⟩
        have e0 : nf [(w, c), (w, -c)] = [] := by
          refine (nf_eq (b := []) fun f => ?_).trans nf_nil
          rw [cnt_cons, cnt_cons, cnt_nil]
          split <;> grind
        rw [e0]
        conv => whnf
        refine ⟨0, by decide, .inr ⟨rfl, (List.prefix_append ..).trans (p3.trans ((List.prefix_append ..).trans p4)), ?_, _, _, _, rfl⟩⟩
        exact pre_get (p3.trans ((List.prefix_append ..).trans p4)) get_new
  · conv => whnf
    refine ⟨_, cmp_ne_enc (α := Nu) (by decide) _ [] [], ?_⟩
    conv => whnf
    refine ⟨fun z => (nomatch z), fun _ => ?_⟩
    conv => whnf
    refine ⟨_, g, ?_⟩
    conv => whnf
    refine ⟨(f5 [(w - s, c / d)] m' (by simp) (fun t ht => ?_)).imp ?_⟩
    · rw [List.mem_singleton] at ht
      subst ht
      exact h.sh
    · rintro _ m2 ⟨rfl, rfl⟩
      conv => whnf
      exact ⟨rfl, pm⟩
end Lb
end
section
set_option linter.all false
set_option maxRecDepth 10000
set_option exponentiation.threshold 10000
/-! Lb13: what repr tells, sizes. -/
namespace Lb
open PySem PySem.Spec PyProof.Rows L2 Ev
theorem deepsR_enc {α : Type} [En α] (rf : Nat → Option T) (l : List α) : deepsR rf (l.map En.enc) = some (l.map En.enc) := by
  have := En.pu rf l
  simp only [enc_list, deepR] at this
  cases h : deepsR rf (l.map En.enc) with
  | none => rw [h] at this; cases this
  | some x => rw [h] at this; simp only [Option.map_some, Option.some.injEq, T.tup.injEq] at this; rw [this]
theorem deep_lst {α : Type} [En α] {m : Mem} {n : Nat} {l : List α} (h : m[n]? = some (.lst (l.map En.enc))) : deep m (.ref n) = some (.lst (l.map En.enc)) := by
  show rfN m 4 n = _
  unfold rfN
  simp only [h, deepsR_enc, Option.map_some]
theorem flat_lst {α : Type} [En α] (hd : En.dp α ≤ 60) (l : List α) : T.flat (.lst (l.map En.enc)) = true := by
  have h1 := En.lay l
  have h2 := En.dep l
  rw [enc_list] at h1 h2
  simp only [toPy, PyData.canLay0, PyData.depth] at h1 h2
  unfold T.flat SeqAt.shaped
  simp only [toPy, PyData.canLay0, PyData.depth, h1, Bool.true_and]
  have h3 : En.dp (List α) = En.dp α + 1 := rfl
  exact decide_eq_true (by omega)
theorem ne_new {α : Type} [En α] (hd : En.dp α ≤ 60) {m : Mem} {a b : Nat} {l : List α} (h : m[a]? = some (.lst (l.map En.enc))) (h2 : m[b]? = some (.lst [])) : cmpop .ne (.ref a) (.ref b) m = some (!l.isEmpty) := by
  show (eqOp m (.ref a) (.ref b)).map (!·) = _
  unfold eqOp
  have e2 : deep m (.ref b) = some (.lst []) := deep_lst (l := ([] : List α)) h2
  simp only [deep_lst h, e2, flat_lst hd l, flat_lst hd ([] : List α), show T.flat (.lst []) = true from flat_lst hd ([] : List α), Bool.and_self, ↓reduceIte, Option.map_some, T.eqv, toPy]
  cases l with
  | nil => simp [toPys, PyData.eqv, PyData.eqvAll]
  | cons x l => simp [toPys, PyData.eqv, PyData.eqvAll]
theorem set_last {m : Mem} {n : Nat} {l : List T} {t v : T} (h : m[n]? = some (.lst (l ++ [t]))) : setop (.ref n) (.int (-1)) v m = some (m.set n (.lst (l ++ [v]))) := by
  have e : ixN (l ++ [t]).length (-1) = some l.length := by
    unfold ixN
    simp only [List.length_append, List.length_cons, List.length_nil]
    rw [if_neg (by decide), if_pos (by omega)]
    congr 1
    omega
  simp only [setop, h, e, Option.map_some]
  congr 3
  simp
/-- what repr may be asked of -/
structure Pr (t : T) (S : Nat) : Prop where
  deep : ∀ rf, deepR rf t = some t
  shw : T.shw t = true
  rsz : T.rsz t ≤ S
  dep : (toPy t).depth ≤ 40
structure Prs (l : List T) (S : Nat) : Prop where
  deep : ∀ rf, deepsR rf l = some l
  shw : T.shws l = true
  rsz : T.rszs l ≤ S
  dep : PyData.depthAll (toPys l) ≤ 41
theorem Prs.nil : Prs [] 0 := ⟨fun _ => rfl, rfl, Nat.le_refl _, Nat.zero_le _⟩
theorem Prs.cons {t : T} {l : List T} {a b : Nat} (h : Pr t a) (k : Prs l b) : Prs (t :: l) (a + b) := by
  refine ⟨fun rf => ?_, ?_, ?_, ?_⟩
  · simp only [deepsR, h.deep, k.deep]
  · simp only [T.shws, h.shw, k.shw, Bool.and_self]
  · simp only [T.rszs]; have := h.rsz; have := k.rsz; omega
  · simp only [toPys, PyData.depthAll]; have := h.dep; have := k.dep; omega
theorem Prs.mono {l : List T} {a b : Nat} (h : Prs l a) (k : a ≤ b) : Prs l b := ⟨h.deep, h.shw, Nat.le_trans h.rsz k, h.dep⟩
theorem repr_lst {m : Mem} {n : Nat} {l : List T} (h : m[n]? = some (.lst l)) (p : Prs l 7000000) : biop .repr [.ref n] m = some (.ok (.rep (.lst l)), m) := by
  have e : deep m (.ref n) = some (.lst l) := by
    show rfN m 4 n = _
    unfold rfN
    simp only [h, p.deep, Option.map_some]
  simp only [biop, biRepr, reprOp, e]
  refine guard'_of ?_ _
  have h1 := p.rsz
  have h2 := p.dep
  have h3 : T.dep (.lst l) ≤ 60 := by
    unfold T.dep
    simp only [toPy, PyData.depth]
    omega
  have h4 : T.rsz (.lst l) ≤ 8000000 := by simp only [T.rsz]; omega
  simp only [T.shw, p.shw, h3, h4, decide_true, Bool.and_self]
theorem repr_tup {m : Mem} {l : List T} (p : Prs l 7000000) : biop .repr [.tup l] m = some (.ok (.rep (.tup l)), m) := by
  have e : deep m (.tup l) = some (.tup l) := by
    show deepR (rfN m 4) (.tup l) = _
    simp only [deepR, p.deep, Option.map_some]
  simp only [biop, biRepr, reprOp, e]
  refine guard'_of ?_ _
  have h1 := p.rsz
  have h2 := p.dep
  have h3 : T.dep (.tup l) ≤ 60 := by
    unfold T.dep
    simp only [toPy, PyData.depth]
    omega
  have h4 : T.rsz (.tup l) ≤ 8000000 := by simp only [T.rsz]; omega
  simp only [T.shw, p.shw, h3, h4, decide_true, Bool.and_self]
theorem brepr {m : Mem} {l : List T} (p : Prs l 7000000) : bqop .repr l m = some (.ok (.rep (.lst l)), m) := by
  have e : deeps m l = some l := p.deep _
  simp only [bqop, e]
  refine guard'_of ?_ _
  have h1 := p.rsz
  have h2 := p.dep
  have h3 : T.dep (.lst l) ≤ 60 := by
    unfold T.dep
    simp only [toPy, PyData.depth]
    omega
  have h4 : T.rsz (.lst l) ≤ 8000000 := by simp only [T.rsz]; omega
  simp only [T.shw, p.shw, h3, h4, decide_true, Bool.and_self]
theorem rep_ne (t : T) (m : Mem) : cmpop .ne (.rep t) (.rep t) m = some false := by
  show (eqOp m (.rep t) (.rep t)).map (!·) = _
  simp only [eqOp, T.beq_self, ↓reduceIte, Option.map_some, Bool.not_true]
theorem rep_eq (t : T) (m : Mem) : cmpop .eq (.rep t) (.rep t) m = some true := by
  show eqOp m (.rep t) (.rep t) = _
  simp only [eqOp, T.beq_self, ↓reduceIte]
theorem mul4 {m : Mem} {n : Nat} {t : T} (h : m[n]? = some (.lst [t])) : binop .mul (.ref n) (.int 4) m = some (.ok (.ref m.length), m ++ [.lst [t, t, t, t]]) := by
  simp only [binop, h]
  rfl
theorem lc_self {Φ : Fns} {i : Nat} {st : Stay} {τ0 : Lo} {l : List T} {m : Mem} {P : List T → Mem → Prop} (hst : st.ok m = true) (hi : i < τ0.length) (hp : small l.length = true ∧ P l m) : LcW (lcLoop (fun τ m => ev Φ (.var i) τ m) (fun τ m => evt Φ .none τ m) (.name i) st τ0 l m) P := by
  have := lc_map (Φ := Φ) (elt := .var i) (ifs := .none) (tg := .name i) (st := st) (τ0 := τ0) (m := m) (P := P) (fun t : T => t) (fun t => some t) (l := l) hst (fun a ha => by
    have e : asgT (.name i) a τ0 = some (τ0.set i (some a)) := if_pos hi
    have e2 : (τ0.set i (some a))[i]? = some (some a) := List.getElem?_set_self hi
    simp only [e, wpT, wpTst, wpE, e2, Option.isSome_some, Option.some.injEq, true_and]
    exact fun x hx => ⟨hx, trivial⟩) (by rw [List.filterMap_some]; exact hp)
  rw [List.map_id'] at this
  exact this
theorem mty_rev {m : Mem} {n : Nat} {l : List T} (h : m[n]? = some (.lst l)) : mtyOk .reverse (.ref n) m = true := by simp only [mtyOk, h]
theorem mty_clear {m : Mem} {n : Nat} {l : List T} (h : m[n]? = some (.lst l)) : mtyOk .clear (.ref n) m = true := by simp only [mtyOk, h]
theorem mt_rev {m : Mem} {n : Nat} {l : List T} (h : m[n]? = some (.lst l)) : methop .reverse (.ref n) [] m = some (.ok .non, m.set n (.lst l.reverse)) := by
  simp only [methop, mtReverse, h]
  rfl
theorem mt_clear {m : Mem} {n : Nat} {l : List T} (h : m[n]? = some (.lst l)) : methop .clear (.ref n) [] m = some (.ok .non, m.set n (.lst [])) := by
  simp only [methop, mtClear, h]
  rfl
def Sh (t : T) (S : Nat) : Prop := T.shw t = true ∧ T.rsz t ≤ S
theorem Sh.int {n : Int} {k : Nat} (h : n.natAbs < 2 ^ k) (hk : k ≤ 1900) (h0 : 0 < k) : Sh (.int n) (k + 8) := by
  have : n.natAbs.log2 < k := by
    by_cases z : n.natAbs = 0
    · rw [z]; exact h0
    · exact (Nat.log2_lt z).mpr h
  refine ⟨decide_eq_true (by omega), ?_⟩
  simp only [T.rsz]; omega
theorem Sh.pair {a b : T} {x y : Nat} (h : Sh a x) (k : Sh b y) : Sh (.tup [a, b]) (x + y + 8) := by
  refine ⟨?_, ?_⟩
  · simp only [T.shw, T.shws, h.1, k.1, Bool.and_self]
  · have := h.2; have := k.2
    simp only [T.rsz, T.rszs]; omega
theorem Sh.list {α : Type} {f : α → T} {c : Nat} : ∀ {l : List α}, (∀ a ∈ l, Sh (f a) c) → T.shws (l.map f) = true ∧ T.rszs (l.map f) ≤ l.length * c
  | [], _ => ⟨rfl, Nat.zero_le _⟩
  | a :: l, h => by
    obtain ⟨h1, h2⟩ := h a (List.mem_cons_self ..)
    obtain ⟨h3, h4⟩ := Sh.list fun b hb => h b (List.mem_cons_of_mem _ hb)
    refine ⟨?_, ?_⟩
    · simp only [List.map_cons, T.shws, h1, h3, Bool.and_self]
    · simp only [List.map_cons, T.rszs, List.length_cons, Nat.succ_mul]
      omega
theorem Sh.tup {α : Type} {f : α → T} {c : Nat} {l : List α} (h : ∀ a ∈ l, Sh (f a) c) : Sh (.tup (l.map f)) (l.length * c + 8) := by
  obtain ⟨h1, h2⟩ := Sh.list h
  exact ⟨by simp only [T.shw, h1], by simp only [T.rsz]; omega⟩
theorem Sh.mono {t : T} {a b : Nat} (h : Sh t a) (k : a ≤ b) : Sh t b := ⟨h.1, Nat.le_trans h.2 k⟩
theorem Pr.enc {α : Type} [En α] (hd : En.dp α ≤ 40) {a : α} {S : Nat} (h : Sh (En.enc a) S) : Pr (En.enc a) S := ⟨fun rf => En.pu rf a, h.1, h.2, Nat.le_trans (En.dep a) hd⟩
theorem Prs.enc {α : Type} [En α] (hd : En.dp α ≤ 39) {l : List α} {c S : Nat} (h : ∀ a ∈ l, Sh (En.enc a) c) (hs : l.length * c ≤ S) : Prs (l.map En.enc) S := by
  obtain ⟨h1, h2⟩ := Sh.list h
  refine ⟨fun rf => deepsR_enc rf l, h1, Nat.le_trans h2 hs, ?_⟩
  have := En.dep l
  rw [enc_list] at this
  simp only [toPy, PyData.depth] at this
  have e : En.dp (List α) = En.dp α + 1 := rfl
  omega
theorem perm_map_inv {α β : Type} {f : α → β} : ∀ {l : List α} {l2 : List β}, l2.Perm (l.map f) → ∃ l' : List α, l'.Perm l ∧ l2 = l'.map f
  | [], l2, h => ⟨[], List.Perm.refl _, List.Perm.eq_nil h⟩
  | a :: l, l2, h => by
    have hm : f a ∈ l2 := h.symm.subset (List.mem_cons_self ..)
    obtain ⟨s, t, rfl⟩ := List.append_of_mem hm
    have h2 : (s ++ t).Perm (l.map f) := (List.perm_cons (f a)).mp (List.perm_middle.symm.trans h)
    obtain ⟨l', p, e⟩ := perm_map_inv h2
    obtain ⟨s', t', rfl, rfl, rfl⟩ := List.map_eq_append_iff.mp e.symm
    exact ⟨s' ++ a :: t', List.perm_middle.trans (List.Perm.cons a p), by simp⟩
theorem cut_take {l : List T} {c : Nat} (h : c ≤ l.length) : cutT l none (some (c : Int)) = l.take c := by
  unfold cutT
  have e1 : HT.sIx l.length 0 none = 0 := by simp [HT.sIx]
  have e2 : HT.sIx l.length l.length (some (c : Int)) = c := by
    unfold HT.sIx
    simp only []
    rw [if_neg (by omega)]
    omega
  rw [e1, e2]; simp
theorem cut_drop {l : List T} {c : Nat} (h : c ≤ l.length) : cutT l (some (c : Int)) none = l.drop c := by
  unfold cutT
  have e1 : HT.sIx l.length 0 (some (c : Int)) = c := by
    unfold HT.sIx
    simp only []
    rw [if_neg (by omega)]
    omega
  have e2 : HT.sIx l.length l.length none = l.length := by simp [HT.sIx]
  rw [e1, e2]
  rw [List.take_of_length_le]
  simp
theorem Prs.two {a b : T} {x y : Nat} (h : Pr a x) (k : Pr b y) : Prs [a, b] (x + y) := Prs.cons h (Prs.cons k Prs.nil)
theorem repr_non (m : Mem) : biop .repr [.non] m = some (.ok (.rep .non), m) := rfl
/-- repr of a value that is told -/
theorem repr_enc {α : Type} [En α] (hd : En.dp α ≤ 40) {a : α} {S : Nat} (h : Sh (En.enc a) S) (hs : S ≤ 7000000) {m : Mem} (ht : ∃ l, En.enc a = T.tup l) : biop .repr [En.enc a] m = some (.ok (.rep (En.enc a)), m) := by
  obtain ⟨l, e⟩ := ht
  have p := Pr.enc hd h
  rw [e] at p ⊢
  have e2 : deep m (.tup l) = some (.tup l) := p.deep _
  simp only [biop, biRepr, reprOp, e2]
  refine guard'_of ?_ _
  have h1 := p.rsz
  have h2 : T.dep (.tup l) ≤ 60 := by have := p.dep; unfold T.dep; omega
  have h3 : T.rsz (.tup l) ≤ 8000000 := by omega
  simp only [p.shw, h2, h3, decide_true, Bool.and_self]
theorem Sh.rat {q : Rat} {k : Nat} (h : Bd k q) (hk : k ≤ 1900) (h0 : 0 < k) : Sh (En.enc q) (2 * k + 24) := (Sh.pair (Sh.int h.1 hk h0) (Sh.int h.den hk h0)).mono (by omega)
theorem repr_rat {q : Rat} {k : Nat} (h : Bd k q) (hk : k ≤ 1900) (h0 : 0 < k) (m : Mem) : biop .repr [En.enc q] m = some (.ok (.rep (En.enc q)), m) := repr_enc (by decide) (Sh.rat h hk h0) (by omega) ⟨_, rfl⟩
end Lb
end
section
set_option linter.all false
set_option maxRecDepth 100000
namespace K15
open PySem PySem.Spec PyProof.Rows L2 Ev
def top (i : Nat) : Stmt := PySem.Challenge.pw_bornbetween_k15_whole_far_roots_of_halve.main.body.getD i (.Pass ⟨0, 0, 0, 0⟩)
def dOf (i : Nat) (x : Str) : He.DefD := ⟨(x, none), x, x, defArgs (top i), defBody (top i), defScope (top i), [], []⟩
/-- is_long -/
def c0 : CD := ⟨1, 1, .cons (.ret (.or (.cmp .gt (.meth .bits (.var 0) (.nil)) (.glob "SURE_BITS" (.int 997))) (.cmp .gt (.bi .len (.cons false (.bi .str (.cons false (.bi .abs (.cons false (.var 0) (.nil))) (.nil))) (.nil))) (.glob "MOST_FIGURES" (.int 300))))) (.nil)⟩
/-- length_made -/
def c1 : CD := ⟨1, 3, .cons (.for_ (.tup (.cons (.name 1) (.cons (.name 2) (.nil)))) (.seq (.var 0)) (.cons (.ife (.or (.call 0 (.cons false (.var 1) (.nil))) (.call 0 (.cons false (.var 2) (.nil)))) (.cons (.never) (.nil)) (.nil)) (.nil))) (.cons (.ret (.var 0)) (.nil))⟩
/-- is_power -/
def c2 : CD := ⟨1, 1, .cons (.ret (.and (.cmp .gt (.var 0) (.cst (.int 0))) (.cmp .eq (.bin .band (.var 0) (.bin .sub (.var 0) (.cst (.int 1)))) (.cst (.int 0))))) (.nil)⟩
/-- half_told -/
def c3 : CD := ⟨2, 3, .cons (.asg (.name 2) (.bi .gcd (.cons false (.var 0) (.cons false (.var 1) (.nil))))) (.cons (.ret (.tup (.cons false (.bin .fdiv (.var 0) (.var 2)) (.cons false (.bin .fdiv (.var 1) (.var 2)) (.nil))))) (.nil))⟩
/-- half_made -/
def c4 : CD := ⟨1, 1, .cons (.ex (.call 1 (.cons false (.tup (.cons false (.var 0) (.nil))) (.nil)))) (.cons (.ret (.var 0)) (.nil))⟩
/-- half_sum -/
def c5 : CD := ⟨2, 2, .cons (.ret (.call 3 (.cons false (.bin .add (.bin .mul (.idx (.var 0) (.cst (.int 0))) (.idx (.var 1) (.cst (.int 1)))) (.bin .mul (.idx (.var 1) (.cst (.int 0))) (.idx (.var 0) (.cst (.int 1))))) (.cons false (.bin .mul (.idx (.var 0) (.cst (.int 1))) (.idx (.var 1) (.cst (.int 1)))) (.nil))))) (.nil)⟩
/-- half_turned -/
def c6 : CD := ⟨1, 1, .cons (.ret (.tup (.cons false (.neg (.idx (.var 0) (.cst (.int 0)))) (.cons false (.idx (.var 0) (.cst (.int 1))) (.nil))))) (.nil)⟩
/-- half_product -/
def c7 : CD := ⟨2, 2, .cons (.ret (.call 3 (.cons false (.bin .mul (.idx (.var 0) (.cst (.int 0))) (.idx (.var 1) (.cst (.int 0)))) (.cons false (.bin .mul (.idx (.var 0) (.cst (.int 1))) (.idx (.var 1) (.cst (.int 1)))) (.nil))))) (.nil)⟩
/-- halves_compared -/
def c8 : CD := ⟨2, 4, .cons (.par [2, 3] (.cons false (.bin .mul (.idx (.var 0) (.cst (.int 0))) (.idx (.var 1) (.cst (.int 1)))) (.cons false (.bin .mul (.idx (.var 1) (.cst (.int 0))) (.idx (.var 0) (.cst (.int 1)))) (.nil)))) (.cons (.ret (.bin .sub (.cmp .gt (.var 2) (.var 3)) (.cmp .lt (.var 2) (.var 3)))) (.nil))⟩
/-- half_divided -/
def c9 : CD := ⟨2, 5, .cons (.par [3, 4] (.cons false (.bin .mul (.idx (.var 0) (.cst (.int 0))) (.idx (.var 1) (.cst (.int 1)))) (.cons false (.bin .mul (.idx (.var 0) (.cst (.int 1))) (.idx (.var 1) (.cst (.int 0)))) (.nil)))) (.cons (.ife (.cmp .lt (.var 4) (.cst (.int 0))) (.cons (.par [3, 4] (.cons false (.neg (.var 3)) (.cons false (.neg (.var 4)) (.nil)))) (.nil)) (.nil)) (.cons (.asg (.name 2) (.call 3 (.cons false (.var 3) (.cons false (.var 4) (.nil))))) (.cons (.ret (.ite (.call 2 (.cons false (.idx (.var 2) (.cst (.int 1))) (.nil))) (.var 2) (.cst (.non)))) (.nil))))⟩
/-- number_taken -/
def c10 : CD := ⟨2, 4, .cons (.asg (.name 2) (.cst (.int 1))) (.cons (.for_ (.name 3) (.rng (.var 1)) (.cons (.aug 2 .mul (.var 0)) (.nil))) (.cons (.ret (.var 2)) (.nil)))⟩
/-- whole_root -/
def c11 : CD := ⟨2, 5, .cons (.asg (.name 2) (.cst (.int 0))) (.cons (.for_ (.name 3) (.rngd (.bin .fdiv (.meth .bits (.var 0) (.nil)) (.var 1)) (.neg (.cst (.int 1)))) (.cons (.asg (.name 4) (.bin .add (.var 2) (.bin .shl (.cst (.int 1)) (.var 3)))) (.cons (.ife (.cmp .le (.call 10 (.cons false (.var 4) (.cons false (.var 1) (.nil)))) (.var 0)) (.cons (.asg (.name 2) (.var 4)) (.nil)) (.nil)) (.nil)))) (.cons (.ret (.var 2)) (.nil)))⟩
/-- half_root -/
def c12 : CD := ⟨2, 6, .cons (.asg (.tup (.cons (.name 2) (.cons (.name 3) (.nil)))) (.var 0)) (.cons (.ife (.and (.cmp .lt (.var 2) (.cst (.int 0))) (.cmp .eq (.bin .mod (.var 1) (.cst (.int 2))) (.cst (.int 0)))) (.cons (.ret (.cst (.non))) (.nil)) (.nil)) (.cons (.par [4, 5] (.cons false (.call 11 (.cons false (.bi .abs (.cons false (.var 2) (.nil))) (.cons false (.var 1) (.nil)))) (.cons false (.call 11 (.cons false (.var 3) (.cons false (.var 1) (.nil)))) (.nil)))) (.cons (.ife (.or (.cmp .ne (.call 10 (.cons false (.var 4) (.cons false (.var 1) (.nil)))) (.bi .abs (.cons false (.var 2) (.nil)))) (.cmp .ne (.call 10 (.cons false (.var 5) (.cons false (.var 1) (.nil)))) (.var 3))) (.cons (.ret (.cst (.non))) (.nil)) (.nil)) (.cons (.ret (.tup (.cons false (.ite (.cmp .ge (.var 2) (.cst (.int 0))) (.var 4) (.neg (.var 4))) (.cons false (.var 5) (.nil))))) (.nil)))))⟩
/-- number_told -/
def c13 : CD := ⟨1, 7, .cons (.asg (.name 1) (.dnew true)) (.cons (.for_ (.tup (.cons (.name 4) (.cons (.name 5) (.nil)))) (.seq (.var 0)) (.cons (.sub (.var 1) (.var 4) (.call 5 (.cons false (.meth .get2 (.var 1) (.cons false (.var 4) (.cons false (.glob "NOUGHT" (.tup [.int 0, .int 1])) (.nil)))) (.cons false (.var 5) (.nil))))) (.nil))) (.cons (.asg (.name 2) (.biq .maxl (.lst (.cons false (.cst (.int 1)) (.cons true (.mk (.lcd (.idx (.var 4) (.cst (.int 1))) (.name 4) 1 .none [4])) (.nil)))))) (.cons (.asg (.name 3) (.mk (.rev (.sorted (.lcd (.tup (.cons false (.bin .mul (.idx (.var 4) (.cst (.int 0))) (.bin .fdiv (.var 2) (.idx (.var 4) (.cst (.int 1))))) (.cons false (.var 4) (.nil)))) (.name 4) 1 .none [4]))))) (.cons (.ret (.biq .tuple (.lc (.tup (.cons false (.var 4) (.cons false (.idx (.var 1) (.var 4)) (.nil)))) (.tup (.cons (.name 6) (.cons (.name 4) (.nil)))) (.seq (.var 3)) (.some (.cmp .ne (.idx (.var 1) (.var 4)) (.glob "NOUGHT" (.tup [.int 0, .int 1])))) [6, 4]))) (.nil)))))⟩
/-- few_terms -/
def c14 : CD := ⟨1, 1, .cons (.ife (.cmp .gt (.bi .len (.cons false (.var 0) (.nil))) (.glob "MOST_TERMS" (.int 60))) (.cons (.never) (.nil)) (.nil)) (.cons (.ret (.var 0)) (.nil))⟩
/-- number_made -/
def c15 : CD := ⟨1, 3, .cons (.for_ (.tup (.cons (.name 1) (.cons (.name 2) (.nil)))) (.seq (.call 14 (.cons false (.var 0) (.nil)))) (.cons (.ex (.call 4 (.cons false (.var 1) (.nil)))) (.cons (.ex (.call 4 (.cons false (.var 2) (.nil)))) (.nil)))) (.cons (.ret (.var 0)) (.nil))⟩
/-- number_turned -/
def c16 : CD := ⟨1, 3, .cons (.ret (.biq .tuple (.lc (.tup (.cons false (.var 1) (.cons false (.call 6 (.cons false (.var 2) (.nil))) (.nil)))) (.tup (.cons (.name 1) (.cons (.name 2) (.nil)))) (.seq (.var 0)) .none [1, 2]))) (.nil)⟩
/-- put_by -/
def c17 : CD := ⟨2, 7, .cons (.asg (.name 2) (.mk (.lst (.nil)))) (.cons (.for_ (.tup (.cons (.name 3) (.cons (.name 4) (.nil)))) (.seq (.var 0)) (.cons (.ex (.meth .extend (.var 2) (.cons false (.mk (.lc (.tup (.cons false (.call 5 (.cons false (.var 3) (.cons false (.var 5) (.nil)))) (.cons false (.call 7 (.cons false (.var 4) (.cons false (.var 6) (.nil)))) (.nil)))) (.tup (.cons (.name 5) (.cons (.name 6) (.nil)))) (.seq (.var 1)) .none [5, 6])) (.nil)))) (.nil))) (.cons (.ret (.call 13 (.cons false (.var 2) (.nil)))) (.nil)))⟩
/-- numbers_and -/
def c18 : CD := ⟨2, 2, .cons (.ret (.call 15 (.cons false (.call 13 (.cons false (.mk (.lst (.cons true (.var 0) (.cons true (.var 1) (.nil))))) (.nil))) (.nil)))) (.nil)⟩
/-- numbers_less -/
def c19 : CD := ⟨2, 2, .cons (.ret (.call 18 (.cons false (.var 0) (.cons false (.call 16 (.cons false (.var 1) (.nil))) (.nil))))) (.nil)⟩
/-- number_power -/
def c20 : CD := ⟨2, 4, .cons (.asg (.name 2) (.glob "ONE" (.tup [.tup [.tup [.int 0, .int 1], .tup [.int 1, .int 1]]]))) (.cons (.for_ (.name 3) (.rng (.var 1)) (.cons (.asg (.name 2) (.call 14 (.cons false (.call 17 (.cons false (.var 2) (.cons false (.var 0) (.nil)))) (.nil)))) (.nil))) (.cons (.ret (.call 15 (.cons false (.var 2) (.nil)))) (.nil)))⟩
/-- let_term -/
def c21 : CD := ⟨2, 2, .cons (.ife (.cmp .eq (.bi .len (.cons false (.var 0) (.nil))) (.glob "MOST_TERMS" (.int 60))) (.cons (.never) (.nil)) (.nil)) (.cons (.ex (.meth .append (.var 0) (.cons false (.var 1) (.nil)))) (.nil))⟩
/-- over_told -/
def c22 : CD := ⟨2, 7, .cons (.ife (.cmp .eq (.var 1) (.tup (.nil))) (.cons (.never) (.nil)) (.nil)) (.cons (.par [2, 3] (.cons false (.var 0) (.cons false (.mk (.lst (.nil))) (.nil)))) (.cons (.whl (.cmp .ne (.var 2) (.tup (.nil))) (.cons (.asg (.name 4) (.call 5 (.cons false (.idx (.idx (.var 2) (.cst (.int 0))) (.cst (.int 0))) (.cons false (.call 6 (.cons false (.idx (.idx (.var 1) (.cst (.int 0))) (.cst (.int 0))) (.nil))) (.nil))))) (.cons (.asg (.name 5) (.call 5 (.cons false (.idx (.idx (.var 0) (.neg (.cst (.int 1)))) (.cst (.int 0))) (.cons false (.call 6 (.cons false (.idx (.idx (.var 1) (.neg (.cst (.int 1)))) (.cst (.int 0))) (.nil))) (.nil))))) (.cons (.asg (.name 6) (.call 9 (.cons false (.idx (.idx (.var 2) (.cst (.int 0))) (.cst (.int 1))) (.cons false (.idx (.idx (.var 1) (.cst (.int 0))) (.cst (.int 1))) (.nil))))) (.cons (.ife (.or (.isN false (.var 6)) (.cmp .lt (.call 8 (.cons false (.var 4) (.cons false (.var 5) (.nil)))) (.cst (.int 0)))) (.cons (.ret (.tup (.cons false (.glob "REST" (.str "rest")) (.cons false (.call 15 (.cons false (.var 2) (.nil))) (.nil))))) (.nil)) (.nil)) (.cons (.ex (.call 21 (.cons false (.var 3) (.cons false (.tup (.cons false (.var 4) (.cons false (.var 6) (.nil)))) (.nil))))) (.cons (.asg (.name 2) (.call 13 (.cons false (.mk (.lst (.cons true (.var 2) (.cons true (.call 16 (.cons false (.call 17 (.cons false (.tup (.cons false (.idx (.var 3) (.neg (.cst (.int 1)))) (.nil))) (.cons false (.var 1) (.nil)))) (.nil))) (.nil))))) (.nil)))) (.nil)))))))) (.cons (.ret (.tup (.cons false (.glob "NUMBER" (.str "number")) (.cons false (.call 15 (.cons false (.bi .tuple (.cons false (.var 3) (.nil))) (.nil))) (.nil))))) (.nil))))⟩
/-- sloped -/
def c23 : CD := ⟨1, 3, .cons (.ret (.call 13 (.cons false (.mk (.lc (.tup (.cons false (.var 1) (.cons false (.call 7 (.cons false (.var 1) (.cons false (.var 2) (.nil)))) (.nil)))) (.tup (.cons (.name 1) (.cons (.name 2) (.nil)))) (.seq (.var 0)) .none [1, 2])) (.nil)))) (.nil)⟩
/-- first_root -/
def c24 : CD := ⟨2, 4, .cons (.par [2, 3] (.cons false (.call 9 (.cons false (.idx (.idx (.var 0) (.cst (.int 0))) (.cst (.int 0))) (.cons false (.tup (.cons false (.var 1) (.cons false (.cst (.int 1)) (.nil)))) (.nil)))) (.cons false (.call 12 (.cons false (.idx (.idx (.var 0) (.cst (.int 0))) (.cst (.int 1))) (.cons false (.var 1) (.nil)))) (.nil)))) (.cons (.ret (.ite (.and (.isN true (.var 2)) (.isN true (.var 3))) (.tup (.cons false (.var 2) (.cons false (.var 3) (.nil)))) (.cst (.non)))) (.nil))⟩
/-- next_root -/
def c25 : CD := ⟨3, 10, .cons (.asg (.name 3) (.call 17 (.cons false (.bi .tuple (.cons false (.var 2) (.nil))) (.cons false (.call 23 (.cons false (.var 0) (.nil))) (.nil))))) (.cons (.asg (.name 4) (.call 17 (.cons false (.var 0) (.cons false (.call 17 (.cons false (.call 23 (.cons false (.bi .tuple (.cons false (.var 2) (.nil))) (.nil))) (.cons false (.tup (.cons false (.tup (.cons false (.tup (.cons false (.cst (.int 0)) (.cons false (.cst (.int 1)) (.nil)))) (.cons false (.tup (.cons false (.var 1) (.cons false (.cst (.int 1)) (.nil)))) (.nil)))) (.nil))) (.nil)))) (.nil))))) (.cons (.asg (.name 5) (.call 13 (.cons false (.mk (.lst (.cons true (.var 3) (.cons true (.call 16 (.cons false (.var 4) (.nil))) (.nil))))) (.nil)))) (.cons (.ife (.cmp .eq (.var 5) (.tup (.nil))) (.cons (.ret (.cst (.non))) (.nil)) (.nil)) (.cons (.asg (.tup (.cons (.name 8) (.cons (.name 9) (.nil)))) (.idx (.var 0) (.cst (.int 0)))) (.cons (.asg (.name 6) (.call 5 (.cons false (.idx (.idx (.var 5) (.cst (.int 0))) (.cst (.int 0))) (.cons false (.call 6 (.cons false (.var 8) (.nil))) (.nil))))) (.cons (.asg (.name 7) (.call 7 (.cons false (.var 9) (.cons false (.call 5 (.cons false (.var 8) (.cons false (.call 6 (.cons false (.call 7 (.cons false (.var 6) (.cons false (.tup (.cons false (.var 1) (.cons false (.cst (.int 1)) (.nil)))) (.nil)))) (.nil))) (.nil)))) (.nil))))) (.cons (.ret (.tup (.cons false (.var 6) (.cons false (.call 9 (.cons false (.call 6 (.cons false (.idx (.idx (.var 5) (.cst (.int 0))) (.cst (.int 1))) (.nil))) (.cons false (.var 7) (.nil)))) (.nil))))) (.nil))))))))⟩
/-- root_told -/
def c26 : CD := ⟨2, 4, .cons (.ife (.or (.cmp .eq (.var 0) (.tup (.nil))) (.cmp .eq (.var 1) (.cst (.int 1)))) (.cons (.ret (.tup (.cons false (.glob "NUMBER" (.str "number")) (.cons false (.var 0) (.nil))))) (.nil)) (.nil)) (.cons (.par [2, 3] (.cons false (.call 24 (.cons false (.var 0) (.cons false (.var 1) (.nil)))) (.cons false (.mk (.lst (.nil))) (.nil)))) (.cons (.ife (.isN false (.var 2)) (.cons (.ret (.tup (.cons false (.glob "REST" (.str "rest")) (.cons false (.var 0) (.nil))))) (.nil)) (.nil)) (.cons (.whl (.isN true (.var 2)) (.cons (.ife (.or (.isN false (.idx (.var 2) (.cst (.int 1)))) (.cmp .lt (.call 8 (.cons false (.call 7 (.cons false (.idx (.var 2) (.cst (.int 0))) (.cons false (.tup (.cons false (.var 1) (.cons false (.cst (.int 1)) (.nil)))) (.nil)))) (.cons false (.idx (.idx (.var 0) (.neg (.cst (.int 1)))) (.cst (.int 0))) (.nil)))) (.cst (.int 0)))) (.cons (.ret (.tup (.cons false (.glob "REST" (.str "rest")) (.cons false (.call 19 (.cons false (.var 0) (.cons false (.call 20 (.cons false (.bi .tuple (.cons false (.var 3) (.nil))) (.cons false (.var 1) (.nil)))) (.nil)))) (.nil))))) (.nil)) (.nil)) (.cons (.ex (.call 21 (.cons false (.var 3) (.cons false (.var 2) (.nil))))) (.cons (.asg (.name 2) (.call 25 (.cons false (.var 0) (.cons false (.var 1) (.cons false (.var 3) (.nil)))))) (.nil))))) (.cons (.ret (.tup (.cons false (.glob "NUMBER" (.str "number")) (.cons false (.call 15 (.cons false (.bi .tuple (.cons false (.var 3) (.nil))) (.nil))) (.nil))))) (.nil)))))⟩
/-- _law_source -/
def c27 : CD := ⟨1, 3, .cons (.asg (.name 1) (.cst (.int 11))) (.cons (.for_ (.name 2) (.seq (.var 0)) (.cons (.asg (.name 1) (.bin .mod (.bi .int (.cons false (.bin .add (.bin .add (.bin .mul (.var 1) (.cst (.int 69069))) (.bin .mul (.var 2) (.cst (.int 31)))) (.cst (.int 5))) (.nil))) (.cst (.int 2147483629)))) (.nil))) (.cons (.ret (.ddisp ["cells", "left", "mixed", "turn"] (.cons false (.mk (.rev (.lc (.bi .abs (.cons false (.var 2) (.nil))) (.name 2) (.seq (.var 0)) .none [2]))) (.cons false (.cst (.int 1)) (.cons false (.var 1) (.cons false (.cst (.int 0)) (.nil))))))) (.nil)))⟩
/-- _law_pick -/
def c28 : CD := ⟨2, 4, .cons (.whl (.and (.cmp .gt (.var 1) (.cst (.int 1))) (.and (.cmp .lt (.idx (.var 0) (.cst (.str "left"))) (.cst (.int 2))) (.cmp .gt (.bi .len (.cons false (.idx (.var 0) (.cst (.str "cells"))) (.nil))) (.cst (.int 0))))) (.cons (.sub (.var 0) (.cst (.str "left")) (.meth .pop (.idx (.var 0) (.cst (.str "cells"))) (.nil))) (.nil))) (.cons (.asg (.name 2) (.idx (.var 0) (.cst (.str "left")))) (.cons (.ife (.or (.cmp .lt (.var 1) (.cst (.int 2))) (.cmp .gt (.var 2) (.cst (.int 1)))) (.cons (.sub (.var 0) (.cst (.str "left")) (.bin .fdiv (.var 2) (.bi .max2 (.cons false (.cst (.int 1)) (.cons false (.var 1) (.nil)))))) (.cons (.ret (.bin .mod (.bi .int (.cons false (.var 2) (.nil))) (.bi .max2 (.cons false (.cst (.int 1)) (.cons false (.var 1) (.nil)))))) (.nil))) (.nil)) (.cons (.sub (.var 0) (.cst (.str "turn")) (.bin .add (.idx (.var 0) (.cst (.str "turn"))) (.cst (.int 1)))) (.cons (.asg (.name 3) (.bin .mod (.bi .int (.cons false (.bin .add (.idx (.var 0) (.cst (.str "mixed"))) (.bin .mul (.idx (.var 0) (.cst (.str "turn"))) (.cst (.int 104729)))) (.nil))) (.cst (.int 998244353)))) (.cons (.asg (.name 3) (.bin .mod (.bi .int (.cons false (.bin .add (.bin .mul (.var 3) (.var 3)) (.bin .mul (.idx (.var 0) (.cst (.str "turn"))) (.cst (.int 17)))) (.nil))) (.cst (.int 2147483647)))) (.cons (.sub (.var 0) (.cst (.str "mixed")) (.var 3)) (.cons (.ret (.bin .mod (.bi .int (.cons false (.bin .fdiv (.var 3) (.cst (.int 16))) (.nil))) (.var 1))) (.nil))))))))⟩
/-- _law_of -/
def c29 : CD := ⟨2, 2, .cons (.ret (.idx (.var 1) (.call 28 (.cons false (.var 0) (.cons false (.bi .len (.cons false (.var 1) (.nil))) (.nil)))))) (.nil)⟩
/-- _law_taken -/
def c30 : CD := ⟨2, 4, .cons (.asg (.name 2) (.cst (.int 1))) (.cons (.for_ (.name 3) (.rng (.var 1)) (.cons (.asg (.name 2) (.bin .mul (.var 2) (.var 0))) (.nil))) (.cons (.ret (.var 2)) (.nil)))⟩
/-- _law_odd -/
def c31 : CD := ⟨2, 4, .cons (.asg (.name 2) (.bin .add (.cst (.int 1)) (.call 28 (.cons false (.var 0) (.cons false (.cst (.int 9)) (.nil)))))) (.cons (.for_ (.name 3) (.rng (.bin .sub (.var 1) (.cst (.int 1)))) (.cons (.asg (.name 2) (.bin .add (.bin .mul (.var 2) (.cst (.int 10))) (.call 28 (.cons false (.var 0) (.cons false (.cst (.int 10)) (.nil)))))) (.nil))) (.cons (.ret (.bin .sub (.bin .add (.var 2) (.cst (.int 1))) (.bin .mod (.bi .int (.cons false (.var 2) (.nil))) (.cst (.int 2))))) (.nil)))⟩
/-- _law_half -/
def c32 : CD := ⟨2, 4, .cons (.par [2, 3] (.cons false (.call 31 (.cons false (.var 0) (.cons false (.var 1) (.nil)))) (.cons false (.call 29 (.cons false (.var 0) (.cons false (.mk (.lst (.cons false (.cst (.int 0)) (.cons false (.cst (.int 0)) (.cons false (.cst (.int 1)) (.cons false (.cst (.int 3)) (.cons false (.cst (.int 40)) (.nil)))))))) (.nil)))) (.nil)))) (.cons (.asg (.name 2) (.ite (.cmp .eq (.call 28 (.cons false (.var 0) (.cons false (.cst (.int 2)) (.nil)))) (.cst (.int 0))) (.var 2) (.bin .sub (.cst (.int 0)) (.var 2)))) (.cons (.ife (.cmp .eq (.call 28 (.cons false (.var 0) (.cons false (.cst (.int 2)) (.nil)))) (.cst (.int 0))) (.cons (.ret (.tup (.cons false (.var 2) (.cons false (.call 30 (.cons false (.cst (.int 2)) (.cons false (.var 3) (.nil)))) (.nil))))) (.nil)) (.nil)) (.cons (.ret (.tup (.cons false (.bin .mul (.var 2) (.call 30 (.cons false (.cst (.int 2)) (.cons false (.bi .min2 (.cons false (.var 3) (.cons false (.cst (.int 3)) (.nil)))) (.nil))))) (.cons false (.cst (.int 1)) (.nil))))) (.nil))))⟩
/-- _law_power -/
def c33 : CD := ⟨2, 2, .cons (.ret (.tup (.cons false (.call 30 (.cons false (.idx (.var 0) (.cst (.int 0))) (.cons false (.var 1) (.nil)))) (.cons false (.call 30 (.cons false (.idx (.var 0) (.cst (.int 1))) (.cons false (.var 1) (.nil)))) (.nil))))) (.nil)⟩
/-- law -/
def c34 : CD := ⟨1, 19, .cons (.asg (.name 1) (.call 27 (.cons false (.var 0) (.nil)))) (.cons (.asg (.name 2) (.call 29 (.cons false (.var 1) (.cons false (.mk (.lst (.cons false (.cst (.int 2)) (.cons false (.cst (.int 2)) (.cons false (.cst (.int 3)) (.cons false (.cst (.int 3)) (.cons false (.cst (.int 4)) (.cons false (.cst (.int 5)) (.cons false (.cst (.int 7)) (.cons false (.cst (.int 11)) (.cons false (.cst (.int 12)) (.nil)))))))))))) (.nil))))) (.cons (.asg (.name 3) (.bin .fdiv (.call 29 (.cons false (.var 1) (.cons false (.mk (.lst (.cons false (.cst (.int 3)) (.cons false (.cst (.int 16)) (.cons false (.cst (.int 17)) (.cons false (.cst (.int 20)) (.cons false (.cst (.int 40)) (.cons false (.cst (.int 300)) (.nil))))))))) (.nil)))) (.call 29 (.cons false (.var 1) (.cons false (.mk (.lst (.cons false (.cst (.int 1)) (.cons false (.cst (.int 2)) (.nil))))) (.nil)))))) (.cons (.asg (.name 3) (.bi .max2 (.cons false (.cst (.int 2)) (.cons false (.bi .min2 (.cons false (.var 3) (.cons false (.bin .fdiv (.cst (.int 300)) (.var 2)) (.nil)))) (.nil))))) (.cons (.par [15, 16] (.cons false (.call 32 (.cons false (.var 1) (.cons false (.var 3) (.nil)))) (.cons false (.call 32 (.cons false (.var 1) (.cons false (.bin .add (.cst (.int 2)) (.call 28 (.cons false (.var 1) (.cons false (.bin .add (.bin .fdiv (.cst (.int 20)) (.var 2)) (.cst (.int 1))) (.nil))))) (.nil)))) (.nil)))) (.cons (.asg (.name 4) (.mk (.lst (.nil)))) (.cons (.for_ (.name 5) (.seq (.tup (.cons false (.var 15) (.cons false (.var 16) (.nil))))) (.cons (.asg (.name 8) (.call 33 (.cons false (.var 5) (.cons false (.var 2) (.nil))))) (.cons (.asg (.name 14) (.ite (.or (.cmp .eq (.bin .mod (.bi .int (.cons false (.var 2) (.nil))) (.cst (.int 2))) (.cst (.int 1))) (.cmp .gt (.idx (.var 5) (.cst (.int 0))) (.cst (.int 0)))) (.var 5) (.tup (.cons false (.bin .sub (.cst (.int 0)) (.idx (.var 5) (.cst (.int 0)))) (.cons false (.idx (.var 5) (.cst (.int 1))) (.nil)))))) (.cons (.ex (.meth .append (.var 4) (.cons false (.var 14) (.nil)))) (.cons (.ife (.cmp .ne (.bi .repr (.cons false (.call 12 (.cons false (.var 8) (.cons false (.var 2) (.nil)))) (.nil))) (.bi .repr (.cons false (.var 14) (.nil)))) (.cons (.ret (.cst (.bl false))) (.nil)) (.nil)) (.cons (.for_ (.name 17) (.seq (.tup (.cons false (.cst (.int 1)) (.cons false (.neg (.cst (.int 1))) (.nil))))) (.cons (.asg (.name 12) (.call 3 (.cons false (.bin .add (.idx (.var 8) (.cst (.int 0))) (.var 17)) (.cons false (.idx (.var 8) (.cst (.int 1))) (.nil))))) (.cons (.ife (.isN true (.call 12 (.cons false (.var 12) (.cons false (.var 2) (.nil))))) (.cons (.ret (.cst (.bl false))) (.nil)) (.nil)) (.nil)))) (.cons (.asg (.name 18) (.ite (.cmp .eq (.bin .mod (.bi .int (.cons false (.var 2) (.nil))) (.cst (.int 2))) (.cst (.int 1))) (.tup (.cons false (.bin .sub (.cst (.int 0)) (.idx (.var 14) (.cst (.int 0)))) (.cons false (.idx (.var 14) (.cst (.int 1))) (.nil)))) (.cst (.non)))) (.cons (.ife (.cmp .ne (.bi .repr (.cons false (.call 12 (.cons false (.call 6 (.cons false (.var 8) (.nil))) (.cons false (.var 2) (.nil)))) (.nil))) (.bi .repr (.cons false (.var 18) (.nil)))) (.cons (.ret (.cst (.bl false))) (.nil)) (.nil)) (.cons (.ife (.isN true (.call 12 (.cons false (.call 3 (.cons false (.bin .mul (.cst (.int 2)) (.idx (.var 8) (.cst (.int 0)))) (.cons false (.idx (.var 8) (.cst (.int 1))) (.nil)))) (.cons false (.var 2) (.nil))))) (.cons (.ret (.cst (.bl false))) (.nil)) (.nil)) (.cons (.asg (.name 10) (.call 3 (.cons false (.bin .mul (.idx (.var 8) (.cst (.int 0))) (.call 30 (.cons false (.cst (.int 2)) (.cons false (.var 2) (.nil))))) (.cons false (.idx (.var 8) (.cst (.int 1))) (.nil))))) (.cons (.ife (.cmp .ne (.bi .repr (.cons false (.call 12 (.cons false (.var 10) (.cons false (.var 2) (.nil)))) (.nil))) (.bi .repr (.cons false (.call 3 (.cons false (.bin .mul (.cst (.int 2)) (.idx (.var 14) (.cst (.int 0)))) (.cons false (.idx (.var 14) (.cst (.int 1))) (.nil)))) (.nil)))) (.cons (.ret (.cst (.bl false))) (.nil)) (.nil)) (.nil)))))))))))) (.cons (.asgq 6 (.lc (.call 33 (.cons false (.var 5) (.cons false (.var 2) (.nil)))) (.name 5) (.seq (.tup (.cons false (.var 15) (.cons false (.var 16) (.nil))))) .none [5])) (.cons (.asg (.name 7) (.call 7 (.cons false (.idx (.var 6) (.cst (.int 0))) (.cons false (.idx (.var 6) (.cst (.int 1))) (.nil))))) (.cons (.ife (.cmp .ne (.bi .repr (.cons false (.call 12 (.cons false (.var 7) (.cons false (.var 2) (.nil)))) (.nil))) (.bi .repr (.cons false (.call 7 (.cons false (.idx (.var 4) (.cst (.int 0))) (.cons false (.idx (.var 4) (.cst (.int 1))) (.nil)))) (.nil)))) (.cons (.ret (.cst (.bl false))) (.nil)) (.nil)) (.cons (.ife (.cmp .ne (.call 8 (.cons false (.idx (.var 4) (.cst (.int 0))) (.cons false (.idx (.var 4) (.cst (.int 1))) (.nil)))) (.call 8 (.cons false (.idx (.var 6) (.cst (.int 0))) (.cons false (.idx (.var 6) (.cst (.int 1))) (.nil))))) (.cons (.ret (.cst (.bl false))) (.nil)) (.nil)) (.cons (.ife (.cmp .ne (.bi .repr (.cons false (.call 9 (.cons false (.var 7) (.cons false (.idx (.var 6) (.cst (.int 1))) (.nil)))) (.nil))) (.bi .repr (.cons false (.call 3 (.cons false (.idx (.idx (.var 6) (.cst (.int 0))) (.cst (.int 0))) (.cons false (.idx (.idx (.var 6) (.cst (.int 0))) (.cst (.int 1))) (.nil)))) (.nil)))) (.cons (.ret (.cst (.bl false))) (.nil)) (.nil)) (.cons (.asg (.name 8) (.call 33 (.cons false (.var 16) (.cons false (.var 2) (.nil))))) (.cons (.asg (.name 9) (.call 29 (.cons false (.var 1) (.cons false (.mk (.lst (.cons false (.tup (.cons false (.cst (.int 1)) (.cons false (.cst (.int 2)) (.nil)))) (.cons false (.tup (.cons false (.neg (.cst (.int 3))) (.cons false (.cst (.int 1)) (.nil)))) (.cons false (.tup (.cons false (.cst (.int 0)) (.cons false (.cst (.int 1)) (.nil)))) (.cons false (.tup (.cons false (.bin .add (.bin .pow (.cst (.int 10)) (.cst (.int 40))) (.cst (.int 1))) (.cons false (.cst (.int 8)) (.nil)))) (.nil))))))) (.nil))))) (.cons (.asg (.name 10) (.call 3 (.cons false (.bin .mul (.idx (.var 9) (.cst (.int 0))) (.var 2)) (.cons false (.idx (.var 9) (.cst (.int 1))) (.nil))))) (.cons (.asg (.name 11) (.tup (.cons false (.tup (.cons false (.var 10) (.cons false (.var 8) (.nil)))) (.nil)))) (.cons (.ife (.cmp .ne (.bi .repr (.cons false (.call 26 (.cons false (.var 11) (.cons false (.var 2) (.nil)))) (.nil))) (.bi .repr (.cons false (.tup (.cons false (.cst (.str "number")) (.cons false (.tup (.cons false (.tup (.cons false (.var 9) (.cons false (.idx (.var 4) (.cst (.int 1))) (.nil)))) (.nil))) (.nil)))) (.nil)))) (.cons (.ret (.cst (.bl false))) (.nil)) (.nil)) (.cons (.ife (.cmp .ne (.bi .repr (.cons false (.call 20 (.cons false (.tup (.cons false (.tup (.cons false (.var 9) (.cons false (.var 16) (.nil)))) (.nil))) (.cons false (.var 2) (.nil)))) (.nil))) (.bi .repr (.cons false (.var 11) (.nil)))) (.cons (.ret (.cst (.bl false))) (.nil)) (.nil)) (.cons (.asg (.name 12) (.tup (.cons false (.tup (.cons false (.var 10) (.cons false (.call 3 (.cons false (.bin .add (.idx (.var 8) (.cst (.int 0))) (.cst (.int 1))) (.cons false (.idx (.var 8) (.cst (.int 1))) (.nil)))) (.nil)))) (.nil)))) (.cons (.ife (.cmp .ne (.bi .repr (.cons false (.call 26 (.cons false (.var 12) (.cons false (.var 2) (.nil)))) (.nil))) (.bi .repr (.cons false (.tup (.cons false (.cst (.str "rest")) (.cons false (.var 12) (.nil)))) (.nil)))) (.cons (.ret (.cst (.bl false))) (.nil)) (.nil)) (.cons (.asg (.name 13) (.call 3 (.cons false (.bin .sub (.bin .mul (.idx (.var 10) (.cst (.int 0))) (.idx (.var 9) (.cst (.int 1)))) (.bin .mul (.idx (.var 9) (.cst (.int 0))) (.idx (.var 10) (.cst (.int 1))))) (.cons false (.bin .mul (.idx (.var 10) (.cst (.int 1))) (.idx (.var 9) (.cst (.int 1)))) (.nil))))) (.cons (.asg (.name 14) (.tup (.cons false (.cst (.str "number")) (.cons false (.tup (.cons false (.tup (.cons false (.var 13) (.cons false (.call 9 (.cons false (.var 8) (.cons false (.var 16) (.nil)))) (.nil)))) (.nil))) (.nil))))) (.cons (.ret (.cmp .eq (.bi .repr (.cons false (.call 22 (.cons false (.var 11) (.cons false (.tup (.cons false (.tup (.cons false (.var 9) (.cons false (.var 16) (.nil)))) (.nil))) (.nil)))) (.nil))) (.bi .repr (.cons false (.var 14) (.nil))))) (.nil)))))))))))))))))))))))⟩
def D0 : Df := ⟨dOf 9 "is_long", ["number"], ["number"], c0⟩
def D1 : Df := ⟨dOf 10 "length_made", ["length", "power", "many"], ["length"], c1⟩
def D2 : Df := ⟨dOf 13 "is_power", ["number"], ["number"], c2⟩
def D3 : Df := ⟨dOf 14 "half_told", ["top", "bottom", "part"], ["top", "bottom"], c3⟩
def D4 : Df := ⟨dOf 15 "half_made", ["half"], ["half"], c4⟩
def D5 : Df := ⟨dOf 16 "half_sum", ["one", "other"], ["one", "other"], c5⟩
def D6 : Df := ⟨dOf 17 "half_turned", ["half"], ["half"], c6⟩
def D7 : Df := ⟨dOf 18 "half_product", ["one", "other"], ["one", "other"], c7⟩
def D8 : Df := ⟨dOf 19 "halves_compared", ["one", "other", "here", "there"], ["one", "other"], c8⟩
def D9 : Df := ⟨dOf 20 "half_divided", ["one", "other", "found", "top", "bottom"], ["one", "other"], c9⟩
def D10 : Df := ⟨dOf 21 "number_taken", ["number", "often", "found", "lap"], ["number", "often"], c10⟩
def D11 : Df := ⟨dOf 22 "whole_root", ["number", "many", "found", "place", "late"], ["number", "many"], c11⟩
def D12 : Df := ⟨dOf 23 "half_root", ["half", "many", "top", "bottom", "one", "other"], ["half", "many"], c12⟩
def D13 : Df := ⟨dOf 28 "number_told", ["terms", "found", "bottom", "line", "power", "many", "size"], ["terms"], c13⟩
def D14 : Df := ⟨dOf 29 "few_terms", ["number"], ["number"], c14⟩
def D15 : Df := ⟨dOf 30 "number_made", ["number", "power", "many"], ["number"], c15⟩
def D16 : Df := ⟨dOf 31 "number_turned", ["number", "power", "many"], ["number"], c16⟩
def D17 : Df := ⟨dOf 32 "put_by", ["one", "other", "found", "power", "many", "late", "more"], ["one", "other"], c17⟩
def D18 : Df := ⟨dOf 33 "numbers_and", ["one", "other"], ["one", "other"], c18⟩
def D19 : Df := ⟨dOf 34 "numbers_less", ["one", "other"], ["one", "other"], c19⟩
def D20 : Df := ⟨dOf 35 "number_power", ["number", "many", "found", "lap"], ["number", "many"], c20⟩
def D21 : Df := ⟨dOf 39 "let_term", ["found", "term"], ["found", "term"], c21⟩
def D22 : Df := ⟨dOf 40 "over_told", ["one", "other", "left", "found", "power", "last", "many"], ["one", "other"], c22⟩
def D23 : Df := ⟨dOf 41 "sloped", ["number", "power", "many"], ["number"], c23⟩
def D24 : Df := ⟨dOf 42 "first_root", ["number", "many", "power", "often"], ["number", "many"], c24⟩
def D25 : Df := ⟨dOf 43 "next_root", ["number", "many", "found", "here", "there", "gap", "power", "by", "first", "often"], ["number", "many", "found"], c25⟩
def D26 : Df := ⟨dOf 44 "root_told", ["number", "many", "term", "found"], ["number", "many"], c26⟩
def D27 : Df := ⟨dOf 46 "_law_source", ["script", "mixed", "cell"], ["script"], c27⟩
def D28 : Df := ⟨dOf 47 "_law_pick", ["source", "many", "left", "mixed"], ["source", "many"], c28⟩
def D29 : Df := ⟨dOf 48 "_law_of", ["source", "some"], ["source", "some"], c29⟩
def D30 : Df := ⟨dOf 49 "_law_taken", ["number", "many", "found", "lap"], ["number", "many"], c30⟩
def D31 : Df := ⟨dOf 50 "_law_odd", ["source", "figures", "found", "lap"], ["source", "figures"], c31⟩
def D32 : Df := ⟨dOf 51 "_law_half", ["source", "figures", "top", "two"], ["source", "figures"], c32⟩
def D33 : Df := ⟨dOf 52 "_law_power", ["half", "many"], ["half", "many"], c33⟩
def D34 : Df := ⟨dOf 53 "law", ["script", "source", "many", "figures", "dues", "half", "powers", "both", "power", "step", "wide", "term", "late", "left", "due", "one", "other", "more", "back"], ["script"], c34⟩
def md : Md := ⟨[("MOST_FIGURES", .int 300), ("MOST_TERMS", .int 60), ("NOUGHT", .tup [.int 0, .int 1]), ("NUMBER", .str "number"), ("ONE", .tup [.tup [.tup [.int 0, .int 1], .tup [.int 1, .int 1]]]), ("REST", .str "rest"), ("SURE_BITS", .int 997)], (["is_long", "length_made", "is_power", "half_told", "half_made", "half_sum", "half_turned", "half_product", "halves_compared", "half_divided", "number_taken", "whole_root", "half_root", "number_told", "few_terms", "number_made", "number_turned", "put_by", "numbers_and", "numbers_less"] : List Str) ++ (["number_power", "let_term", "over_told", "sloped", "first_root", "next_root", "root_told", "_law_source", "_law_pick", "_law_of", "_law_taken", "_law_odd", "_law_half", "_law_power", "law"] : List Str), true⟩
def ds : List Df := [D0, D1, D2, D3, D4, D5, D6, D7, D8, D9, D10, D11, D12, D13, D14, D15, D16, D17, D18, D19, D20, D21, D22, D23, D24, D25, D26, D27, D28, D29, D30, D31, D32, D33, D34]
def cs : List CD := [c0, c1, c2, c3, c4, c5, c6, c7, c8, c9, c10, c11, c12, c13, c14, c15, c16, c17, c18, c19, c20, c21, c22, c23, c24, c25, c26, c27, c28, c29, c30, c31, c32, c33, c34]
theorem b0 : DBind D0 := fun _ _ _ _ _ _ us hl => match us, hl with | [_], _ => rfl
theorem b1 : DBind D1 := fun _ _ _ _ _ _ us hl => match us, hl with | [_], _ => rfl
theorem b2 : DBind D2 := fun _ _ _ _ _ _ us hl => match us, hl with | [_], _ => rfl
theorem b3 : DBind D3 := fun _ _ _ _ _ _ us hl => match us, hl with | [_, _], _ => rfl
theorem b4 : DBind D4 := fun _ _ _ _ _ _ us hl => match us, hl with | [_], _ => rfl
theorem b5 : DBind D5 := fun _ _ _ _ _ _ us hl => match us, hl with | [_, _], _ => rfl
theorem b6 : DBind D6 := fun _ _ _ _ _ _ us hl => match us, hl with | [_], _ => rfl
theorem b7 : DBind D7 := fun _ _ _ _ _ _ us hl => match us, hl with | [_, _], _ => rfl
theorem b8 : DBind D8 := fun _ _ _ _ _ _ us hl => match us, hl with | [_, _], _ => rfl
theorem b9 : DBind D9 := fun _ _ _ _ _ _ us hl => match us, hl with | [_, _], _ => rfl
theorem b10 : DBind D10 := fun _ _ _ _ _ _ us hl => match us, hl with | [_, _], _ => rfl
theorem b11 : DBind D11 := fun _ _ _ _ _ _ us hl => match us, hl with | [_, _], _ => rfl
theorem b12 : DBind D12 := fun _ _ _ _ _ _ us hl => match us, hl with | [_, _], _ => rfl
theorem b13 : DBind D13 := fun _ _ _ _ _ _ us hl => match us, hl with | [_], _ => rfl
theorem b14 : DBind D14 := fun _ _ _ _ _ _ us hl => match us, hl with | [_], _ => rfl
theorem b15 : DBind D15 := fun _ _ _ _ _ _ us hl => match us, hl with | [_], _ => rfl
theorem b16 : DBind D16 := fun _ _ _ _ _ _ us hl => match us, hl with | [_], _ => rfl
theorem b17 : DBind D17 := fun _ _ _ _ _ _ us hl => match us, hl with | [_, _], _ => rfl
theorem b18 : DBind D18 := fun _ _ _ _ _ _ us hl => match us, hl with | [_, _], _ => rfl
theorem b19 : DBind D19 := fun _ _ _ _ _ _ us hl => match us, hl with | [_, _], _ => rfl
theorem b20 : DBind D20 := fun _ _ _ _ _ _ us hl => match us, hl with | [_, _], _ => rfl
theorem b21 : DBind D21 := fun _ _ _ _ _ _ us hl => match us, hl with | [_, _], _ => rfl
theorem b22 : DBind D22 := fun _ _ _ _ _ _ us hl => match us, hl with | [_, _], _ => rfl
theorem b23 : DBind D23 := fun _ _ _ _ _ _ us hl => match us, hl with | [_], _ => rfl
theorem b24 : DBind D24 := fun _ _ _ _ _ _ us hl => match us, hl with | [_, _], _ => rfl
theorem b25 : DBind D25 := fun _ _ _ _ _ _ us hl => match us, hl with | [_, _, _], _ => rfl
theorem b26 : DBind D26 := fun _ _ _ _ _ _ us hl => match us, hl with | [_, _], _ => rfl
theorem b27 : DBind D27 := fun _ _ _ _ _ _ us hl => match us, hl with | [_], _ => rfl
theorem b28 : DBind D28 := fun _ _ _ _ _ _ us hl => match us, hl with | [_, _], _ => rfl
theorem b29 : DBind D29 := fun _ _ _ _ _ _ us hl => match us, hl with | [_, _], _ => rfl
theorem b30 : DBind D30 := fun _ _ _ _ _ _ us hl => match us, hl with | [_, _], _ => rfl
theorem b31 : DBind D31 := fun _ _ _ _ _ _ us hl => match us, hl with | [_, _], _ => rfl
theorem b32 : DBind D32 := fun _ _ _ _ _ _ us hl => match us, hl with | [_, _], _ => rfl
theorem b33 : DBind D33 := fun _ _ _ _ _ _ us hl => match us, hl with | [_, _], _ => rfl
theorem b34 : DBind D34 := fun _ _ _ _ _ _ us hl => match us, hl with | [_], _ => rfl

theorem okAll : okFrom md 0 ds = true := by decide +kernel
abbrev N : Nat := 100000
abbrev Fn (k : Nat) : List T → Mem → Rm T := Phi cs N (k + 1) k
theorem Fn_at : ∀ {n k : Nat}, k < n → Phi cs N n k = Fn k
  | n + 1, k, h => by
    by_cases e : k = n
    · rw [e]
    · rw [Phi_lt (by omega)]
      exact Fn_at (by omega)
theorem Fn_run {k : Nat} {d : CD} (h : cs[k]? = some d) (ts : List T) (m : Mem) : Fn k ts m = runD (Phi cs N k) N d ts m := Phi_self h ts m
theorem Fn_fun {k : Nat} {d : CD} (h : cs[k]? = some d) : Fn k = runD (Phi cs N k) N d := by
  funext ts m
  exact Fn_run h ts m
end K15
end
section
set_option linter.all false
set_option maxRecDepth 10000
set_option exponentiation.threshold 10000
/-! K15m: roots, in plain Lean. -/
namespace K15
open PySem PySem.Spec PyProof.Rows L2 Ev Lb
theorem rpow_zero (q : Rat) : q ^ 0 = 1 := Rat.pow_zero q
theorem rpow_succ (q : Rat) (n : Nat) : q ^ (n + 1) = q ^ n * q := Rat.pow_succ q n
theorem rpow_mul (a b : Rat) (n : Nat) : (a * b) ^ n = a ^ n * b ^ n := by
  induction n with
  | zero => simp [rpow_zero]
  | succ n ih => rw [rpow_succ, rpow_succ, rpow_succ, ih]; grind
theorem rpow_neg_even (a : Rat) {n : Nat} (h : n % 2 = 0) : (-a) ^ n = a ^ n := by
  obtain ⟨j, rfl⟩ : ∃ j, n = 2 * j := ⟨n / 2, by omega⟩
  induction j with
  | zero => rw [Nat.mul_zero, rpow_zero, rpow_zero]
  | succ j ih =>
    have e : 2 * (j + 1) = 2 * j + 1 + 1 := by omega
    rw [e, rpow_succ, rpow_succ, rpow_succ, rpow_succ, ih (by omega)]
    grind
theorem rpow_neg_odd (a : Rat) {n : Nat} (h : n % 2 = 1) : (-a) ^ n = -a ^ n := by
  obtain ⟨j, rfl⟩ : ∃ j, n = j + 1 := ⟨n - 1, by omega⟩
  rw [rpow_succ, rpow_succ, rpow_neg_even a (by omega)]
  grind
/-- what is due as a root of a power -/
def dueOf (h : Rat) (n : Nat) : Rat := if n % 2 = 1 ∨ 0 < h.num then h else -h
theorem due_pow (h : Rat) (n : Nat) : dueOf h n ^ n = h ^ n := by
  unfold dueOf
  split
  · rfl
  · rename_i e
    exact rpow_neg_even h (by omega)
theorem num_pos {q : Rat} : 0 < q.num ↔ 0 < q := by
  have h1 := @Rat.num_nonneg q
  have h2 := @Rat.num_eq_zero q
  constructor
  · intro h
    have : 0 ≤ q := h1.mp (by omega)
    have n : q ≠ 0 := fun z => by have := h2.mpr z; omega
    grind
  · intro h
    have : 0 ≤ q.num := h1.mpr (by grind)
    have n : q.num ≠ 0 := fun z => by have := h2.mp z; grind
    omega
theorem odd_nonneg {h : Rat} {n : Nat} (ho : n % 2 = 1) (hh : 0 ≤ (h ^ n).num) : 0 ≤ h.num := by
  by_cases z : 0 ≤ h.num
  · exact z
  · exfalso
    rw [Rat.num_pow] at hh
    obtain ⟨j, rfl⟩ : ∃ j, n = 2 * j + 1 := ⟨n / 2, by omega⟩
    rw [Int.pow_succ, Int.pow_mul] at hh
    have h2 : 0 < h.num ^ 2 := by
      rw [Int.pow_succ, Int.pow_succ, Int.pow_zero, Int.one_mul]
      exact Int.mul_pos_of_neg_of_neg (by omega) (by omega)
    have h3 : 0 < (h.num ^ 2) ^ j := Int.pow_pos h2
    have := Int.mul_neg_of_pos_of_neg h3 (show h.num < 0 by omega)
    omega
theorem due_root (h : Rat) (n : Nat) (h0 : h ≠ 0) : IsRoot (h ^ n) n (dueOf h n) := by
  refine ⟨due_pow h n, fun hh => ?_⟩
  unfold dueOf
  split
  · rename_i e
    rcases e with e | e
    · exact odd_nonneg e hh
    · omega
  · rename_i e
    have : h.num ≠ 0 := num_ne h0
    show 0 ≤ -h.num
    omega
/-- a power that is a whole number is a whole number's -/
theorem whole_of_pow {y : Rat} {n : Nat} {z : Int} (hn : 0 < n) (h : y ^ n = (z : Rat)) : y.num ^ n = z := by
  have := congrArg Rat.num h
  rwa [Rat.num_pow, Rat.num_intCast] at this
theorem step_up {a n : Nat} (ha : 1 ≤ a) (hn : 2 ≤ n) : a ^ n + 2 ≤ (a + 1) ^ n := by
  obtain ⟨j, rfl⟩ : ∃ j, n = j + 2 := ⟨n - 2, by omega⟩
  induction j with
  | zero =>
    have : (a + 1) ^ 2 = a ^ 2 + 2 * a + 1 := by
      rw [Nat.pow_succ, Nat.pow_succ, Nat.pow_zero, Nat.one_mul, Nat.pow_succ, Nat.pow_succ, Nat.pow_zero, Nat.one_mul, Nat.add_mul, Nat.mul_add]
      omega
    simp only [Nat.zero_add]
    omega
  | succ j ih =>
    have ih := ih (by omega)
    have e : j + 1 + 2 = (j + 2) + 1 := by omega
    rw [e, Nat.pow_succ, Nat.pow_succ (n := a + 1)]
    have h1 : (a ^ (j + 2) + 2) * (a + 1) ≤ (a + 1) ^ (j + 2) * (a + 1) := Nat.mul_le_mul_right _ ih
    have h2 : (a ^ (j + 2) + 2) * (a + 1) = a ^ (j + 2) * a + a ^ (j + 2) + 2 * a + 2 := by
      rw [Nat.add_mul, Nat.mul_add, Nat.mul_add]; omega
    omega
theorem no_beside {a b n : Nat} (hn : 2 ≤ n) (ha : 2 ≤ a) : b ^ n ≠ a ^ n + 1 ∧ b ^ n + 1 ≠ a ^ n := by
  constructor
  · intro e
    rcases Nat.lt_or_ge a b with z | z
    · have h1 := step_up (show 1 ≤ a by omega) hn
      have h2 := Nat.pow_le_pow_left (show a + 1 ≤ b from z) n
      omega
    · have := Nat.pow_le_pow_left z n
      omega
  · intro e
    rcases Nat.lt_or_ge b a with z | z
    · obtain ⟨c, rfl⟩ : ∃ c, a = c + 1 := ⟨a - 1, by omega⟩
      have h1 := step_up (show 1 ≤ c by omega) hn
      have h2 := Nat.pow_le_pow_left (show b ≤ c by omega) n
      omega
    · have := Nat.pow_le_pow_left z n
      omega
theorem den_ne (h : Rat) : ((h.den : Nat) : Rat) ≠ 0 := fun z => by
  have := congrArg Rat.num z
  rw [Rat.num_natCast] at this
  have := h.den_pos
  simp at *
  omega
/-- one beside a power has no root -/
theorem beside_none {h : Rat} {n : Nat} (hn : 2 ≤ n) (h2 : 2 ≤ h.num.natAbs) (e : Int) (he : e = 1 ∨ e = -1) : ∀ x : Rat, x ^ n ≠ Rat.divInt ((h ^ n).num + e) ((h ^ n).den) := by
  intro x hx
  have d0 : ((h.den ^ n : Nat) : Rat) ≠ 0 := by
    intro z
    have h1 := congrArg Rat.num z
    rw [Rat.num_natCast] at h1
    have h2 := Nat.pow_pos (n := n) h.den_pos
    have h3 : (0 : Rat).num = 0 := rfl
    rw [h3] at h1
    omega
  have e1 : (x * (h.den : Rat)) ^ n = ((h.num ^ n + e : Int) : Rat) := by
    rw [rpow_mul, hx, Rat.den_pow, Rat.num_pow]
    have e2 : ((h.den : Nat) : Rat) ^ n = ((h.den ^ n : Nat) : Rat) := by
      refine Rat.ext ?_ ?_
      · rw [Rat.num_pow, Rat.num_natCast, Rat.num_natCast]; exact (Int.natCast_pow ..).symm
      · rw [Rat.den_pow, Rat.den_natCast, Rat.den_natCast, Nat.one_pow]
    rw [e2, Rat.divInt_eq_div]
    have e3 : (((h.den ^ n : Nat) : Int) : Rat) = ((h.den ^ n : Nat) : Rat) := rfl
    rw [e3]
    exact Rat.div_mul_cancel d0
  have e4 := whole_of_pow (by omega) e1
  have e5 := congrArg Int.natAbs e4
  rw [Int.natAbs_pow] at e5
  have nb := no_beside (a := h.num.natAbs) (b := (x * (h.den : Rat)).num.natAbs) hn h2
  have e6 : (h.num ^ n).natAbs = h.num.natAbs ^ n := Int.natAbs_pow ..
  have pos : 0 < h.num.natAbs ^ n := Nat.pow_pos (by omega)
  rcases he with rfl | rfl <;> omega
/-- twice a power has none -/
theorem twice_none {h : Rat} {n : Nat} (hn : 2 ≤ n) (h0 : h ≠ 0) : ∀ x : Rat, x ^ n ≠ 2 * h ^ n := by
  intro x hx
  have hp : h ^ n ≠ 0 := fun z => by
    have := congrArg Rat.num z
    rw [Rat.num_pow] at this
    have h1 : h.num ^ n ≠ 0 := Int.pow_ne_zero (num_ne h0)
    exact h1 this
  have e1 : (x / h) ^ n = ((2 : Int) : Rat) := by
    have : (x / h * h) ^ n = x ^ n := by rw [Rat.div_mul_cancel h0]
    rw [rpow_mul, hx] at this
    have e : (x / h) ^ n * h ^ n = 2 * h ^ n := this
    have : (x / h) ^ n = 2 := by
      have h1 : (x / h) ^ n * h ^ n / h ^ n = 2 * h ^ n / h ^ n := by rw [e]
      rwa [Rat.mul_div_cancel hp, Rat.mul_div_cancel hp] at h1
    exact this
  have e4 := whole_of_pow (by omega) e1
  have e5 := congrArg Int.natAbs e4
  rw [Int.natAbs_pow] at e5
  generalize (x / h).num.natAbs = b at e5
  have e6 : (2 : Int).natAbs = 2 := rfl
  rw [e6] at e5
  match b, e5 with
  | 0, e5 => rw [Nat.zero_pow (by omega)] at e5; omega
  | 1, e5 => rw [Nat.one_pow] at e5; omega
  | b + 2, e5 =>
    have h1 := Nat.pow_le_pow_left (show 2 ≤ b + 2 by omega) n
    have h2 := Nat.pow_le_pow_right (n := 2) (by decide) hn
    omega
theorem pow_pos' {a : Rat} {n : Nat} (h : 0 < a) : 0 < a ^ n := Rat.pow_pos h
theorem pow_nn {a : Rat} {n : Nat} (h : 0 ≤ a) : 0 ≤ a ^ n := Rat.pow_nonneg h
theorem pow_lt_nn {a b : Rat} {n : Nat} (hn : 0 < n) (ha : 0 ≤ a) (h : a < b) : a ^ n < b ^ n := by
  obtain ⟨j, rfl⟩ : ∃ j, n = j + 1 := ⟨n - 1, by omega⟩
  induction j with
  | zero => rw [rpow_succ, rpow_succ, rpow_zero, rpow_zero]; grind
  | succ j ih =>
    have ih := ih (by omega)
    rw [rpow_succ, rpow_succ b]
    have h1 : a ^ (j + 1) * a ≤ a ^ (j + 1) * b := Rat.mul_le_mul_of_nonneg_left (by grind) (pow_nn ha)
    have h2 : a ^ (j + 1) * b < b ^ (j + 1) * b := Rat.mul_lt_mul_of_pos_right ih (by grind)
    grind
theorem pow_mono {a b : Rat} {n : Nat} (hn : 0 < n) (hs : n % 2 = 1 ∨ (0 ≤ a ∧ 0 ≤ b)) (h : a < b) : a ^ n < b ^ n := by
  by_cases ha : 0 ≤ a
  · exact pow_lt_nn hn ha h
  · rcases hs with ho | ⟨z, _⟩
    · by_cases hb : 0 ≤ b
      · have h1 : 0 ≤ b ^ n := pow_nn hb
        have h2 : 0 < (-a) ^ n := pow_pos' (by grind)
        rw [rpow_neg_odd a ho] at h2
        grind
      · have h2 := pow_lt_nn (n := n) hn (a := -b) (b := -a) (by grind) (by grind)
        rw [rpow_neg_odd a ho, rpow_neg_odd b ho] at h2
        grind
    · exact absurd z ha
theorem sgn_pow {a b : Rat} {n : Nat} (hn : 0 < n) (hs : n % 2 = 1 ∨ (0 ≤ a ∧ 0 ≤ b)) : sgn (a ^ n) (b ^ n) = sgn a b := by
  have m1 := fun h => pow_mono (a := a) (b := b) hn hs h
  have m2 := fun h => pow_mono (a := b) (b := a) hn (by rcases hs with h | h; exact .inl h; exact .inr ⟨h.2, h.1⟩) h
  unfold sgn
  by_cases h1 : a < b
  · have := m1 h1
    have n1 : ¬ b < a := by grind
    have n2 : ¬ b ^ n < a ^ n := by grind
    simp [h1, this, n1, n2]
  · by_cases h2 : b < a
    · have := m2 h2
      have n2 : ¬ a ^ n < b ^ n := by grind
      simp [h1, h2, this, n2]
    · have e : a = b := by grind
      subst e
      simp [h1]
theorem due_nn {h : Rat} {n : Nat} (h0 : h ≠ 0) (he : n % 2 = 0) : 0 ≤ dueOf h n := by
  unfold dueOf
  split
  · rename_i e
    have : 0 < h := num_pos.mp (by omega)
    grind
  · rename_i e
    have : ¬ 0 < h := fun z => e (.inr (num_pos.mpr z))
    grind
end K15
end
section
set_option linter.all false
set_option maxRecDepth 10000
set_option exponentiation.threshold 10000
/-! K15a: the library's walks for this law. -/
namespace K15
open PySem PySem.Spec PyProof.Rows L2 Ev Lb
theorem at_ {P : (List T → Mem → Rm T) → Prop} {n k : Nat} (h : k < n) (s : P (Fn k)) : P (Phi cs N n k) := by rw [Fn_at h]; exact s
theorem s_is_long : IsLongS (Fn 0) := by
  rw [Fn_fun (d := C_is_long) rfl]
  exact is_long_ok
theorem s_length_made : LengthMadeS (Fn 1) := by
  rw [Fn_fun (d := (C_length_made 0)) rfl]
  exact length_made_ok (at_ (by decide) s_is_long)
theorem s_is_power : IsPowerS (Fn 2) := by
  rw [Fn_fun (d := C_is_power) rfl]
  exact is_power_ok
theorem s_half_told : HalfToldS (Fn 3) := by
  rw [Fn_fun (d := C_half_told) rfl]
  exact half_told_ok
theorem s_half_made : HalfMadeS (Fn 4) := by
  rw [Fn_fun (d := (C_half_made 1)) rfl]
  exact half_made_ok (at_ (by decide) s_length_made)
theorem s_half_sum : HalfSumS (Fn 5) := by
  rw [Fn_fun (d := (C_half_sum 3)) rfl]
  exact half_sum_ok (at_ (by decide) s_half_told)
theorem s_half_turned : HalfTurnedS (Fn 6) := by
  rw [Fn_fun (d := C_half_turned) rfl]
  exact half_turned_ok
theorem s_half_product : HalfProductS (Fn 7) := by
  rw [Fn_fun (d := (C_half_product 3)) rfl]
  exact half_product_ok (at_ (by decide) s_half_told)
theorem s_halves_compared : HalvesComparedS (Fn 8) := by
  rw [Fn_fun (d := C_halves_compared) rfl]
  exact halves_compared_ok
theorem s_half_divided : HalfDividedS (Fn 9) := by
  rw [Fn_fun (d := (C_half_divided 3 2)) rfl]
  exact half_divided_ok (at_ (by decide) s_half_told) (at_ (by decide) s_is_power)
theorem s_number_taken : NumberTakenS (Fn 10) := by
  rw [Fn_fun (d := C_number_taken) rfl]
  exact number_taken_ok
theorem s_whole_root : WholeRootS (Fn 11) := by
  rw [Fn_fun (d := (C_whole_root 10)) rfl]
  exact whole_root_ok (at_ (by decide) s_number_taken)
theorem s_half_root : HalfRootS (Fn 12) := by
  rw [Fn_fun (d := (C_half_root 11 10)) rfl]
  exact half_root_ok (at_ (by decide) s_whole_root) (at_ (by decide) s_number_taken)
theorem s_number_told : NumberToldS (Fn 13) := by
  rw [Fn_fun (d := (C_number_told 5)) rfl]
  exact number_told_ok (at_ (by decide) s_half_sum)
theorem s_few_terms : FewS (Fn 14) := by
  rw [Fn_fun (d := C_few_terms) rfl]
  exact few_ok
theorem s_number_made : NumberMadeS (Fn 15) := by
  rw [Fn_fun (d := (C_number_made 14 4)) rfl]
  exact number_made_ok (at_ (by decide) s_few_terms) (at_ (by decide) s_half_made)
theorem s_number_turned : NumberTurnedS (Fn 16) := by
  rw [Fn_fun (d := (C_number_turned 6)) rfl]
  exact number_turned_ok (at_ (by decide) s_half_turned)
theorem s_put_by : PutByS (Fn 17) := by
  rw [Fn_fun (d := (C_put_by 5 7 13)) rfl]
  exact put_by_ok (at_ (by decide) s_half_sum) (at_ (by decide) s_half_product) (at_ (by decide) s_number_told)
theorem s_numbers_and : NumbersAndS (Fn 18) := by
  rw [Fn_fun (d := (C_numbers_and 15 13)) rfl]
  exact numbers_and_ok (at_ (by decide) s_number_made) (at_ (by decide) s_number_told)
theorem s_numbers_less : NumbersLessS (Fn 19) := by
  rw [Fn_fun (d := (C_numbers_less 18 16)) rfl]
  exact numbers_less_ok (at_ (by decide) s_numbers_and) (at_ (by decide) s_number_turned)
theorem s_number_power : NumberPowerS (Fn 20) := by
  rw [Fn_fun (d := (C_number_power 14 17 15)) rfl]
  exact number_power_ok (at_ (by decide) s_few_terms) (at_ (by decide) s_put_by) (at_ (by decide) s_number_made)
theorem s_let_term : LetTermS (Fn 21) := by
  rw [Fn_fun (d := C_let_term) rfl]
  exact let_term_ok
theorem s_over_told : OverOneS (Fn 22) := by
  rw [Fn_fun (d := (C_over_told 5 6 9 8 15 21 13 16 17)) rfl]
  exact over_one_ok (by decide) (at_ (by decide) s_half_sum) (at_ (by decide) s_half_turned) (at_ (by decide) s_half_divided) (at_ (by decide) s_halves_compared) (at_ (by decide) s_number_made) (at_ (by decide) s_let_term) (at_ (by decide) s_number_told) (at_ (by decide) s_number_turned) (at_ (by decide) s_put_by)
theorem s_sloped : SlopedS (Fn 23) := by
  rw [Fn_fun (d := (C_sloped 13 7)) rfl]
  exact sloped_ok (at_ (by decide) s_number_told) (at_ (by decide) s_half_product)
theorem s_first_root : FirstRootS (Fn 24) := by
  rw [Fn_fun (d := (C_first_root 9 12)) rfl]
  exact first_root_ok (at_ (by decide) s_half_divided) (at_ (by decide) s_half_root)
theorem s_next_root : NextRootS (Fn 25) := by
  rw [Fn_fun (d := (C_next_root 17 23 13 16 5 6 7 9)) rfl]
  exact next_root_ok (at_ (by decide) s_put_by) (at_ (by decide) s_sloped) (at_ (by decide) s_number_told) (at_ (by decide) s_number_turned)
theorem s_root_told : RootOneS (Fn 26) := by
  rw [Fn_fun (d := (C_root_told 24 8 7 19 20 21 25 15)) rfl]
  exact root_one_ok (by decide) (at_ (by decide) s_first_root) (at_ (by decide) s_halves_compared) (at_ (by decide) s_half_product) (at_ (by decide) s_let_term) (at_ (by decide) s_next_root) (at_ (by decide) s_number_made)
theorem s_root_told2 : RootNoneS (Fn 26) := by
  rw [Fn_fun (d := (C_root_told 24 8 7 19 20 21 25 15)) rfl]
  exact root_none_ok (at_ (by decide) s_first_root)
theorem s__law_source : SourceS (Fn 27) := by
  rw [Fn_fun (d := C__law_source) rfl]
  exact source_ok
theorem s__law_pick : PickS (Fn 28) := by
  rw [Fn_fun (d := C__law_pick) rfl]
  exact pick_ok (by decide)
theorem s__law_of : OfS (Fn 29) := by
  rw [Fn_fun (d := (C__law_of 28)) rfl]
  exact of_ok (at_ (by decide) s__law_pick)
theorem s__law_taken : NumberTakenS (Fn 30) := by
  rw [Fn_fun (d := C__law_taken) rfl]
  exact law_taken_ok
end K15
end
section
set_option linter.all false
set_option maxRecDepth 10000
set_option exponentiation.threshold 10000
/-! K15b: drawn halves. -/
namespace K15
open PySem PySem.Spec PyProof.Rows L2 Ev Lb
theorem mem_ints {l : List Int} {t : T} (h : t ∈ l.map T.int) : ∃ i ∈ l, t = .int i := by
  obtain ⟨i, hi, rfl⟩ := List.mem_map.mp h
  exact ⟨i, hi, rfl⟩
/-- _law_odd -/
theorem f31 (fg : Nat) (m : Mem) (hs : Src m) (h1 : 2 ≤ fg) (h2 : fg ≤ 300) : Runs (Fn 31 [.ref 1, .int fg] m) fun r m' => (∃ n : Nat, r = .int n ∧ n % 2 = 1 ∧ 11 ≤ n ∧ n < 10 ^ fg) ∧ Src m' ∧ Nx m m' := by
  rw [Fn_run (d := c31) rfl]
  refine wpD rfl ?_
  conv => whnf
  rw [Fn_at (by decide)]
  refine ⟨(s__law_pick 9 m hs (by decide) (by decide)).imp ?_⟩
  rintro _ m1 ⟨i, rfl, i0, i1, hs1, nx1, nl1⟩
  obtain ⟨a, rfl⟩ : ∃ a : Nat, i = a := ⟨i.toNat, by omega⟩
  conv => whnf
  refine ⟨by omega, ?_⟩
  conv => whnf
  refine for_wp (fun i τ m' => (∃ (f : Nat) (x : Option T), τ = [some (.ref 1), some (.int fg), some (.int f), x] ∧ 10 ^ i ≤ f ∧ f < 10 ^ (i + 1)) ∧ Src m' ∧ Nx m m') ?_ (fun _ _ _ _ _ => rfl) ?_ ?_
  · exact ⟨⟨1 + a, none, rfl, by omega, by omega⟩, hs1, nx1⟩
  · rintro i t τ m2 hi ⟨⟨f, x, rfl, f1, f2⟩, hs2, nx2⟩
    conv => whnf
    refine ⟨mulOk_r (by decide) (by decide), ?_⟩
    conv => whnf
    rw [Fn_at (by decide)]
    refine ⟨(s__law_pick 10 m2 hs2 (by decide) (by decide)).imp ?_⟩
    rintro _ m3 ⟨j, rfl, j0, j1, hs3, nx3, nl3⟩
    obtain ⟨b, rfl⟩ : ∃ a : Nat, j = a := ⟨j.toNat, by omega⟩
    conv => whnf
    refine ⟨⟨f * 10 + b, some t, ?_, ?_, ?_⟩, hs3, nx2.trans nx3⟩
    · simp only [Int.natCast_add, Int.natCast_mul]; rfl
    · rw [Nat.pow_succ]; omega
    · rw [Nat.pow_succ]; omega
  · rintro τ m2 ⟨⟨f, x, rfl, f1, f2⟩, hs2, nx2⟩
    have el : (((List.range ((fg : Int) - 1).toNat).map fun i => T.int (Int.ofNat i), (none : Stay)).1).length = fg - 1 := by
      show (List.map _ _).length = _
      rw [List.length_map, List.length_range]; omega
    rw [el] at f1 f2
    rw [show fg - 1 + 1 = fg by omega] at f2
    have f3 : 10 ≤ f := Nat.le_trans (by have := Nat.pow_le_pow_right (n := 10) (by decide) (show 1 ≤ fg - 1 by omega); simpa using this) f1
    have ev : 2 ∣ 10 ^ fg := Nat.dvd_trans (by decide) (show 10 ^ 1 ∣ 10 ^ fg from Nat.pow_dvd_pow 10 (by omega))
    conv => whnf
    refine ⟨by decide, ?_⟩
    refine ⟨⟨f + 1 - f % 2, ?_, by omega, by omega, by omega⟩, hs2, nx2⟩
    congr 1
    omega
/-- a drawn half -/
structure HOk (h : Rat) (fg : Nat) : Prop where
  dy : IsDy h
  two : 2 ≤ h.num.natAbs
  num : h.num.natAbs < 10 ^ fg * 8
  den : h.den ≤ 2 ^ 40
theorem odd_coprime {n k : Nat} (h : n % 2 = 1) : Nat.Coprime n (2 ^ k) := by
  have h3 : Nat.gcd n 2 = 1 := by
    have h1 : Nat.gcd n 2 ∣ 2 := Nat.gcd_dvd_right ..
    have h2 : Nat.gcd n 2 ∣ n := Nat.gcd_dvd_left ..
    have h3 : Nat.gcd n 2 ≤ 2 := Nat.le_of_dvd (by decide) h1
    have h4 : Nat.gcd n 2 ≠ 0 := fun z => by rw [z] at h1; simp at h1
    have h5 : Nat.gcd n 2 ≠ 2 := fun z => by rw [z] at h2; omega
    omega
  exact Nat.Coprime.pow_right k h3
theorem half_mk {t : Int} {k : Nat} (h : t.natAbs % 2 = 1) : ∃ q : Rat, q.num = t ∧ q.den = 2 ^ k := ⟨⟨t, 2 ^ k, by have := Nat.pow_pos (n := k) (show 0 < 2 by decide); omega, odd_coprime h⟩, rfl, rfl⟩
abbrev s40 : List Int := [0, 0, 1, 3, 40]
theorem in40 {i : Int} (h : i ∈ s40) : 0 ≤ i ∧ i ≤ 40 := by
  have : ∀ i ∈ s40, 0 ≤ i ∧ i ≤ 40 := by decide
  exact this i h
/-- _law_half -/
theorem f32 (fg : Nat) (m : Mem) (hs : Src m) (h1 : 2 ≤ fg) (h2 : fg ≤ 300) : Runs (Fn 32 [.ref 1, .int fg] m) fun r m' => (∃ h : Rat, r = En.enc h ∧ HOk h fg) ∧ Src m' ∧ Nx m m' := by
  rw [Fn_run (d := c32) rfl]
  refine wpD rfl ?_
  conv => whnf
  rw [Fn_at (by decide)]
  refine ⟨(f31 fg m hs h1 h2).imp ?_⟩
  rintro _ m1 ⟨⟨n, rfl, n1, n2, n3⟩, hs1, nx1⟩
  conv => whnf
  rw [Fn_at (by decide)]
  refine ⟨(s__law_of (s40.map T.int) m1.length _ (hs1.new) hs1.len get_new (by decide) (by decide)).imp ?_⟩
  rintro r m2 ⟨hr, hs2, nx2, nl2⟩
  obtain ⟨two, ht, rfl⟩ := mem_ints hr
  obtain ⟨t0, t1⟩ := in40 ht
  obtain ⟨two, rfl⟩ : ∃ a : Nat, two = a := ⟨two.toNat, by omega⟩
  have nx12 := (nx1.trans Nx.new).trans nx2
  clear hr ht
  have rest : ∀ (t : Int) (mm : Mem), Src mm → Nx m mm → t.natAbs = n → wpSs (Phi cs N 32) N (match c32.body with
      | .cons _ (.cons _ r) => r
      | _ => .nil) [some (.ref 1), some (.int fg), some (.int t), some (.int two)] mm (dend fun r m' => (∃ h : Rat, r = En.enc h ∧ HOk h fg) ∧ Src m' ∧ Nx m m') := by
    intro t mm hs nx0 et
    conv => whnf
    rw [Fn_at (by decide)]
    refine ⟨(s__law_pick 2 mm hs (by decide) (by decide)).imp ?_⟩
    rintro _ m1 ⟨i, rfl, i0, i1, hs1, nx1, nl1⟩
    have nx1 := nx0.trans nx1
    conv => whnf
    refine ⟨fun e => ?_, fun e => ?_⟩
    · conv => whnf
      rw [Fn_at (by decide)]
      refine ⟨(s__law_taken 2 two 2 m1 (by decide) (by omega) (by omega)).imp ?_⟩
      rintro _ m1 ⟨rfl, rfl⟩
      conv => whnf
      obtain ⟨q, q1, q2⟩ := half_mk (t := t) (k := two) (by omega)
      refine ⟨⟨q, ?_, ⟨⟨two, q2⟩, by rw [q1]; omega, by rw [q1, et]; omega, by rw [q2]; exact Nat.pow_le_pow_right (by decide) (by omega)⟩⟩, hs1, nx1⟩
      rw [enc_rat, q1, q2, Int.natCast_pow]
      rfl
    · conv => whnf
      rw [Fn_at (by decide)]
      have emin : (if (3 : Int) < two then 3 else (two : Int)) = ((min two 3 : Nat) : Int) := by
        split <;> omega
      rw [emin]
      refine ⟨(s__law_taken 2 (min two 3) 2 m1 (by decide) (by omega) (by omega)).imp ?_⟩
      rintro _ m1 ⟨rfl, rfl⟩
      have p8 : (2 : Nat) ^ (min two 3) ≤ 8 := by
        have := Nat.pow_le_pow_right (n := 2) (by decide) (show min two 3 ≤ 3 by omega)
        simpa using this
      have p0 := Nat.pow_pos (n := min two 3) (show 0 < 2 by decide)
      have e2 : (2 : Int) ^ (min two 3) = ((2 ^ (min two 3) : Nat) : Int) := by rw [Int.natCast_pow]; rfl
      rw [e2]
      conv => whnf
      refine ⟨mulOk_r (by omega) (by omega), ?_⟩
      conv => whnf
      generalize 2 ^ (min two 3) = e at p8 p0
      have ab : (t * (e : Int)).natAbs = n * e := by rw [Int.natAbs_mul, et, Int.natAbs_natCast]
      refine ⟨⟨((t * (e : Int) : Int) : Rat), rfl, ⟨dy_int _, ?_, ?_, ?_⟩⟩, hs1, nx1⟩
      · rw [Rat.num_intCast, ab]
        have : n * 1 ≤ n * e := Nat.mul_le_mul_left n p0
        omega
      · rw [Rat.num_intCast, ab]
        have h1 : n * e ≤ n * 8 := Nat.mul_le_mul_left n p8
        omega
      · rw [Rat.den_intCast]; decide
  conv => whnf
  rw [Fn_at (by decide)]
  refine ⟨(s__law_pick 2 m2 hs2 (by decide) (by decide)).imp ?_⟩
  rintro _ m3 ⟨i, rfl, i0, i1, hs3, nx3, nl3⟩
  conv => whnf
  refine ⟨fun e => ?_, fun e => ?_⟩
  · conv => whnf
    exact rest n m3 hs3 (nx12.trans nx3) (by omega)
  · conv => whnf
    exact rest (0 - n) m3 hs3 (nx12.trans nx3) (by omega)
/-- _law_power -/
theorem f33 (h : Rat) (k K : Nat) (m : Mem) (h1 : h.num.natAbs < 2 ^ K) (h2 : h.den < 2 ^ K) (hk : k ≤ 100) (hK : K ≤ 5000) : Runs (Fn 33 [En.enc h, .int k] m) fun r m' => r = En.enc (h ^ k) ∧ m' = m := by
  rw [Fn_run (d := c33) rfl]
  refine wpD rfl ?_
  have hK2 : K * (k + 1) ≤ 5000 * 101 := Nat.mul_le_mul hK (by omega)
  conv => whnf
  refine ⟨_, atI_nat (j := 0) rfl, ?_⟩
  conv => whnf
  rw [Fn_at (by decide)]
  refine ⟨(s__law_taken h.num k K m h1 (by omega) (by omega)).imp ?_⟩
  rintro _ m ⟨rfl, rfl⟩
  conv => whnf
  refine ⟨_, atI_nat (j := 1) rfl, ?_⟩
  conv => whnf
  rw [Fn_at (by decide)]
  refine ⟨(s__law_taken h.den k K m (by rw [Int.natAbs_natCast]; exact h2) (by omega) (by omega)).imp ?_⟩
  rintro _ m ⟨rfl, rfl⟩
  conv => whnf
  refine ⟨?_, rfl⟩
  rw [enc_rat, Rat.num_pow, Rat.den_pow, Int.natCast_pow]
end K15
end
section
set_option linter.all false
set_option maxRecDepth 10000
set_option exponentiation.threshold 10000
/-! K15c: the law's own body, its end. -/
namespace K15
open PySem PySem.Spec PyProof.Rows L2 Ev Lb
def tl : Nat → CSs → CSs
  | 0, s => s
  | n + 1, .cons _ r => tl n r
  | _ + 1, .nil => .nil
def Good (t : T) (m : Mem) : Prop := t = .bl true
theorem idx_list {m : Mem} {n j : Nat} {l : List T} {t : T} (h : m[n]? = some (.lst l)) (hj : l[j]? = some t) : idxop (.ref n) (.int j) m = some (.ok t, m) := by
  simp only [idxop, h]
  rw [atI_nat hj]
  rfl
theorem bd_divInt {t b : Int} {a : Nat} (hb : 0 < b) (h1 : t.natAbs < 2 ^ a) (h2 : b.natAbs < 2 ^ a) : Bd a (Rat.divInt t b) := by
  constructor
  · rw [Rat.num_divInt, Int.sign_eq_one_of_pos hb, Int.one_mul, Int.natAbs_ediv_of_dvd (Int.gcd_dvd_right ..)]
    exact Nat.lt_of_le_of_lt (Nat.div_le_self ..) h1
  · rw [Rat.den_divInt, if_neg (by omega)]
    exact Nat.lt_of_le_of_lt (Nat.div_le_self ..) h2
theorem by_int (q : Rat) (n : Int) : Rat.divInt (q.num * n) q.den = q * (n : Rat) := by
  have := mul_half q (n : Rat)
  rw [Rat.num_intCast, Rat.den_intCast, Nat.mul_one] at this
  exact this
theorem int_by (q : Rat) (n : Int) : Rat.divInt (n * q.num) q.den = (n : Rat) * q := by rw [Int.mul_comm, by_int, Rat.mul_comm]
theorem sub_half (a b : Rat) : Rat.divInt (a.num * b.den - b.num * a.den) ((a.den : Int) * b.den) = a - b := by
  rw [Rat.sub_def', ← Int.natCast_mul, Rat.divInt_ofNat]
theorem k300 : (2 : Nat) ^ 990 < 10 ^ 300 := by decide +kernel
theorem short_bd {q : Rat} (h : Bd 990 q) : Short q := ⟨Nat.lt_trans h.1 k300, Nat.lt_trans h.2 k300⟩
theorem pow_mul_le {a b k : Nat} : (a * b) ^ k = a ^ k * b ^ k := Nat.mul_pow ..
theorem ten_lt {n : Nat} : 10 ^ n ≤ 2 ^ (4 * n) := by
  rw [Nat.pow_mul]
  exact Nat.pow_le_pow_left (by decide) n
theorem k1034 : 10 ^ 300 * 2 ^ 36 < 2 ^ 1040 := by decide +kernel
theorem pow_num {h : Rat} {fg k : Nat} (ok : HOk h fg) (hk : k ≤ 12) : (h ^ k).num.natAbs ≤ 10 ^ (fg * k) * 2 ^ 36 := by
  rw [Rat.num_pow, Int.natAbs_pow]
  refine Nat.le_trans (Nat.pow_le_pow_left (Nat.le_of_lt ok.num) k) ?_
  rw [Nat.mul_pow, ← Nat.pow_mul]
  refine Nat.mul_le_mul_left _ ?_
  calc 8 ^ k ≤ 8 ^ 12 := Nat.pow_le_pow_right (by decide) hk
    _ = 2 ^ 36 := by decide
theorem pow_den {h : Rat} {fg k : Nat} (ok : HOk h fg) (hk : k ≤ 12) : (h ^ k).den ≤ 2 ^ 480 := by
  rw [Rat.den_pow]
  refine Nat.le_trans (Nat.pow_le_pow_left ok.den k) ?_
  rw [← Nat.pow_mul]
  exact Nat.pow_le_pow_right (by decide) (by omega)
theorem pow_bd1 {h : Rat} {fg k : Nat} (ok : HOk h fg) (hk : k ≤ 12) (hf : fg * k ≤ 300) : Bd 1040 (h ^ k) := by
  refine ⟨Nat.lt_of_le_of_lt (Nat.le_trans (pow_num ok hk) (Nat.mul_le_mul_right _ (Nat.pow_le_pow_right (by decide) hf))) k1034, Nat.lt_of_le_of_lt (pow_den ok hk) (Nat.pow_lt_pow_right (by decide) (by decide))⟩
theorem k183 : 10 ^ 44 * 2 ^ 36 < 2 ^ 190 := by decide +kernel
theorem pow_bd2 {h : Rat} {fg k : Nat} (ok : HOk h fg) (hk : k ≤ 12) (hf : fg * k ≤ 44) : Bd 490 (h ^ k) := by
  refine ⟨Nat.lt_trans (Nat.lt_of_le_of_lt (Nat.le_trans (pow_num ok hk) (Nat.mul_le_mul_right _ (Nat.pow_le_pow_right (by decide) hf))) k183) (Nat.pow_lt_pow_right (by decide) (by decide)), Nat.lt_of_le_of_lt (pow_den ok hk) (Nat.pow_lt_pow_right (by decide) (by decide))⟩
theorem self_bd {h : Rat} {fg : Nat} (ok : HOk h fg) : Bd (4 * fg + 41) h := by
  refine ⟨Nat.lt_of_lt_of_le ok.num ?_, Nat.lt_of_le_of_lt ok.den (Nat.pow_lt_pow_right (by decide) (by omega))⟩
  rw [Nat.pow_add]
  exact Nat.mul_le_mul ten_lt (by decide)
theorem HOk.ne {h : Rat} {fg : Nat} (ok : HOk h fg) : h ≠ 0 := fun z => by
  have := ok.two
  rw [z] at this
  exact absurd this (by decide)
theorem due_bd {h : Rat} {k a : Nat} (hb : Bd a h) : Bd a (dueOf h k) := by
  unfold dueOf
  split
  · exact hb
  · exact hb.neg
theorem due_dy {h : Rat} {k : Nat} (hb : IsDy h) : IsDy (dueOf h k) := by
  unfold dueOf
  split
  · exact hb
  · exact hb
theorem due_ne {h : Rat} {k : Nat} (hb : h ≠ 0) : dueOf h k ≠ 0 := by
  unfold dueOf
  split
  · exact hb
  · intro z; apply hb; grind
theorem pow_dy {h : Rat} {k : Nat} (hd : IsDy h) : IsDy (h ^ k) := by
  obtain ⟨j, e⟩ := hd
  exact ⟨j * k, by rw [Rat.den_pow, e, Nat.pow_mul]⟩
theorem pow_ne0 {h : Rat} {k : Nat} (hd : h ≠ 0) : h ^ k ≠ 0 := fun z => by
  have := congrArg Rat.num z
  rw [Rat.num_pow] at this
  exact Int.pow_ne_zero (num_ne hd) this
def st : List Rat := [⟨1, 2, by decide, by decide⟩, ⟨-3, 1, by decide, by decide⟩, ⟨0, 1, by decide, by decide⟩, ⟨10 ^ 40 + 1, 8, by decide, by decide⟩]
theorem st_ok {s : Rat} (h : s ∈ st) : IsDy s ∧ Bd 140 s := by
  simp only [st, List.mem_cons, List.not_mem_nil, or_false] at h
  rcases h with rfl | rfl | rfl | rfl
  · exact ⟨⟨1, rfl⟩, by decide, by decide⟩
  · exact ⟨⟨0, rfl⟩, by decide, by decide⟩
  · exact ⟨⟨0, rfl⟩, by decide, by decide⟩
  · exact ⟨⟨3, rfl⟩, by decide, by decide⟩
theorem pw_one (s h : Rat) (h0 : h ≠ 0) : ∀ k : Nat, pw [(s, h)] k = [((k : Rat) * s, h ^ k)]
  | 0 => by
    show [((0 : Rat), (1 : Rat))] = _
    rw [rpow_zero]
    congr 2
    have : ((0 : Nat) : Rat) = 0 := rfl
    rw [this]; grind
  | k + 1 => by
    show nf (prod (pw [(s, h)] k) [(s, h)]) = _
    rw [pw_one s h h0 k, prod_cons, prod_nil, List.append_nil, List.map_cons, List.map_nil, nf_one, ← rpow_succ, if_neg (pow_ne0 h0)]
    congr 2
    have : ((k + 1 : Nat) : Rat) = (k : Rat) + 1 := by
      have := Rat.natCast_add k 1
      exact this
    rw [this]; grind
end K15
end
section
set_option linter.all false
set_option maxRecDepth 10000
set_option exponentiation.threshold 10000
/-! K15d: the law's own body, terms of w. -/
namespace K15
open PySem PySem.Spec PyProof.Rows L2 Ev Lb
theorem repr_tt {s : Str} {p q : Rat} (hs : T.shw (.str s) = true) (hl : T.rsz (.str s) ≤ 1000) (hp : Bd 1800 p) (hq : Bd 1800 q) (m : Mem) : biop .repr [.tup [.str s, En.enc [(p, q)]]] m = some (.ok (.rep (.tup [.str s, En.enc [(p, q)]])), m) := by
  refine repr_tup ?_
  have h1 : Pr (En.enc [(p, q)]) 10000 := Pr.enc (by decide) ((Sh.tup (f := En.enc) (l := [(p, q)]) (c := 7300) fun a ha => by
    rw [List.mem_singleton] at ha
    subst ha
    exact (Sh.pair (Sh.rat hp (by decide) (by decide)) (Sh.rat hq (by decide) (by decide))).mono (by decide)).mono (by simp))
  have h0 : Pr (.str s) 1000 := ⟨fun rf => rfl, hs, hl, by simp [toPy, PyData.depth]⟩
  exact (Prs.two h0 h1).mono (by decide)
theorem repr_one {p q : Rat} (hp : Bd 1800 p) (hq : Bd 1800 q) (m : Mem) : biop .repr [En.enc [(p, q)]] m = some (.ok (.rep (En.enc [(p, q)])), m) := by
  refine repr_enc (by decide) (S := 10000) ?_ (by decide) ⟨_, rfl⟩
  exact (Sh.tup (f := En.enc) (l := [(p, q)]) (c := 7300) fun a ha => by
    rw [List.mem_singleton] at ha
    subst ha
    exact (Sh.pair (Sh.rat hp (by decide) (by decide)) (Sh.rat hq (by decide) (by decide))).mono (by decide)).mono (by simp)
theorem div_pow {h : Rat} {k : Nat} (h0 : h ≠ 0) (hk : 1 ≤ k) : h ^ k / h = h ^ (k - 1) := by
  obtain ⟨j, rfl⟩ : ∃ j, k = j + 1 := ⟨k - 1, by omega⟩
  rw [rpow_succ, Rat.mul_div_cancel h0]
  rfl
theorem seg13 (h : Rat) (k fg : Nat) (rd : Nat) (d0 : T) (m : Mem) (s0 s3 s5 s6 s7 s8 s9 s10 s11 s12 s13 s14 s15 s17 s18 : Option T) (hk : 2 ≤ k) (hk2 : k ≤ 12) (ok : HOk h fg) (hf : fg * k ≤ 44) (hs : Src m) (hrd : 2 ≤ rd) (g : m[rd]? = some (.lst [d0, En.enc (dueOf h k)])) :
    wpSs (Phi cs N 34) N (tl 12 c34.body) [s0, some (.ref 1), some (.int k), s3, some (.ref rd), s5, s6, s7, s8, s9, s10, s11, s12, s13, s14, s15, some (En.enc h), s17, s18] m (dend Good) := by
  obtain ⟨Φ, hΦ⟩ : ∃ Φ, Φ = Phi cs N 34 := ⟨_, rfl⟩
  rw [← hΦ]
  have F : ∀ k, k < 34 → Φ k = Fn k := fun k hk => by rw [hΦ]; exact Fn_at hk
  clear hΦ
  have hfg : fg ≤ 22 := by
    have : fg * 2 ≤ fg * k := Nat.mul_le_mul_left fg hk
    omega
  have bh : Bd 130 h := (self_bd ok).mono (by omega)
  have bP := pow_bd2 ok hk2 hf
  have bd := due_bd (k := k) bh
  have h0 := ok.ne
  have P0 : h ^ k ≠ 0 := pow_ne0 h0
  conv => whnf
  rw [F 33 (by decide)]
  refine ⟨(f33 h k 130 m bh.1 bh.2 (by omega) (by decide)).imp ?_⟩
  rintro _ m ⟨rfl, rfl⟩
  conv => whnf
  refine ⟨_, _, rfl, ?_⟩
  conv => whnf
  rw [F 29 (by decide)]
  refine ⟨(s__law_of (st.map En.enc) m.length _ hs.new hs.len get_new (by simp [st]) (by simp [st])).imp ?_⟩
  rintro r m1 ⟨hr, hs1, nx1, nl1⟩
  obtain ⟨s, hst, rfl⟩ := List.mem_map.mp hr
  obtain ⟨sd, sb⟩ := st_ok hst
  clear hr hst
  have nx1' : Nx m m1 := Nx.new.trans nx1
  have g1 := nx1'.2 _ _ hrd g
  have bk : Bd 10 (k : Rat) := bd_nat (by omega)
  have bw : Bd 150 (s * k) := sb.mul bk
  conv => whnf
  refine ⟨_, atI_nat (j := 0) rfl, ?_⟩
  conv => whnf
  refine ⟨mulOk_r (by omega) (by omega), ?_⟩
  conv => whnf
  refine ⟨_, atI_nat (j := 1) rfl, ?_⟩
  conv => whnf
  rw [F 3 (by decide)]
  refine ⟨(s_half_told (s.num * k) s.den m1 (den_posI s) (by rw [Int.natAbs_natCast]; exact Nat.lt_trans sb.2 (Nat.pow_lt_pow_right (by decide) (by decide)))).imp ?_⟩
  rintro _ m1 ⟨rfl, rfl⟩
  have ew : Rat.divInt (s.num * k) s.den = s * (k : Rat) := by_int s k
  rw [ew]
  have r1 : Root1 (s * k) (h ^ k) k s (dueOf h k) := ⟨hk, by omega, ⟨⟨dy_mul sd (dy_nat k), bw.mono (by decide)⟩, bw.mono (by decide)⟩, bP.mono (by decide), ⟨sd, sb.mono (by decide)⟩, bd.mono (by decide), rfl, due_root h k h0, ⟨short_bd (sb.mono (by decide)), short_bd (bd.mono (by decide))⟩, due_ne h0⟩
  conv => whnf
  rw [F 26 (by decide)]
  refine ⟨(s_root_told (s * k) (h ^ k) k s (dueOf h k) m1 r1).imp ?_⟩
  rintro _ m2 ⟨rfl, p2⟩
  have g2 := pre_get p2 g1
  conv => whnf
  refine ⟨_, _, repr_tt (by decide) (by decide) (sb.mono (by decide)) (bd.mono (by decide)) _, ?_⟩
  conv => whnf
  refine ⟨_, idx_list g2 rfl, ?_⟩
  conv => whnf
  refine ⟨_, _, repr_tt (by decide) (by decide) (sb.mono (by decide)) (bd.mono (by decide)) _, ?_⟩
  conv => whnf
  refine ⟨_, rep_ne _ _, ?_⟩
  conv => whnf
  refine ⟨fun z => (nomatch z), fun _ => ?_⟩
  conv => whnf
  rw [F 20 (by decide)]
  have e1 : ∀ j, pw [(s, h)] j = [((j : Rat) * s, h ^ j)] := pw_one s h h0
  have bj : ∀ j : Nat, j ≤ k → Bd 150 ((j : Rat) * s) ∧ Bd 490 (h ^ j) := fun j hj => ⟨((bd_nat (k := j) (by omega)).mul sb).mono (by decide), pow_bd2 ok (by omega) (Nat.le_trans (Nat.mul_le_mul_left fg hj) hf)⟩
  have dj : ∀ j : Nat, IsDy ((j : Rat) * s) := fun j => dy_mul (dy_nat j) sd
  refine ⟨(s_number_power [(s, h)] k m2 (by omega) (fun i hi => ⟨⟨fun x hx => ?_, fun x hx => ?_, ?_⟩, ?_⟩) ⟨?_, fun x hx => ?_⟩).imp ?_⟩
  · rw [e1, List.mem_singleton] at hx
    subst hx
    exact ⟨(bj i (by omega)).1.mono (by decide), (bj i (by omega)).2.mono (by decide)⟩
  · rw [List.mem_singleton] at hx
    subst hx
    exact ⟨sb.mono (by decide), bh.mono (by decide)⟩
  · rw [e1, prod_cons, prod_nil, List.append_nil, List.map_cons, List.map_nil]
    exact tok_one (EOk.add (dj i) (bj i (by omega)).1 sd sb (by decide)) (((bj i (by omega)).2.mul bh).mono (by decide))
  · rw [e1]; simp
  · rw [e1]; simp
  · rw [e1, List.mem_singleton] at hx
    subst hx
    exact ⟨short_bd ((bj k (by omega)).1.mono (by decide)), short_bd ((bj k (by omega)).2.mono (by decide))⟩
  rintro _ m3 ⟨rfl, p3⟩
  rw [e1, Rat.mul_comm (k : Rat) s]
  conv => whnf
  refine ⟨_, _, repr_one (bw.mono (by decide)) (bP.mono (by decide)) _, ?_⟩
  conv => whnf
  refine ⟨_, _, repr_one (bw.mono (by decide)) (bP.mono (by decide)) _, ?_⟩
  conv => whnf
  refine ⟨_, rep_ne _ _, ?_⟩
  conv => whnf
  refine ⟨fun z => (nomatch z), fun _ => ?_⟩
  conv => whnf
  refine ⟨_, atI_nat (j := 0) rfl, ?_⟩
  conv => whnf
  refine ⟨_, atI_nat (j := 1) rfl, ?_⟩
  conv => whnf
  rw [F 3 (by decide)]
  have pb2 : ((h ^ k).num + 1).natAbs < 2 ^ 491 := by
    have := bP.1
    rw [Nat.pow_succ]
    omega
  have db2 : (((h ^ k).den : Int)).natAbs < 2 ^ 491 := by
    rw [Int.natAbs_natCast]
    exact Nat.lt_trans bP.2 (Nat.pow_lt_pow_right (by decide) (by decide))
  refine ⟨(s_half_told ((h ^ k).num + 1) (h ^ k).den m3 (den_posI _) (Nat.lt_trans db2 (Nat.pow_lt_pow_right (by decide) (by decide)))).imp ?_⟩
  rintro _ m3 ⟨rfl, rfl⟩
  have bl := bd_divInt (den_posI (h ^ k)) pb2 db2
  have nol := beside_none hk ok.two 1 (.inl rfl)
  generalize Rat.divInt ((h ^ k).num + 1) ((h ^ k).den) = L at bl nol
  conv => whnf
  rw [F 26 (by decide)]
  refine ⟨(s_root_told2 (s * k) L k m3 hk (by omega) (bw.mono (by decide)) (bl.mono (by decide)) nol).imp ?_⟩
  rintro _ m4 ⟨rfl, p4⟩
  conv => whnf
  refine ⟨_, _, repr_tt (by decide) (by decide) (bw.mono (by decide)) (bl.mono (by decide)) _, ?_⟩
  conv => whnf
  refine ⟨_, _, repr_tt (by decide) (by decide) (bw.mono (by decide)) (bl.mono (by decide)) _, ?_⟩
  conv => whnf
  refine ⟨_, rep_ne _ _, ?_⟩
  conv => whnf
  refine ⟨fun z => (nomatch z), fun _ => ?_⟩
  conv => whnf
  refine ⟨_, atI_nat (j := 0) rfl, ?_⟩
  conv => whnf
  refine ⟨_, atI_nat (j := 1) rfl, ?_⟩
  conv => whnf
  refine ⟨mulOk_lt bw.1 sb.den (by decide), ?_⟩
  conv => whnf
  refine ⟨_, atI_nat (j := 0) rfl, ?_⟩
  conv => whnf
  refine ⟨_, atI_nat (j := 1) rfl, ?_⟩
  conv => whnf
  refine ⟨mulOk_lt sb.1 bw.den (by decide), ?_⟩
  conv => whnf
  refine ⟨_, atI_nat (j := 1) rfl, ?_⟩
  conv => whnf
  refine ⟨_, atI_nat (j := 1) rfl, ?_⟩
  conv => whnf
  refine ⟨mulOk_lt bw.den sb.den (by decide), ?_⟩
  conv => whnf
  rw [F 3 (by decide)]
  have dl : (((s * (k : Rat)).den : Int) * s.den).natAbs < 2 ^ 9000 := by
    rw [Int.natAbs_mul]
    calc (((s * (k : Rat)).den : Int)).natAbs * ((s.den : Int)).natAbs < 2 ^ 150 * 2 ^ 140 := Nat.mul_lt_mul'' bw.den sb.den
      _ = 2 ^ 290 := by rw [← Nat.pow_add]
      _ < 2 ^ 9000 := Nat.pow_lt_pow_right (by decide) (by decide)
  refine ⟨(s_half_told _ _ m4 (Int.mul_pos (den_posI _) (den_posI _)) dl).imp ?_⟩
  rintro _ m4 ⟨rfl, rfl⟩
  rw [sub_half]
  have bws : Bd 300 (s * k - s) := by
    rw [Rat.sub_eq_add_neg]
    exact (bw.add sb.neg).mono (by decide)
  have eq := div_pow h0 (show 1 ≤ k by omega)
  have bq : Bd 490 (h ^ k / h) := by
    rw [eq]
    exact pow_bd2 ok (by omega) (Nat.le_trans (Nat.mul_le_mul_left fg (by omega)) hf)
  have dq : IsDy (h ^ k / h) := by rw [eq]; exact pow_dy ok.dy
  conv => whnf
  rw [F 9 (by decide)]
  refine ⟨(s_half_divided (h ^ k) h m4 (bP.mono (by decide)) (bh.mono (by decide)) h0).imp ?_⟩
  rintro r m4 ⟨hr, rfl⟩
  have er : r = En.enc (h ^ k / h) := by
    rcases hr with ⟨_, e⟩ | ⟨no, _⟩
    · exact e
    · exact absurd dq no
  subst er
  conv => whnf
  rw [F 22 (by decide)]
  refine ⟨(s_over_told (s * k) (h ^ k) s h m4 ⟨⟨dy_mul sd (dy_nat k), bw.mono (by decide)⟩, ⟨sd, sb.mono (by decide)⟩, bP.mono (by decide), bh.mono (by decide), P0, h0, dq, bq.mono (by decide), ⟨short_bd (bws.mono (by decide)), short_bd (bq.mono (by decide))⟩⟩).imp ?_⟩
  rintro _ m5 ⟨rfl, p5⟩
  conv => whnf
  refine ⟨_, _, repr_tt (by decide) (by decide) (bws.mono (by decide)) (bq.mono (by decide)) _, ?_⟩
  conv => whnf
  refine ⟨_, _, repr_tt (by decide) (by decide) (bws.mono (by decide)) (bq.mono (by decide)) _, ?_⟩
  conv => whnf
  refine ⟨_, rep_eq _ _, ?_⟩
  exact rfl
end K15
end
section
set_option linter.all false
set_option maxRecDepth 10000
set_option exponentiation.threshold 10000
/-! K15e: the law's own body, products. -/
namespace K15
open PySem PySem.Spec PyProof.Rows L2 Ev Lb
theorem root_of {q x : Rat} {k : Nat} {r : T} (hk : 2 ≤ k) (hx : IsRoot q k x) (h : (∃ x, IsRoot q k x ∧ r = En.enc x) ∨ ((∀ x : Rat, x ^ k ≠ q) ∧ r = .non)) : r = En.enc x := by
  rcases h with ⟨y, h1, rfl⟩ | ⟨no, _⟩
  · rw [root_unique' hk h1 hx]
  · exact absurd hx.1 (no x)
theorem none_of {q : Rat} {k : Nat} {r : T} (hx : ∀ x : Rat, x ^ k ≠ q) (h : (∃ x, IsRoot q k x ∧ r = En.enc x) ∨ ((∀ x : Rat, x ^ k ≠ q) ∧ r = .non)) : r = .non := by
  rcases h with ⟨y, h1, rfl⟩ | ⟨_, e⟩
  · exact absurd h1.1 (hx y)
  · exact e
theorem due_mul_root {a b : Rat} {k : Nat} (a0 : a ≠ 0) (b0 : b ≠ 0) : IsRoot (a ^ k * b ^ k) k (dueOf a k * dueOf b k) := by
  refine ⟨by rw [rpow_mul, due_pow, due_pow], fun hh => ?_⟩
  by_cases he : k % 2 = 0
  · exact Rat.num_nonneg.mpr (Rat.mul_nonneg (due_nn a0 he) (due_nn b0 he))
  · refine odd_nonneg (n := k) (by omega) ?_
    rw [rpow_mul, due_pow, due_pow]
    exact hh
theorem seg7 (h1 h2 : Rat) (k f1 f2 : Nat) (rd : Nat) (m : Mem) (s0 s3 s5 s6 s7 s8 s9 s10 s11 s12 s13 s14 s17 s18 : Option T) (hk : 2 ≤ k) (hk2 : k ≤ 12) (ok1 : HOk h1 f1) (ok2 : HOk h2 f2) (hf1 : f1 * k ≤ 300) (hf2 : f2 * k ≤ 44) (hs : Src m) (hrd : 2 ≤ rd) (g : m[rd]? = some (.lst [En.enc (dueOf h1 k), En.enc (dueOf h2 k)])) :
    wpSs (Phi cs N 34) N (tl 7 c34.body) [s0, some (.ref 1), some (.int k), s3, some (.ref rd), s5, s6, s7, s8, s9, s10, s11, s12, s13, s14, some (En.enc h1), some (En.enc h2), s17, s18] m (dend Good) := by
  obtain ⟨Φ, hΦ⟩ : ∃ Φ, Φ = Phi cs N 34 := ⟨_, rfl⟩
  rw [← hΦ]
  have F : ∀ k, k < 34 → Φ k = Fn k := fun k hk => by rw [hΦ]; exact Fn_at hk
  have l1 : f1 ≤ 150 := by
    have : f1 * 2 ≤ f1 * k := Nat.mul_le_mul_left f1 hk
    omega
  have l2 : f2 ≤ 22 := by
    have : f2 * 2 ≤ f2 * k := Nat.mul_le_mul_left f2 hk
    omega
  have b1 : Bd 641 h1 := (self_bd ok1).mono (by omega)
  have b2 : Bd 130 h2 := (self_bd ok2).mono (by omega)
  have bP1 := pow_bd1 ok1 hk2 hf1
  have bP2 := pow_bd2 ok2 hk2 hf2
  have bd1 := due_bd (k := k) b1
  have bd2 := due_bd (k := k) b2
  have n1 := ok1.ne
  have n2 := ok2.ne
  conv => whnf
  refine lc_map (fun h : Rat => En.enc h) (fun h => some (En.enc (h ^ k))) (l := [h1, h2]) rfl (fun a ha => ?_) ⟨by simp; decide, ?_⟩
  · conv => whnf
    refine ⟨⟨rfl, rfl⟩, fun x hx => ?_⟩
    cases hx
    conv => whnf
    rw [F 33 (by decide)]
    have ba : Bd 641 a := by
      rcases List.mem_cons.mp ha with rfl | ha
      · exact b1
      · rw [List.mem_singleton] at ha
        subst ha
        exact b2.mono (by decide)
    refine ⟨(f33 a k 641 m ba.1 ba.2 (by omega) (by decide)).imp ?_⟩
    rintro _ m ⟨rfl, rfl⟩
    exact ⟨rfl, rfl⟩
  have gp : (m ++ [MO.lst [En.enc (h1 ^ k), En.enc (h2 ^ k)]])[m.length]? = some (.lst [En.enc (h1 ^ k), En.enc (h2 ^ k)]) := get_new
  have gd : (m ++ [MO.lst [En.enc (h1 ^ k), En.enc (h2 ^ k)]])[rd]? = some (.lst [En.enc (dueOf h1 k), En.enc (dueOf h2 k)]) := pre_get (List.prefix_append ..) g
  have hs' : Src (m ++ [MO.lst [En.enc (h1 ^ k), En.enc (h2 ^ k)]]) := hs.new
  conv => whnf
  have ef : ([h1, h2].filterMap fun h => some (En.enc (h ^ k))) = [En.enc (h1 ^ k), En.enc (h2 ^ k)] := rfl
  rw [ef]
  generalize m.length = rp at *
  generalize m ++ [MO.lst [En.enc (h1 ^ k), En.enc (h2 ^ k)]] = m1 at *
  conv => whnf
  refine ⟨_, idx_list gp rfl, ?_⟩
  conv => whnf
  refine ⟨_, idx_list gp rfl, ?_⟩
  conv => whnf
  rw [F 7 (by decide)]
  refine ⟨(s_half_product (h1 ^ k) (h2 ^ k) m1 (bP1.mono (by decide)) (bP2.mono (by decide))).imp ?_⟩
  rintro _ m1 ⟨rfl, rfl⟩
  have bB : Bd 1530 (h1 ^ k * h2 ^ k) := bP1.mul bP2
  conv => whnf
  rw [F 12 (by decide)]
  refine ⟨(s_half_root (h1 ^ k * h2 ^ k) k m1 hk (by omega) (bB.mono (by decide))).imp ?_⟩
  rintro r m1 ⟨hr, rfl⟩
  have er := root_of hk (due_mul_root n1 n2) hr
  subst er
  have bdd : Bd 771 (dueOf h1 k * dueOf h2 k) := bd1.mul bd2
  conv => whnf
  refine ⟨_, _, repr_rat bdd (by decide) (by decide) _, ?_⟩
  conv => whnf
  refine ⟨_, idx_list gd rfl, ?_⟩
  conv => whnf
  refine ⟨_, idx_list gd rfl, ?_⟩
  conv => whnf
  rw [F 7 (by decide)]
  refine ⟨(s_half_product _ _ m1 (bd1.mono (by decide)) (bd2.mono (by decide))).imp ?_⟩
  rintro _ m1 ⟨rfl, rfl⟩
  conv => whnf
  refine ⟨_, _, repr_rat bdd (by decide) (by decide) _, ?_⟩
  conv => whnf
  refine ⟨_, rep_ne _ _, ?_⟩
  conv => whnf
  refine ⟨fun z => (nomatch z), fun _ => ?_⟩
  conv => whnf
  refine ⟨_, idx_list gd rfl, ?_⟩
  conv => whnf
  refine ⟨_, idx_list gd rfl, ?_⟩
  conv => whnf
  rw [F 8 (by decide)]
  refine ⟨(s_halves_compared _ _ m1 (bd1.mono (by decide)) (bd2.mono (by decide))).imp ?_⟩
  rintro _ m1 ⟨rfl, rfl⟩
  conv => whnf
  refine ⟨_, idx_list gp rfl, ?_⟩
  conv => whnf
  refine ⟨_, idx_list gp rfl, ?_⟩
  conv => whnf
  rw [F 8 (by decide)]
  refine ⟨(s_halves_compared _ _ m1 (bP1.mono (by decide)) (bP2.mono (by decide))).imp ?_⟩
  rintro _ m1 ⟨rfl, rfl⟩
  have es : sgn (h1 ^ k) (h2 ^ k) = sgn (dueOf h1 k) (dueOf h2 k) := by
    rw [← due_pow h1, ← due_pow h2]
    refine sgn_pow (by omega) ?_
    by_cases he : k % 2 = 0
    · exact .inr ⟨due_nn n1 he, due_nn n2 he⟩
    · exact .inl (by omega)
  rw [es]
  conv => whnf
  refine ⟨fun z => ?_, fun _ => ?_⟩
  · simp at z
  conv => whnf
  refine ⟨_, idx_list gp rfl, ?_⟩
  conv => whnf
  rw [F 9 (by decide)]
  refine ⟨(s_half_divided (h1 ^ k * h2 ^ k) (h2 ^ k) m1 (bB.mono (by decide)) (bP2.mono (by decide)) (pow_ne0 n2)).imp ?_⟩
  rintro r m1 ⟨hr, rfl⟩
  have eq : h1 ^ k * h2 ^ k / h2 ^ k = h1 ^ k := Rat.mul_div_cancel (pow_ne0 n2)
  rw [eq] at hr
  have er : r = En.enc (h1 ^ k) := by
    rcases hr with ⟨_, e⟩ | ⟨no, _⟩
    · exact e
    · exact absurd (pow_dy ok1.dy) no
  subst er
  conv => whnf
  refine ⟨_, _, repr_rat bP1 (by decide) (by decide) _, ?_⟩
  conv => whnf
  refine ⟨_, idx_list gp rfl, ?_⟩
  conv => whnf
  refine ⟨_, atI_nat (j := 0) rfl, ?_⟩
  conv => whnf
  refine ⟨_, idx_list gp rfl, ?_⟩
  conv => whnf
  refine ⟨_, atI_nat (j := 1) rfl, ?_⟩
  conv => whnf
  rw [F 3 (by decide)]
  refine ⟨(s_half_told (h1 ^ k).num (h1 ^ k).den m1 (den_posI _) (by rw [Int.natAbs_natCast]; exact Nat.lt_trans bP1.2 (Nat.pow_lt_pow_right (by decide) (by decide)))).imp ?_⟩
  rintro _ m1 ⟨rfl, rfl⟩
  rw [Rat.num_divInt_den]
  conv => whnf
  refine ⟨_, _, repr_rat bP1 (by decide) (by decide) _, ?_⟩
  conv => whnf
  refine ⟨_, rep_ne _ _, ?_⟩
  conv => whnf
  refine ⟨fun z => (nomatch z), fun _ => ?_⟩
  rw [hΦ]
  exact seg13 h2 k f2 rd (En.enc (dueOf h1 k)) m1 _ _ _ _ _ _ _ _ _ _ _ _ _ _ _ hk hk2 ok2 hf2 hs' hrd gd
end K15
end
section
set_option linter.all false
set_option maxRecDepth 10000
set_option exponentiation.threshold 10000
/-! K15f: the law's own body, a half and its root. -/
namespace K15
open PySem PySem.Spec PyProof.Rows L2 Ev Lb
def lb : CSs := match tl 6 c34.body with
  | .cons (.for_ _ _ b) _ => b
  | _ => .nil
theorem neg_root {q x : Rat} {k : Nat} (ho : k % 2 = 1) (h : IsRoot q k x) : IsRoot (-q) k (-x) := by
  refine ⟨by rw [rpow_neg_odd x ho, h.1], fun hh => ?_⟩
  refine odd_nonneg (n := k) ho ?_
  rw [rpow_neg_odd x ho, h.1]
  exact hh
theorem neg_none {h : Rat} {k : Nat} (he : k % 2 = 0) (h0 : h ≠ 0) : ∀ x : Rat, x ^ k ≠ -(h ^ k) := by
  intro x e
  have h1 := even_pow_nonneg (x := x) he
  have h2 := even_pow_nonneg (x := h) he
  have h3 := num_ne (pow_ne0 (k := k) h0)
  rw [e, Rat.neg_num] at h1
  omega
theorem two_root {h : Rat} {k : Nat} (h0 : h ≠ 0) : IsRoot (h ^ k * ((2 ^ k : Int) : Rat)) k (2 * dueOf h k) := by
  have e : ((2 ^ k : Int) : Rat) = (2 : Rat) ^ k := by
    refine Rat.ext ?_ ?_
    · rw [Rat.num_pow, Rat.num_intCast]; rfl
    · rw [Rat.den_pow, Rat.den_intCast]; exact (Nat.one_pow k).symm
  refine ⟨by rw [rpow_mul, due_pow, e]; grind, fun hh => ?_⟩
  by_cases he : k % 2 = 0
  · exact Rat.num_nonneg.mpr (Rat.mul_nonneg (by decide) (due_nn h0 he))
  · refine odd_nonneg (n := k) (by omega) ?_
    rw [rpow_mul, due_pow]
    rw [e] at hh
    rw [Rat.mul_comm]
    exact hh
theorem turn (h : Rat) (k fg rd : Nat) (l : List T) (m : Mem) (s0 s1 s3 s6 s7 s8 s9 s10 s11 s12 s13 s14 s15 s16 s17 s18 : Option T) (hk : 2 ≤ k) (hk2 : k ≤ 12) (ok : HOk h fg) (hf : fg * k ≤ 300) (g : m[rd]? = some (.lst l)) (hl : l.length ≤ 100) (P : SO → Mem → Prop)
    (hP : ∀ x8 x10 x12 x14 x17 x18, P (.nx [s0, s1, some (.int k), s3, some (.ref rd), some (En.enc h), s6, s7, x8, s9, x10, s11, x12, s13, x14, s15, s16, x17, x18]) (m.set rd (.lst (l ++ [En.enc (dueOf h k)])))) :
    wpSs (Phi cs N 34) N lb [s0, s1, some (.int k), s3, some (.ref rd), some (En.enc h), s6, s7, s8, s9, s10, s11, s12, s13, s14, s15, s16, s17, s18] m P := by
  obtain ⟨Φ, hΦ⟩ : ∃ Φ, Φ = Phi cs N 34 := ⟨_, rfl⟩
  rw [← hΦ]
  have F : ∀ k, k < 34 → Φ k = Fn k := fun k hk => by rw [hΦ]; exact Fn_at hk
  clear hΦ
  have lfg : fg ≤ 150 := by
    have : fg * 2 ≤ fg * k := Nat.mul_le_mul_left fg hk
    omega
  have bh : Bd 641 h := (self_bd ok).mono (by omega)
  have bP := pow_bd1 ok hk2 hf
  have bd := due_bd (k := k) bh
  have h0 := ok.ne
  have dP := due_root h k h0
  have dP9 : ((h ^ k).den : Int).natAbs < 2 ^ 9000 := by rw [Int.natAbs_natCast]; exact Nat.lt_trans bP.2 (Nat.pow_lt_pow_right (by decide) (by decide))
  have key : ∀ d : Rat, d = dueOf h k → wpSs Φ N (match lb with
      | .cons _ (.cons _ r) => r
      | _ => .nil) [s0, s1, some (.int k), s3, some (.ref rd), some (En.enc h), s6, s7, some (En.enc (h ^ k)), s9, s10, s11, s12, s13, some (En.enc d), s15, s16, s17, s18] m P := by
    intro d ed
    subst ed
    conv => whnf
    refine ⟨mty_append g, ?_⟩
    conv => whnf
    refine ⟨_, _, append_one g (by omega), ?_⟩
    generalize m.set rd (.lst (l ++ [En.enc (dueOf h k)])) = m at *
    conv => whnf
    rw [F 12 (by decide)]
    refine ⟨(s_half_root (h ^ k) k m hk (by omega) (bP.mono (by decide))).imp ?_⟩
    rintro r m ⟨hr, rfl⟩
    have er := root_of hk dP hr
    subst er
    conv => whnf
    refine ⟨_, _, repr_rat bd (by decide) (by decide) _, ?_⟩
    conv => whnf
    refine ⟨_, _, repr_rat bd (by decide) (by decide) _, ?_⟩
    conv => whnf
    refine ⟨_, rep_ne _ _, ?_⟩
    conv => whnf
    refine ⟨fun z => (nomatch z), fun _ => ?_⟩
    conv => whnf
    refine for_wp (fun i τ m' => m' = m ∧ ∃ x12 x17, τ = [s0, s1, some (.int k), s3, some (.ref rd), some (En.enc h), s6, s7, some (En.enc (h ^ k)), s9, s10, s11, x12, s13, some (En.enc (dueOf h k)), s15, s16, x17, s18]) ⟨rfl, _, _, rfl⟩ (fun _ _ _ _ _ => rfl) ?_ ?_
    · rintro i t τ m' hi ⟨rfl, x12, x17, rfl⟩
      have ht : ∃ e : Int, t = .int e ∧ (e = 1 ∨ e = -1) := by
        match i, hi with
        | 0, hi => cases hi; exact ⟨1, rfl, .inl rfl⟩
        | 1, hi => cases hi; exact ⟨-1, rfl, .inr rfl⟩
        | n + 2, hi => simp at hi
      obtain ⟨e, rfl, he⟩ := ht
      have pb : ((h ^ k).num + e).natAbs < 2 ^ 1041 := by
        have := bP.1
        rw [Nat.pow_succ]
        rcases he with rfl | rfl <;> omega
      have db : (((h ^ k).den : Int)).natAbs < 2 ^ 1041 := by
        rw [Int.natAbs_natCast]
        exact Nat.lt_trans bP.2 (Nat.pow_lt_pow_right (by decide) (by decide))
      conv => whnf
      refine ⟨_, atI_nat (j := 0) rfl, ?_⟩
      conv => whnf
      refine ⟨_, atI_nat (j := 1) rfl, ?_⟩
      conv => whnf
      rw [F 3 (by decide)]
      refine ⟨(s_half_told ((h ^ k).num + e) (h ^ k).den m' (den_posI _) dP9).imp ?_⟩
      rintro _ m' ⟨rfl, rfl⟩
      have bl := bd_divInt (den_posI (h ^ k)) pb db
      have nol := beside_none hk ok.two e he
      conv => whnf
      rw [F 12 (by decide)]
      refine ⟨(s_half_root _ k m' hk (by omega) (bl.mono (by decide))).imp ?_⟩
      rintro r m' ⟨hr, rfl⟩
      have er := none_of nol hr
      subst er
      conv => whnf
      refine ⟨fun z => (nomatch z), fun _ => ?_⟩
      conv => whnf
      exact ⟨rfl, _, _, rfl⟩
    · rintro τ m' ⟨rfl, x12, x17, rfl⟩
      have rest : ∀ x18, wpSs Φ N (match lb with
          | .cons _ (.cons _ (.cons _ (.cons _ (.cons _ (.cons _ (.cons _ r)))))) => r
          | _ => .nil) [s0, s1, some (.int k), s3, some (.ref rd), some (En.enc h), s6, s7, some (En.enc (h ^ k)), s9, s10, s11, x12, s13, some (En.enc (dueOf h k)), s15, s16, x17, x18] m' P := by
        intro x18
        conv => whnf
        refine ⟨_, atI_nat (j := 0) rfl, ?_⟩
        conv => whnf
        refine ⟨mulOk_l (by decide) (by decide), ?_⟩
        conv => whnf
        refine ⟨_, atI_nat (j := 1) rfl, ?_⟩
        conv => whnf
        rw [F 3 (by decide)]
        refine ⟨(s_half_told (2 * (h ^ k).num) (h ^ k).den m' (den_posI _) dP9).imp ?_⟩
        rintro _ m' ⟨rfl, rfl⟩
        rw [int_by]
        have b2 : Bd 10 ((2 : Int) : Rat) := ⟨by decide, by decide⟩
        conv => whnf
        rw [F 12 (by decide)]
        refine ⟨(s_half_root _ k m' hk (by omega) ((b2.mul bP).mono (by decide))).imp ?_⟩
        rintro r m' ⟨hr, rfl⟩
        have er := none_of (twice_none hk h0) hr
        subst er
        conv => whnf
        refine ⟨fun z => (nomatch z), fun _ => ?_⟩
        conv => whnf
        refine ⟨_, atI_nat (j := 0) rfl, ?_⟩
        conv => whnf
        rw [F 30 (by decide)]
        refine ⟨(s__law_taken 2 k 2 m' (by decide) (by omega) (by omega)).imp ?_⟩
        rintro _ m' ⟨rfl, rfl⟩
        have p2 : ((2 : Int) ^ k).natAbs < 2 ^ 13 := by
          rw [Int.natAbs_pow]
          exact Nat.pow_lt_pow_right (by decide) (by omega)
        conv => whnf
        refine ⟨mulOk_lt bP.1 p2 (by decide), ?_⟩
        conv => whnf
        refine ⟨_, atI_nat (j := 1) rfl, ?_⟩
        conv => whnf
        rw [F 3 (by decide)]
        refine ⟨(s_half_told ((h ^ k).num * 2 ^ k) (h ^ k).den m' (den_posI _) dP9).imp ?_⟩
        rintro _ m' ⟨rfl, rfl⟩
        rw [by_int]
        have b2k : Bd 13 ((2 ^ k : Int) : Rat) := ⟨p2, by rw [Rat.den_intCast]; decide⟩
        conv => whnf
        rw [F 12 (by decide)]
        refine ⟨(s_half_root _ k m' hk (by omega) ((bP.mul b2k).mono (by decide))).imp ?_⟩
        rintro r m' ⟨hr, rfl⟩
        have er := root_of hk (two_root h0) hr
        subst er
        conv => whnf
        refine ⟨_, _, repr_rat (k := 700) ((b2.mul bd).mono (by decide)) (by decide) (by decide) _, ?_⟩
        conv => whnf
        refine ⟨_, atI_nat (j := 0) rfl, ?_⟩
        conv => whnf
        refine ⟨mulOk_l (by decide) (by decide), ?_⟩
        conv => whnf
        refine ⟨_, atI_nat (j := 1) rfl, ?_⟩
        conv => whnf
        rw [F 3 (by decide)]
        refine ⟨(s_half_told (2 * (dueOf h k).num) (dueOf h k).den m' (den_posI _) (by rw [Int.natAbs_natCast]; exact Nat.lt_trans bd.2 (Nat.pow_lt_pow_right (by decide) (by decide)))).imp ?_⟩
        rintro _ m' ⟨rfl, rfl⟩
        rw [int_by]
        conv => whnf
        refine ⟨_, _, repr_rat (q := 2 * dueOf h k) (k := 700) ((b2.mul bd).mono (by decide)) (by decide) (by decide) _, ?_⟩
        conv => whnf
        refine ⟨_, rep_ne _ _, ?_⟩
        conv => whnf
        refine ⟨fun z => (nomatch z), fun _ => ?_⟩
        conv => whnf
        exact hP _ _ _ _ _ _
      conv => whnf
      refine ⟨by decide, ?_⟩
      conv => whnf
      refine ⟨fun z => ?_, fun z => ?_⟩
      · have z : (k : Int) % 2 = 1 := of_decide_eq_true z
        conv => whnf
        refine ⟨_, atI_nat (j := 0) rfl, ?_⟩
        conv => whnf
        refine ⟨_, atI_nat (j := 1) rfl, ?_⟩
        conv => whnf
        rw [Int.zero_sub]
        conv => whnf
        rw [F 6 (by decide)]
        refine ⟨(s_half_turned (h ^ k) m').imp ?_⟩
        rintro _ m' ⟨rfl, rfl⟩
        conv => whnf
        rw [F 12 (by decide)]
        refine ⟨(s_half_root (-(h ^ k)) k m' hk (by omega) (bP.neg.mono (by decide))).imp ?_⟩
        rintro r m' ⟨hr, rfl⟩
        have er := root_of hk (neg_root (by omega) dP) hr
        subst er
        conv => whnf
        refine ⟨_, _, repr_rat bd.neg (by decide) (by decide) _, ?_⟩
        conv => whnf
        refine ⟨_, _, repr_rat (q := -dueOf h k) bd.neg (by decide) (by decide) _, ?_⟩
        conv => whnf
        refine ⟨_, rep_ne _ _, ?_⟩
        conv => whnf
        refine ⟨fun z => (nomatch z), fun _ => ?_⟩
        exact rest _
      · have z : ¬ (k : Int) % 2 = 1 := of_decide_eq_false z
        conv => whnf
        rw [F 6 (by decide)]
        refine ⟨(s_half_turned (h ^ k) m').imp ?_⟩
        rintro _ m' ⟨rfl, rfl⟩
        conv => whnf
        rw [F 12 (by decide)]
        refine ⟨(s_half_root (-(h ^ k)) k m' hk (by omega) (bP.neg.mono (by decide))).imp ?_⟩
        rintro r m' ⟨hr, rfl⟩
        have er := none_of (neg_none (by omega) h0) hr
        subst er
        conv => whnf
        refine ⟨_, _, repr_non _, ?_⟩
        conv => whnf
        refine ⟨_, _, repr_non _, ?_⟩
        conv => whnf
        refine ⟨_, rep_ne _ _, ?_⟩
        conv => whnf
        refine ⟨fun z => (nomatch z), fun _ => ?_⟩
        exact rest _
  conv => whnf
  rw [F 33 (by decide)]
  refine ⟨(f33 h k 641 m bh.1 bh.2 (by omega) (by decide)).imp ?_⟩
  rintro _ m ⟨rfl, rfl⟩
  conv => whnf
  refine ⟨by decide, ?_⟩
  conv => whnf
  refine ⟨fun z => ?_, fun z => ?_⟩
  · have z : (k : Int) % 2 = 1 := of_decide_eq_true z
    conv => whnf
    refine ⟨fun _ => ?_, fun y => (nomatch y)⟩
    conv => whnf
    exact key h (by unfold dueOf; rw [if_pos (.inl (by omega))])
  · have z : ¬ (k : Int) % 2 = 1 := of_decide_eq_false z
    conv => whnf
    refine ⟨_, atI_nat (j := 0) rfl, ?_⟩
    conv => whnf
    refine ⟨fun y => ?_, fun y => ?_⟩
    · have y := of_decide_eq_true y
      conv => whnf
      exact key h (by unfold dueOf; rw [if_pos (.inr y)])
    · have y := of_decide_eq_false y
      conv => whnf
      refine ⟨_, atI_nat (j := 0) rfl, ?_⟩
      conv => whnf
      refine ⟨_, atI_nat (j := 1) rfl, ?_⟩
      conv => whnf
      rw [Int.zero_sub]
      conv => whnf
      exact key (-h) (by unfold dueOf; rw [if_neg (fun w => by rcases w with w | w; omega; exact y w)])
end K15
end
section
set_option linter.all false
set_option maxRecDepth 10000
set_option exponentiation.threshold 10000
/-! K15law: the law's own body, whole. -/
namespace K15
open PySem PySem.Spec PyProof.Rows L2 Ev Lb
abbrev sk : List Int := [2, 2, 3, 3, 4, 5, 7, 11, 12]
abbrev sf : List Int := [3, 16, 17, 20, 40, 300]
abbrev s12 : List Int := [1, 2]
theorem in_sk {i : Int} (h : i ∈ sk) : ∃ k : Nat, i = k ∧ (k = 2 ∨ k = 3 ∨ k = 4 ∨ k = 5 ∨ k = 7 ∨ k = 11 ∨ k = 12) := by
  simp only [sk, List.mem_cons, List.not_mem_nil, or_false] at h
  exact ⟨i.toNat, by omega, by omega⟩
theorem in_sf {i : Int} (h : i ∈ sf) : 3 ≤ i ∧ i ≤ 300 := by
  have : ∀ i ∈ sf, 3 ≤ i ∧ i ≤ 300 := by decide
  exact this i h
theorem in_s12 {i : Int} (h : i ∈ s12) : 1 ≤ i ∧ i ≤ 2 := by
  have : ∀ i ∈ s12, 1 ≤ i ∧ i ≤ 2 := by decide
  exact this i h
theorem fig_ok {k : Nat} (hk : k = 2 ∨ k = 3 ∨ k = 4 ∨ k = 5 ∨ k = 7 ∨ k = 11 ∨ k = 12) (f : Int) (hf : 1 ≤ f ∧ f ≤ 300) : ∃ fg : Nat, (if (if (300 : Int) / k < f then (300 : Int) / k else f) > 2 then (if (300 : Int) / k < f then (300 : Int) / k else f) else 2) = fg ∧ 2 ≤ fg ∧ fg ≤ 300 ∧ fg * k ≤ 300 := by
  refine ⟨(if (if (300 : Int) / k < f then (300 : Int) / k else f) > 2 then (if (300 : Int) / k < f then (300 : Int) / k else f) else 2).toNat, ?_⟩
  rcases hk with rfl | rfl | rfl | rfl | rfl | rfl | rfl <;> omega
theorem fig2_ok {k j : Nat} (hk : k = 2 ∨ k = 3 ∨ k = 4 ∨ k = 5 ∨ k = 7 ∨ k = 11 ∨ k = 12) (h : (j : Int) < (20 : Int) / k + 1) : 2 ≤ 2 + j ∧ 2 + j ≤ 300 ∧ (2 + j) * k ≤ 44 := by
  rcases hk with rfl | rfl | rfl | rfl | rfl | rfl | rfl <;> omega
theorem seg4 (k fg : Nat) (m : Mem) (s0 s4 s5 s6 s7 s8 s9 s10 s11 s12 s13 s14 s15 s16 s17 s18 : Option T) (hs : Src m) (hk : k = 2 ∨ k = 3 ∨ k = 4 ∨ k = 5 ∨ k = 7 ∨ k = 11 ∨ k = 12) (h1 : 2 ≤ fg) (h2 : fg ≤ 300) (h3 : fg * k ≤ 300) :
    wpSs (Phi cs N 34) N (tl 4 c34.body) [s0, some (.ref 1), some (.int k), some (.int fg), s4, s5, s6, s7, s8, s9, s10, s11, s12, s13, s14, s15, s16, s17, s18] m (dend Good) := by
  obtain ⟨Φ, hΦ⟩ : ∃ Φ, Φ = Phi cs N 34 := ⟨_, rfl⟩
  rw [← hΦ]
  have F : ∀ k, k < 34 → Φ k = Fn k := fun k hk => by rw [hΦ]; exact Fn_at hk
  have k2 : 2 ≤ k ∧ k ≤ 12 := by omega
  conv => whnf
  rw [F 32 (by decide)]
  refine ⟨(f32 fg m hs h1 h2).imp ?_⟩
  rintro _ m1 ⟨⟨x1, rfl, ok1⟩, hs1, nx1⟩
  conv => whnf
  refine ⟨divOk_small (by omega) (by omega), ?_⟩
  conv => whnf
  rw [F 28 (by decide)]
  have hb : (20 : Int) / k ≤ 10 ∧ 0 ≤ (20 : Int) / k := by rcases hk with rfl | rfl | rfl | rfl | rfl | rfl | rfl <;> omega
  refine ⟨(s__law_pick _ m1 hs1 (by omega) (by omega)).imp ?_⟩
  rintro _ m2 ⟨j, rfl, j0, j1, hs2, nx2, nl2⟩
  obtain ⟨j, rfl⟩ : ∃ a : Nat, j = a := ⟨j.toNat, by omega⟩
  obtain ⟨q1, q2, q3⟩ := fig2_ok hk j1
  have ej : (2 : Int) + j = ((2 + j : Nat) : Int) := by omega
  conv => whnf
  rw [ej, F 32 (by decide)]
  refine ⟨(f32 (2 + j) m2 hs2 q1 q2).imp ?_⟩
  rintro _ m3 ⟨⟨x2, rfl, ok2⟩, hs3, nx3⟩
  conv => whnf
  have hl3 := hs3.len
  refine for_wp (fun i τ m' => i ≤ 2 ∧ m' = m3 ++ [.lst ((([x1, x2].take i).map fun h => En.enc (dueOf h k)))] ∧ ∃ x5 x8 x10 x12 x14 x17 x18, τ = [s0, some (.ref 1), some (.int k), some (.int fg), some (.ref m3.length), x5, s6, s7, x8, s9, x10, s11, x12, s13, x14, some (En.enc x1), some (En.enc x2), x17, x18]) ⟨by decide, rfl, _, _, _, _, _, _, _, rfl⟩ (fun _ _ _ _ _ => rfl) ?_ ?_
  · rintro i t τ m' hi ⟨hi2, rfl, x5, x8, x10, x12, x14, x17, x18, rfl⟩
    obtain ⟨h, f, ht, okh, hfk, ei⟩ : ∃ (h : Rat) (f : Nat), t = En.enc h ∧ HOk h f ∧ f * k ≤ 300 ∧ [x1, x2][i]? = some h := by
      match i, hi with
      | 0, hi => cases hi; exact ⟨x1, fg, rfl, ok1, h3, rfl⟩
      | 1, hi => cases hi; exact ⟨x2, 2 + j, rfl, ok2, by omega, rfl⟩
      | n + 2, hi => simp at hi
    subst ht
    have hlt := (List.getElem?_eq_some_iff.mp ei).1
    rw [hΦ]
    show wpT (some _) _
    refine turn h k f m3.length _ _ _ _ _ _ _ _ _ _ _ _ _ _ _ _ _ _ k2.1 k2.2 okh hfk get_new (by rw [List.length_map, List.length_take]; omega) _ ?_
    intro y8 y10 y12 y14 y17 y18
    refine ⟨hlt, ?_, _, _, _, _, _, _, _, rfl⟩
    rw [set_new, take_succ ei, List.map_append]
    rfl
  · rintro τ m' ⟨_, rfl, x5, x8, x10, x12, x14, x17, x18, rfl⟩
    rw [hΦ]
    exact seg7 x1 x2 k fg (2 + j) m3.length _ _ _ _ _ _ _ _ _ _ _ _ _ _ _ k2.1 k2.2 ok1 ok2 h3 q3 hs3.new hl3 get_new
theorem seg0 (ns : List Int) (h : ns.length ≤ 63) : Runs (Fn 34 [.ro (ns.map T.int)] []) Good := by
  rw [Fn_run (d := c34) rfl]
  refine wpD rfl ?_
  obtain ⟨Φ, hΦ⟩ : ∃ Φ, Φ = Phi cs N 34 := ⟨_, rfl⟩
  rw [← hΦ]
  have F : ∀ k, k < 34 → Φ k = Fn k := fun k hk => by rw [hΦ]; exact Fn_at hk
  conv => whnf
  rw [F 27 (by decide)]
  refine ⟨(s__law_source ns h).imp ?_⟩
  rintro _ m1 ⟨rfl, hs1⟩
  conv => whnf
  rw [F 29 (by decide)]
  refine ⟨(s__law_of (sk.map T.int) m1.length _ hs1.new hs1.len get_new (by decide) (by decide)).imp ?_⟩
  rintro r m2 ⟨hr, hs2, nx2, nl2⟩
  obtain ⟨i, hi, rfl⟩ := mem_ints hr
  obtain ⟨k, rfl, hk⟩ := in_sk hi
  conv => whnf
  rw [F 29 (by decide)]
  refine ⟨(s__law_of (sf.map T.int) m2.length _ hs2.new hs2.len get_new (by decide) (by decide)).imp ?_⟩
  rintro r m3 ⟨hr3, hs3, nx3, nl3⟩
  obtain ⟨f, hf, rfl⟩ := mem_ints hr3
  have hf := in_sf hf
  conv => whnf
  rw [F 29 (by decide)]
  refine ⟨(s__law_of (s12.map T.int) m3.length _ hs3.new hs3.len get_new (by decide) (by decide)).imp ?_⟩
  rintro r m4 ⟨hr4, hs4, nx4, nl4⟩
  obtain ⟨b, hb, rfl⟩ := mem_ints hr4
  have hb := in_s12 hb
  conv => whnf
  refine ⟨divOk_small (by omega) (by omega), ?_⟩
  have hfb : 1 ≤ f / b ∧ f / b ≤ 300 := by
    have : b = 1 ∨ b = 2 := by omega
    rcases this with rfl | rfl <;> omega
  conv => whnf
  refine ⟨divOk_small (by omega) (by omega), ?_⟩
  conv => whnf
  obtain ⟨fg, e, g1, g2, g3⟩ := fig_ok hk (f / b) hfb
  rw [e, hΦ]
  exact seg4 k fg m4 _ _ _ _ _ _ _ _ _ _ _ _ _ _ _ _ hs4 hk g1 g2 g3
theorem law (ns : List Int) (h : ns.length ≤ 63) (_ : ∀ z ∈ ns, Builtin.Int.intBits z ≤ 1048576) : ∃ Nf m', Phi (ds.map (·.c)) Nf ds.length 34 [.ro (ns.map T.int)] [] = some (.ok (.bl true), m') := by
  obtain ⟨t, m', e, g⟩ := seg0 ns h
  cases g
  exact ⟨N, m', e⟩
end K15
end
section
set_option linter.all false
set_option maxRecDepth 100000
namespace K15
open PySem PySem.Spec PyProof.Rows L2 Ev
def loose0 : List Str := ["__name__", "BornError", "TooGreat", "Refused", "LONG_NUMBER", "MOST_FIGURES", "SURE_BITS", "is_long", "length_made", "NOUGHT", "is_power", "half_told", "half_made", "half_sum", "half_turned", "half_product", "halves_compared", "half_divided", "number_taken", "whole_root", "half_root", "MANY_TERMS", "MOST_TERMS", "ONE"]
def loose1 : List Str := ["number_told", "few_terms", "number_made", "number_turned", "put_by", "numbers_and", "numbers_less", "number_power", "NUMBER", "REST", "let_term", "over_told", "sloped", "first_root", "next_root", "root_told", "_law_source", "_law_pick", "_law_of", "_law_taken", "_law_odd", "_law_half", "_law_power"]
abbrev loose : List Str := loose0 ++ loose1
abbrev R : PySem.W.OpenRow := PySem.W.OpenLaw.row PySem.Challenge.rw_bornbetween_k15_whole_far_roots_of_halve
abbrev fn : List He.DefD := ds.map (·.d)
abbrev hk : PySem.W.Hook := hookE 4 md fn
def ob (s : PySem.W.SharedT) : He.AlD := obsEG 4 md fn (HandSHeadRun.getT s)
theorem ob_eq (s : PySem.W.SharedT) : ob s = hk.obs s.abs := obsEG_eq (HandSHeadRun.getT_eq s)
theorem run (w : World) : HandSHeadRun.RunEqI R (PySem.W.view R.prog [0, 53]) hk ob 2000 loose w := by
  unfold HandSHeadRun.RunEqI
  kernel_rfl
theorem binds : ∀ D ∈ ds, DBind D := by
  intro D hD
  simp only [ds, List.mem_cons, List.not_mem_nil, or_false] at hD
  rcases hD with rfl | rfl | rfl | rfl | rfl | rfl | rfl | rfl | rfl | rfl | rfl | rfl | rfl | rfl | rfl | rfl | rfl | rfl | rfl | rfl | rfl | rfl | rfl | rfl | rfl | rfl | rfl | rfl | rfl | rfl | rfl | rfl | rfl | rfl | rfl
  · exact b0
  · exact b1
  · exact b2
  · exact b3
  · exact b4
  · exact b5
  · exact b6
  · exact b7
  · exact b8
  · exact b9
  · exact b10
  · exact b11
  · exact b12
  · exact b13
  · exact b14
  · exact b15
  · exact b16
  · exact b17
  · exact b18
  · exact b19
  · exact b20
  · exact b21
  · exact b22
  · exact b23
  · exact b24
  · exact b25
  · exact b26
  · exact b27
  · exact b28
  · exact b29
  · exact b30
  · exact b31
  · exact b32
  · exact b33
  · exact b34
theorem hats : ∀ D ∈ ds, D.d.at_ = (D.d.name, none) ∧ D.d.dfl = [] ∧ D.d.kwd = [] := by
  intro D hD
  simp only [ds, List.mem_cons, List.not_mem_nil, or_false] at hD
  rcases hD with rfl | rfl | rfl | rfl | rfl | rfl | rfl | rfl | rfl | rfl | rfl | rfl | rfl | rfl | rfl | rfl | rfl | rfl | rfl | rfl | rfl | rfl | rfl | rfl | rfl | rfl | rfl | rfl | rfl | rfl | rfl | rfl | rfl | rfl | rfl <;> exact ⟨rfl, rfl, rfl⟩
end K15
open PySem PySem.W PySem.Calls PyProof.Rows
theorem PySem.Challenge.cw_bornbetween_k15_whole_far_roots_of_halve_holds : PySem.Challenge.rw_bornbetween_k15_whole_far_roots_of_halve.Holds := by
  w_on; o_law
  refine HandSHeadRun.head_imp (r := K15.R) (q := view K15.R.prog [0, 53]) (H := K15.hk) (ob := K15.ob) (M := 2000) (loose := K15.loose) (d := HandSHeadRun.topDef K15.R.prog 53) (kwd := []) K15.ob_eq
    K15.run (by kernel_rfl) (by kernel_rfl) (by rfl) (by rfl) (by first | assumption | decide +kernel) (by decide +kernel) ⟨rfl, rfl, rfl, rfl, rfl, by decide +kernel⟩ ?hw ?hc
  case hw => w_witness2
  case hc =>
    exact Ev.walk_ev (l := PySem.Challenge.rw_bornbetween_k15_whole_far_roots_of_halve) (n := 63) (M := K15.md) (ds := K15.ds) (kl := 34) (x := "script") rfl (by decide) (by kernel_rfl) ⟨rfl, by decide, by decide⟩ (by decide +kernel) K15.hats (by decide) K15.binds K15.okAll (by decide) (by kernel_rfl) K15.law
end
