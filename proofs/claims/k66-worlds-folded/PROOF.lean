import PyProof.Rows.All
import Wide.All
import OpenK.AllK
import Wide.FinOn
import KE.SortData
import HandS.List
import PyProof.EqLayable
import HandS.ForMost
import HandS.Exc
import HandS.TryOnly
import HandS.ExcOwn
import HandS.WordsExc
import HandS.Defaults
import HandS.Deep
import HandS.TupAny
import HandS.TupMul
import HandS.Conv
import HandS.Lambda
import HandS.HeadHook4
import HandS.HeadWalk
import HandS.IsInst
import KE.SortKeyHeap
import KE.KSortKey
import KE.KStateDown
import KE.KNestM
import HandS.Words
import HandS.Head0
import HandS.Head1
import HandS.Head2
import HandS.HeadEnd
import HandS.HeadHook1
import HandS.HeadHook2
import HandS.HeadHook3
import KE.SortLaws
import Lean
import PySem.Challenge.RW_lettermoat_k66_worlds_folded
set_option Elab.async false
set_option linter.all false
set_option maxRecDepth 100000
set_option maxHeartbeats 0
/-! DvSem: pure data, a store of things that change, and what a program of them comes to. -/
namespace DV
open PySem

/-- data: a tuple is what it holds; rol: a list that is only read; ref n: the n-th thing of the store -/
inductive D where
  | non | bl (b : Bool) | int (i : Int) | str (s : Str) | tup (xs : List D) | rol (xs : List D) | ref (n : Nat)

namespace D
mutual
def beq : D → D → Bool
  | .non, .non => true
  | .bl a, .bl b => decide (a = b)
  | .int a, .int b => decide (a = b)
  | .str a, .str b => decide (a = b)
  | .tup a, .tup b => beqAll a b
  | .rol a, .rol b => beqAll a b
  | .ref a, .ref b => decide (a = b)
  | _, _ => false
def beqAll : List D → List D → Bool
  | [], [] => true
  | a :: as, b :: bs => beq a b && beqAll as bs
  | _, _ => false
end
mutual
theorem beq_self : ∀ a : D, beq a a = true
  | .non => rfl
  | .bl a => by simp [beq]
  | .int a => by simp [beq]
  | .str a => by simp [beq]
  | .tup a => by rw [beq]; exact beqAll_self a
  | .rol a => by rw [beq]; exact beqAll_self a
  | .ref a => by simp [beq]
theorem beqAll_self : ∀ a : List D, beqAll a a = true
  | [] => rfl
  | a :: as => by rw [beqAll, beq_self a, beqAll_self as]; rfl
end
mutual
theorem eq_of_beq : ∀ a b : D, beq a b = true → a = b
  | .non, b, h => by cases b <;> simp [beq] at h <;> rfl
  | .bl a, b, h => by cases b <;> simp [beq] at h; rw [h]
  | .int a, b, h => by cases b <;> simp [beq] at h; rw [h]
  | .str a, b, h => by cases b <;> simp [beq] at h; rw [h]
  | .tup a, b, h => by
    cases b <;> simp [beq] at h
    rw [eq_of_beqAll a _ h]
  | .rol a, b, h => by
    cases b <;> simp [beq] at h
    rw [eq_of_beqAll a _ h]
  | .ref a, b, h => by cases b <;> simp [beq] at h; rw [h]
theorem eq_of_beqAll : ∀ a b : List D, beqAll a b = true → a = b
  | [], [], _ => rfl
  | a :: as, b :: bs, h => by
    rw [beqAll, Bool.and_eq_true] at h
    rw [eq_of_beq a b h.1, eq_of_beqAll as bs h.2]
  | [], _ :: _, h => by simp [beqAll] at h
  | _ :: _, [], h => by simp [beqAll] at h
end
instance : DecidableEq D := fun a b => if h : beq a b = true then .isTrue (eq_of_beq a b h) else .isFalse fun e => h (e ▸ beq_self a)

mutual
/-- all that it names stands below k -/
def bnd (k : Nat) : D → Bool
  | .ref n => decide (n < k)
  | .tup xs => bndAll k xs
  | .rol xs => bndAll k xs
  | _ => true
def bndAll (k : Nat) : List D → Bool
  | [] => true
  | x :: xs => bnd k x && bndAll k xs
end
mutual
/-- as plain data (of a ref: nothing) -/
def toPy : D → PyData
  | .non => .none
  | .bl b => .bool b
  | .int i => .int i
  | .str s => .str s
  | .tup xs => .tuple (toPys xs)
  | .rol xs => .list (toPys xs)
  | .ref _ => .none
def toPys : List D → List PyData
  | [] => []
  | x :: xs => toPy x :: toPys xs
end
mutual
/-- no ref, texts of right signs, so deep at most -/
def flat (k : Nat) : D → Bool
  | .str s => PyData.strOk s
  | .tup xs => (match k with | 0 => false | k + 1 => flatAll k xs)
  | .ref _ => false
  | .rol _ => false
  | _ => true
def flatAll (k : Nat) : List D → Bool
  | [] => true
  | x :: xs => flat k x && flatAll k xs
end
/-- so deep may data be that is asked for == and the like -/
abbrev ok (d : D) : Bool := flat 8 d
abbrev okAll (ds : List D) : Bool := flatAll 8 ds
end D

/-- what stands in the store: a list; a dict; an instance; a def's table of code objects -/
inductive MO where
  | lst (xs : List D) | dct (kvs : List (D × D)) | ins (c : Str) (fs : List (Str × D)) | tab (q : Str)
  deriving DecidableEq

abbrev Store := List MO
abbrev Env := List (Option D)

inductive Res (α : Type) where
  | ok (a : α) (m : Store) | exc (c : Str) (m : Store) | bad
/-- go on -/
def Res.bind {α β : Type} (r : Res α) (f : α → Store → Res β) : Res β := match r with
  | .ok a m => f a m
  | .exc c m => .exc c m
  | .bad => .bad
theorem Res.bind_ok {α β : Type} (a : α) (m : Store) (f : α → Store → Res β) : (Res.ok a m).bind f = f a m := rfl
theorem Res.bind_exc {α β : Type} (c : Str) (m : Store) (f : α → Store → Res β) : (Res.exc c m : Res α).bind f = .exc c m := rfl
theorem Res.bind_bad {α β : Type} (f : α → Store → Res β) : (Res.bad : Res α).bind f = .bad := rfl
abbrev Callee := Nat → List D → Store → Res D

/-! ### the code -/
inductive BOp where
  | add | sub | mul | fdiv | mod | pow
  deriving DecidableEq
inductive COp where
  | eq | ne | lt | le | gt | ge | isin | notin | is | isnot
  deriving DecidableEq
/-- what is called by name and is no def -/
inductive Blt where
  | len | all | any | sum | abs | max2 | min2 | maxl | minl | tuple | list | sorted | sortedset | toint | tostr | tupleRange | sortedRange
  deriving DecidableEq
inductive Mth where
  | append | extend | index | count | pop | popAt | insert | reverse | get | setdefault
  deriving DecidableEq
inductive SrcK where
  | val | rng1 | rng2 | enum | zip | rev
  deriving DecidableEq
inductive Tg where
  | nm (i : Nat) | tup (ts : List Tg)
/-- a built-in class in isinstance -/
inductive Ty where
  | int | bool | str | tuple
  deriving DecidableEq

inductive IE where
  | var (i : Nat)
  | lit (d : D)
  | tup (es : List IE)
  | lst (es : List IE)
  | bin (op : BOp) (a b : IE)
  | neg (a : IE)
  | nott (a : IE)
  | and (es : List IE)
  | or (es : List IE)
  | cmp (op : COp) (a b : IE)
  | chain (op op' : COp) (a b c : IE)
  | ite (c a b : IE)
  | idx (a i : IE)
  | slc (a : IE) (lo hi : List IE)
  /-- the f-th def -/
  | call (f : Nat) (es : List IE)
  | blt (b : Blt) (es : List IE)
  | meth (m : Mth) (o : IE) (es : List IE)
  | isi (e : IE) (t : Ty)
  | comp (elt : IE) (tg : Tg) (own : List Nat) (k : SrcK) (srcs : List IE) (tests : List IE)
  /-- sorted(range(len(x)), key=lambda k: x[k]), x in slot i; the lambda's code is kept in the t-th thing, the table of the def q -/
  | sortby (i t : Nat) (q : Str)
inductive IS where
  | asg (t : Tg) (e : IE)
  | asgSub (o i e : IE)
  | aug (i : Nat) (e : IE)
  | expr (e : IE)
  | ret (e : IE)
  | retN
  | iff (c : IE) (a b : List IS)
  | forr (t : Tg) (k : SrcK) (srcs : List IE) (body : List IS)
  | whil (c : IE) (body : List IS)
  | pass | brk | cont
  | raise (c : Str)

/-! ### operators -/
/-- the part of a row between two bounds -/
def cut {α : Type} (xs : List α) (lo hi : Option Int) : List α :=
  let a := HT.sIx xs.length 0 lo
  let b := HT.sIx xs.length xs.length hi
  (xs.drop a).take (b - a)

def line : Nat := 16777216

def binOp : BOp → D → D → Store → Res D
  | .add, .int i, .int j, m => .ok (.int (i + j)) m
  | .add, .str x, .str y, m => if x.length + y.length ≤ line then .ok (.str (x ++ y)) m else .bad
  | .add, .tup xs, .tup ys, m => if xs.length + ys.length ≤ line then .ok (.tup (xs ++ ys)) m else .bad
  | .add, .ref a, .ref b, m => (match m[a]?, m[b]? with
    | some (.lst xs), some (.lst ys) => if xs.length + ys.length ≤ line then .ok (.ref m.length) (m ++ [.lst (xs ++ ys)]) else .bad
    | _, _ => .bad)
  | .sub, .int i, .int j, m => .ok (.int (i - j)) m
  | .mul, .int i, .int j, m => if (-(2 ^ 64) < i ∧ i < 2 ^ 64) ∨ (-(2 ^ 64) < j ∧ j < 2 ^ 64) then .ok (.int (i * j)) m else .bad
  | .mul, .tup xs, .int k, m => if 2 ≤ k ∧ k ≤ 1000 ∧ xs ≠ [] ∧ xs.length ≤ 1000 then .ok (.tup (List.replicate k.toNat xs).flatten) m else .bad
  | .mul, .ref a, .int k, m => (match m[a]? with
    | some (.lst xs) => if 0 ≤ k ∧ k < 2 ^ 62 ∧ xs.length * k.toNat ≤ line then .ok (.ref m.length) (m ++ [.lst (List.replicate k.toNat xs).flatten]) else .bad
    | _ => .bad)
  | .fdiv, .int i, .int j, m => if 0 < j ∧ j < 1073741824 then .ok (.int (i / j)) m else .bad
  | .mod, .int i, .int j, m => if 0 < j then .ok (.int (i % j)) m else .bad
  | .pow, .int i, .int j, m => if 0 ≤ j ∧ j ≤ 1000000 ∧ i.natAbs < 2 ^ 64 then .ok (.int (i ^ j.toNat)) m else .bad
  | _, _, _, _ => .bad

/-- the items of a tuple or a list -/
def items (d : D) (m : Store) : Option (List D) := match d with
  | .tup xs => some xs
  | .rol xs => some xs
  | .ref n => (match m[n]? with
    | some (.lst xs) => some xs
    | _ => none)
  | _ => none

/-- ==, where the two can be asked for it -/
def peq (d e : D) (m : Store) : Option Bool := match d, e with
  | .ref a, .ref b => (match items (.ref a) m, items (.ref b) m with
    | some xs, some ys => if D.okAll xs && D.okAll ys then some (PyData.eqvAll (D.toPys xs) (D.toPys ys)) else none
    | _, _ => none)
  | d, e => if D.ok d && D.ok e then some (PyData.eqv (D.toPy d) (D.toPy e)) else none

/-- x == one of them -/
def isIn (x : D) (ys : List D) : Bool := ys.any fun y => PyData.eqv (D.toPy y) (D.toPy x)
/-- at a key -/
def atKey (x : D) : List (D × D) → Option D
  | [] => none
  | (k, v) :: r => if PyData.eqv (D.toPy k) (D.toPy x) then some v else atKey x r
def putKey (x v : D) : List (D × D) → List (D × D)
  | [] => [(x, v)]
  | (k, w) :: r => if PyData.eqv (D.toPy k) (D.toPy x) then (k, v) :: r else (k, w) :: putKey x v r

def cmpOp : COp → D → D → Store → Res D
  | .eq, .str x, .str y, m => .ok (.bl (decide (x = y))) m
  | .eq, .int x, .int y, m => .ok (.bl (decide (x = y))) m
  | .eq, x, y, m => (match peq x y m with | some b => .ok (.bl b) m | none => .bad)
  | .ne, .str x, .str y, m => .ok (.bl (!decide (x = y))) m
  | .ne, .int x, .int y, m => .ok (.bl (!decide (x = y))) m
  | .ne, x, y, m => (match peq x y m with | some b => .ok (.bl (!b)) m | none => .bad)
  | .lt, .int i, .int j, m => .ok (.bl (decide (i < j))) m
  | .le, .int i, .int j, m => .ok (.bl (decide (i ≤ j))) m
  | .gt, .int i, .int j, m => .ok (.bl (decide (j < i))) m
  | .ge, .int i, .int j, m => .ok (.bl (decide (j ≤ i))) m
  | .isin, x, .tup ys, m => if D.ok x && D.okAll ys then .ok (.bl (isIn x ys)) m else .bad
  | .isin, x, .ref n, m => (match m[n]? with
    | some (.lst ys) => if D.ok x && D.okAll ys then .ok (.bl (isIn x ys)) m else .bad
    | some (.dct kvs) => if D.ok x then .ok (.bl (atKey x kvs).isSome) m else .bad
    | _ => .bad)
  | .notin, x, .tup ys, m => if D.ok x && D.okAll ys then .ok (.bl (!isIn x ys)) m else .bad
  | .notin, x, .ref n, m => (match m[n]? with
    | some (.lst ys) => if D.ok x && D.okAll ys then .ok (.bl (!isIn x ys)) m else .bad
    | some (.dct kvs) => if D.ok x then .ok (.bl (!(atKey x kvs).isSome)) m else .bad
    | _ => .bad)
  | .is, x, .non, m => .ok (.bl (decide (x = .non))) m
  | .isnot, x, .non, m => .ok (.bl (!decide (x = .non))) m
  | _, _, _, _ => .bad

def idxOp (a i : D) (m : Store) : Res D := match a, i with
  | .ref n, d => (match m[n]? with
    | some (.dct kvs) => if D.ok d then (match atKey d kvs with | some v => .ok v m | none => .bad) else .bad
    | some (.lst xs) => (match d with
      | .int k => (match L2.ixN xs.length k with
        | some j => (match xs[j]? with | some v => .ok v m | none => .bad)
        | none => .bad)
      | _ => .bad)
    | _ => .bad)
  | .rol xs, .int k => (match L2.ixN xs.length k with
    | some j => (match xs[j]? with | some v => .ok v m | none => .bad)
    | none => .bad)
  | .tup xs, .int k => (match L2.ixN xs.length k with
    | some j => (match xs[j]? with | some v => .ok v m | none => .bad)
    | none => .bad)
  | _, _ => .bad

def slcOp (a : D) (lo hi : Option Int) (m : Store) : Res D := match a with
  | .tup xs => .ok (.tup (cut xs lo hi)) m
  | .rol xs => .ok (.ref m.length) (m ++ [.lst (cut xs lo hi)])
  | .ref n => (match items (.ref n) m with
    | some xs => .ok (.ref m.length) (m ++ [.lst (cut xs lo hi)])
    | none => .bad)
  | _ => .bad

/-- o[i] = v -/
def setOp (o i v : D) (m : Store) : Res Unit := match o, i with
  | .ref n, d => (match m[n]? with
    | some (.dct kvs) => if D.ok d && decide (kvs.length < line) then .ok () (m.set n (.dct (putKey d v kvs))) else .bad
    | some (.lst xs) => (match d with
      | .int k => (match L2.ixN xs.length k with
        | some j => .ok () (m.set n (.lst (xs.set j v)))
        | none => .bad)
      | _ => .bad)
    | _ => .bad)
  | _, _ => .bad

/-- all of them can be put in order -/
def alikeAll (ds : List D) : Bool := ds.all fun a => ds.all fun b => PySem.W.alike (D.toPy a) (D.toPy b)
def sortable (ds : List D) : Bool := (ds.all fun d => match d with | .tup (_ :: _) => true | _ => false) || ds.all fun d => match d with | .tup _ => false | .non => false | .ref _ => false | _ => true
def ordOk (ds : List D) : Bool := D.okAll ds && alikeAll ds && sortable ds
/-- not behind -/
def dle (a b : D) : Bool := PySem.W.dataLe false D.toPy a b
def sortD (ds : List D) : List D := ds.mergeSort dle

def boolsOf : List D → Option (List Bool)
  | [] => some []
  | .bl b :: r => (boolsOf r).map (b :: ·)
  | _ => none
def intsOf : List D → Option (List Int)
  | [] => some []
  | .int i :: r => (intsOf r).map (i :: ·)
  | _ => none

def bltOp : Blt → List D → Store → Res D
  | .len, [.tup xs], m => .ok (.int xs.length) m
  | .len, [.str x], m => if x.length ≤ line then .ok (.int x.length) m else .bad
  | .len, [.rol xs], m => .ok (.int xs.length) m
  | .len, [.ref n], m => (match m[n]? with
    | some (.lst xs) => .ok (.int xs.length) m
    | some (.dct kvs) => .ok (.int kvs.length) m
    | _ => .bad)
  | .all, [.ref n], m => (match m[n]? with
    | some (.lst xs) => (match boolsOf xs with | some bs => .ok (.bl (bs.all id)) m | none => .bad)
    | _ => .bad)
  | .any, [.ref n], m => (match m[n]? with
    | some (.lst xs) => (match boolsOf xs with | some bs => .ok (.bl (bs.any id)) m | none => .bad)
    | _ => .bad)
  | .sum, [.rol xs], m => (match intsOf xs with | some is => .ok (.int is.sum) m | none => .bad)
  | .sum, [.ref n], m => (match m[n]? with
    | some (.lst xs) => (match intsOf xs with | some is => .ok (.int is.sum) m | none => .bad)
    | _ => .bad)
  | .abs, [.int i], m => .ok (.int (if i < 0 then -i else i)) m
  | .max2, [.int i, .int j], m => .ok (.int (if j > i then j else i)) m
  | .min2, [.int i, .int j], m => .ok (.int (if j < i then j else i)) m
  | .tuple, [.tup xs], m => .ok (.tup xs) m
  | .tuple, [.ref n], m => (match m[n]? with
    | some (.lst xs) => .ok (.tup xs) m
    | _ => .bad)
  | .list, [d], m => (match items d m with
    | some xs => .ok (.ref m.length) (m ++ [.lst xs])
    | _ => .bad)
  | .sorted, [.ref n], m => (match m[n]? with
    | some (.lst xs) => if ordOk xs then .ok (.ref m.length) (m ++ [.lst (sortD xs)]) else .bad
    | _ => .bad)
  | .toint, [.bl b], m => .ok (.int (if b then 1 else 0)) m
  | .tupleRange, [.int n], m => if n ≤ 16777216 ∧ -(2 ^ 62) ≤ n then .ok (.tup ((List.range n.toNat).map fun (k : Nat) => D.int k)) m else .bad
  | _, _, _ => .bad

def methOp : Mth → D → List D → Store → Res D
  | .append, .ref n, [d], m => (match m[n]? with
    | some (.lst xs) => if xs.length < line then .ok .non (m.set n (.lst (xs ++ [d]))) else .bad
    | _ => .bad)
  | .extend, .ref n, [.ref k], m => (match m[n]?, m[k]? with
    | some (.lst xs), some (.lst ys) => if xs.length + ys.length ≤ line then .ok .non (m.set n (.lst (xs ++ ys))) else .bad
    | _, _ => .bad)
  | _, _, _, _ => .bad

/-- it has such a method -/
def mthOk (_ : Mth) (x : D) (m : Store) : Bool := match x with
  | .ref n => (match m[n]? with
    | some (.lst _) => true
    | _ => false)
  | _ => false

def isTy : Ty → D → Bool
  | .int, .int _ => true
  | .int, .bl _ => true
  | .bool, .bl _ => true
  | .str, .str _ => true
  | .tuple, .tup _ => true
  | _, _ => false

/-- isinstance can be asked of it -/
def isiOk : D → Store → Bool
  | .ref n, m => (match m[n]? with
    | some (.lst _) => true
    | _ => false)
  | _, _ => true

/-! ### targets -/
mutual
def bind (env : Env) : Tg → D → Option Env
  | .nm i, d => some (env.set i (some d))
  | .tup ts, .tup ds => bindAll env ts ds
  | .tup _, _ => none
def bindAll (env : Env) : List Tg → List D → Option Env
  | [], [] => some env
  | t :: ts, d :: ds => (bind env t d).bind fun e => bindAll e ts ds
  | _, _ => none
end

mutual
/-- the slots that a target stores to -/
def Tg.slots : Tg → List Nat
  | .nm i => [i]
  | .tup ts => Tg.slotsAll ts
def Tg.slotsAll : List Tg → List Nat
  | [] => []
  | t :: ts => Tg.slots t ++ Tg.slotsAll ts
end
/-- what a loop walks: its items, and the list of the store that must stay as it is -/
def srcItems : SrcK → List D → Store → Option (List D × Option (Nat × MO))
  | .val, [.tup xs], _ => some (xs, none)
  | .val, [.rol xs], _ => some (xs, none)
  | .val, [.ref n], m => (match m[n]? with
    | some (.lst xs) => some (xs, some (n, .lst xs))
    | some (.dct kvs) => some (kvs.map (·.1), some (n, .dct kvs))
    | _ => none)
  | .rng1, [.int j], _ => if j < 2 ^ 62 ∧ -(2 ^ 62) ≤ j then some ((List.range j.toNat).map fun (k : Nat) => D.int k, none) else none
  | .rng2, [.int i, .int j], _ => if j < 2 ^ 62 ∧ -(2 ^ 62) ≤ j ∧ i < 2 ^ 62 ∧ -(2 ^ 62) ≤ i then some ((List.range (j - i).toNat).map fun (k : Nat) => D.int (i + k), none) else none
  | _, _, _ => none
/-- the thing that is walked stands as it stood -/
def kept (w : Option (Nat × MO)) (m : Store) : Bool := match w with
  | none => true
  | some (n, o) => decide (m[n]? = some o)

/-! ### the store is cut -/
def MO.bnd (k : Nat) : MO → Bool
  | .lst xs => D.bndAll k xs
  | .dct kvs => D.bndAll k (kvs.map (·.1)) && D.bndAll k (kvs.map (·.2))
  | .ins _ fs => D.bndAll k (fs.map (·.2))
  | .tab _ => true
/-- the first k things (those ahead: m0) name none of the rest -/
def oldOk (m0 m : Store) : Bool := (List.range m0.length).all fun i => decide (m[i]? = m0[i]?) || (match m[i]? with | some o => o.bnd m0.length | none => false)
def envOk (k : Nat) (env0 env : Env) : Bool := (List.range env.length).all fun i => decide (env[i]? = env0[i]?) || (match env[i]? with | some (some d) => D.bnd k d | _ => true)
/-- behind a statement -/
def cutS (env0 : Env) (m0 : Store) (env : Env) (m : Store) : Store := if m.length ≤ m0.length then m else if oldOk m0 m && envOk m0.length env0 env then m.take m0.length else m
/-- behind an item's expression -/
def cutE (m0 : Store) (d : D) (m : Store) : Store := if m.length ≤ m0.length then m else if oldOk m0 m && D.bnd m0.length d then m.take m0.length else m

/-- behind a call: what is handed back, and what of the store it needs -/
def cutC (m0 : Store) (d : D) (m : Store) : D × Store :=
  if m.length ≤ m0.length then (d, m) else
  if oldOk m0 m then
    (if D.bnd m0.length d then (d, m.take m0.length) else
    match d with
    | .ref n => (match m[n]? with
      | some o => if o.bnd m0.length then (.ref m0.length, m.take m0.length ++ [o]) else (d, m)
      | none => (d, m))
    | _ => (d, m))
  else (d, m)

/-! ### what it comes to -/
/-- an optional part of a slice -/
def partOf : List D → Option (Option Int)
  | [] => some none
  | [.int i] => some (some i)
  | _ => none
def toP (l : List D) (m : Store) : Res (Option Int) := match partOf l with
  | some x => .ok x m
  | none => .bad

/-- the slots of a block's own names forgotten -/
def wipe (env : Env) : List Nat → Env
  | [] => env
  | v :: vs => (wipe env vs).set v none

/-- a comprehension's turns -/
def compGo (bnd : D → Option Env) (tests : Env → Store → Res Bool) (elt : Env → Store → Res D) (w : Option (Nat × MO)) : List D → List D → Store → Res (List D)
  | [], acc, m => .ok acc m
  | d :: ds, acc, m => (match bnd d with
    | none => .bad
    | some env => (match tests env m with
      | .ok false m1 => if kept w (cutE m .non m1) then compGo bnd tests elt w ds acc (cutE m .non m1) else .bad
      | .ok true m1 => (match elt env m1 with
        | .ok x m2 => if kept w (cutE m (.tup (x :: acc)) m2) && decide (acc.length < line) then compGo bnd tests elt w ds (acc ++ [x]) (cutE m (.tup (x :: acc)) m2) else .bad
        | _ => .bad)
      | _ => .bad))

mutual
def evE (cal : Callee) : IE → Env → Store → Res D
  | .var i, env, m => (match env[i]? with | some (some d) => .ok d m | _ => .bad)
  | .lit d, _, m => .ok d m
  | .tup es, env, m => (evEs cal es env m).bind fun ds m => .ok (.tup ds) m
  | .lst es, env, m => (evEs cal es env m).bind fun ds m => .ok (.ref m.length) (m ++ [.lst ds])
  | .bin op a b, env, m => (evE cal a env m).bind fun x m => (evE cal b env m).bind fun y m => binOp op x y m
  | .neg a, env, m => (evE cal a env m).bind fun x m => (match x with | .int i => .ok (.int (-i)) m | _ => .bad)
  | .nott a, env, m => (evE cal a env m).bind fun x m => (match x with | .bl b => .ok (.bl (!b)) m | _ => .bad)
  | .and es, env, m => evAnd cal es env m
  | .or es, env, m => evOr cal es env m
  | .cmp op a b, env, m => (evE cal a env m).bind fun x m => (evE cal b env m).bind fun y m => cmpOp op x y m
  | .chain op op' a b c, env, m => (evE cal a env m).bind fun x m => (evE cal b env m).bind fun y m => (cmpOp op x y m).bind fun t m => (match t with
    | .bl true => (evE cal c env m).bind fun z m => cmpOp op' y z m
    | .bl false => .ok (.bl false) m
    | _ => .bad)
  | .ite c a b, env, m => (evE cal c env m).bind fun x m => (match x with | .bl true => evE cal a env m | .bl false => evE cal b env m | _ => .bad)
  | .idx a i, env, m => (evE cal a env m).bind fun x m => (evE cal i env m).bind fun y m => idxOp x y m
  | .slc a lo hi, env, m => (evE cal a env m).bind fun x m => ((evEs cal lo env m).bind toP).bind fun l m => ((evEs cal hi env m).bind toP).bind fun h m => slcOp x l h m
  | .call f es, env, m => (evEs cal es env m).bind fun ds m => cal f ds m
  | .blt b es, env, m => (evEs cal es env m).bind fun ds m => bltOp b ds m
  | .meth t o es, env, m => (evE cal o env m).bind fun x m => if mthOk t x m then (evEs cal es env m).bind fun ds m => methOp t x ds m else .bad
  | .isi e t, env, m => (evE cal e env m).bind fun x m => if isiOk x m then .ok (.bl (isTy t x)) m else .bad
  | .comp elt tg own k srcs tests, env, m => (evEs cal srcs env m).bind fun ds m => (match srcItems k ds m with
    | none => .bad
    | some (xs, w) => (compGo (fun d => bind (wipe env own) tg d) (fun e m => evTests cal tests e m) (fun e m => evE cal elt e m) w xs [] m).bind fun acc m => .ok (.ref m.length) (m ++ [.lst acc]))
  | .sortby i t q, env, m => (match env[i]? with
    | some (some (.tup xs)) => if ordOk xs && decide (m[t]? = some (.tab q)) && decide (xs.length ≤ 16777216) then .ok (.ref m.length) (m ++ [.lst (((List.range xs.length).mergeSort fun a b => dle (xs.getD a .non) (xs.getD b .non)).map fun (k : Nat) => D.int k)]) else .bad
    | _ => .bad)
def evEs (cal : Callee) : List IE → Env → Store → Res (List D)
  | [], _, m => .ok [] m
  | e :: es, env, m => (evE cal e env m).bind fun d m => (evEs cal es env m).bind fun ds m => .ok (d :: ds) m
def evAnd (cal : Callee) : List IE → Env → Store → Res D
  | [], _, _ => .bad
  | [e], env, m => (evE cal e env m).bind fun d m => (match d with
    | .bl b => .ok (.bl b) m
    | _ => .bad)
  | e :: f :: es, env, m => (evE cal e env m).bind fun d m => (match d with
    | .bl true => evAnd cal (f :: es) env m
    | .bl false => .ok (.bl false) m
    | _ => .bad)
def evOr (cal : Callee) : List IE → Env → Store → Res D
  | [], _, _ => .bad
  | [e], env, m => (evE cal e env m).bind fun d m => (match d with
    | .bl b => .ok (.bl b) m
    | _ => .bad)
  | e :: f :: es, env, m => (evE cal e env m).bind fun d m => (match d with
    | .bl false => evOr cal (f :: es) env m
    | .bl true => .ok (.bl true) m
    | _ => .bad)
def evTests (cal : Callee) : List IE → Env → Store → Res Bool
  | [], _, m => .ok true m
  | e :: es, env, m => (evE cal e env m).bind fun d m => (match d with
    | .bl true => evTests cal es env m
    | .bl false => .ok false m
    | _ => .bad)
end

/-- a statement's end -/
inductive SRes where
  | nx (env : Env) (m : Store) | rt (d : D) (m : Store) | bk (env : Env) (m : Store) | ct (env : Env) (m : Store) | exc (c : Str) (env : Env) (m : Store) | bad
def SRes.thn (r : SRes) (f : Env → Store → SRes) : SRes := match r with
  | .nx e m => f e m
  | r => r
def Res.thn {α : Type} (r : Res α) (env : Env) (f : α → Store → SRes) : SRes := match r with
  | .ok a m => f a m
  | .exc c m => .exc c env m
  | .bad => .bad
/-- behind a statement the store is cut -/
def SRes.cut (r : SRes) (env0 : Env) (m0 : Store) : SRes := match r with
  | .nx e m => .nx e (cutS env0 m0 e m)
  | .bk e m => .bk e (cutS env0 m0 e m)
  | .ct e m => .ct e (cutS env0 m0 e m)
  | r => r

/-- a for's turns -/
def forGo (bnd : Env → D → Option Env) (body : Env → Store → SRes) (w : Option (Nat × MO)) : List D → Env → Store → SRes
  | [], env, m => .nx env m
  | d :: ds, env, m => (match bnd env d with
    | none => .bad
    | some env => (match body env m with
      | .nx env m => if kept w m then forGo bnd body w ds env m else .bad
      | .ct env m => if kept w m then forGo bnd body w ds env m else .bad
      | .bk env m => .nx env m
      | r => r))
/-- a while's turns, so many at most -/
def whileGo (c : Env → Store → Res Bool) (body : Env → Store → SRes) : Nat → Env → Store → SRes
  | 0, _, _ => .bad
  | n + 1, env, m => (c env m).thn env fun b m => if b then (match body env m with
      | .nx env m => whileGo c body n env m
      | .ct env m => whileGo c body n env m
      | .bk env m => .nx env m
      | r => r) else .nx env m

/-- a test -/
def evT (cal : Callee) (e : IE) (env : Env) (m : Store) : Res Bool := (evE cal e env m).bind fun d m => match d with
  | .bl b => .ok b m
  | _ => .bad

mutual
def evS (cal : Callee) (fl : Nat) : IS → Env → Store → SRes
  | .asg t e, env, m => ((evE cal e env m).thn env fun d m1 => (match bind env t d with
    | some env1 => .nx env1 m1
    | none => .bad)).cut env m
  | .asgSub o i e, env, m => ((evE cal e env m).thn env fun d m1 => (evE cal o env m1).thn env fun x m2 => (evE cal i env m2).thn env fun y m3 => (setOp x y d m3).thn env fun _ m4 => .nx env m4).cut env m
  | .aug i e, env, m => ((match env[i]? with
    | some (some x) => (evE cal e env m).thn env fun d m1 => (match x, d with
      | .int a, .int b => .nx (env.set i (some (.int (a + b)))) m1
      | _, _ => .bad)
    | _ => .bad) : SRes).cut env m
  | .expr e, env, m => ((evE cal e env m).thn env fun _ m1 => .nx env m1).cut env m
  | .ret e, env, m => (evE cal e env m).thn env fun d m1 => .rt d m1
  | .retN, _, m => .rt .non m
  | .iff c a b, env, m => ((evT cal c env m).thn env fun t m1 => if t then evSs cal fl a env m1 else evSs cal fl b env m1).cut env m
  | .forr t k srcs body, env, m => ((evEs cal srcs env m).thn env fun ds m1 => (match srcItems k ds m1 with
    | none => .bad
    | some (xs, w) => forGo (fun env d => bind env t d) (fun env m => evSs cal fl body env m) w xs env m1)).cut env m
  | .whil c body, env, m => (whileGo (fun env m => evT cal c env m) (fun env m => evSs cal fl body env m) fl env m).cut env m
  | .pass, env, m => .nx env m
  | .brk, env, m => .bk env m
  | .cont, env, m => .ct env m
  | .raise c, env, m => .exc c env m
def evSs (cal : Callee) (fl : Nat) : List IS → Env → Store → SRes
  | [], env, m => .nx env m
  | s :: ss, env, m => (evS cal fl s env m).thn fun env m => evSs cal fl ss env m
end

/-- a def: how many parameters, how many names in all, its body -/
structure FD where
  np : Nat
  nn : Nat
  body : List IS
abbrev Tab := List FD
/-- a def's call -/
def runD (cal : Callee) (fl : Nat) (d : FD) (args : List D) (m : Store) : Res D :=
  if args.length = d.np then (match evSs cal fl d.body (args.map some ++ List.replicate (d.nn - d.np) none) m with
    | .nx _ m1 => .ok (cutC m .non m1).1 (cutC m .non m1).2
    | .rt x m1 => .ok (cutC m x m1).1 (cutC m x m1).2
    | .exc c _ m1 => .exc c m1
    | _ => .bad) else .bad
/-- so deep at most -/
def evC (tab : Tab) (fl : Nat) : Nat → Callee
  | 0 => fun _ _ _ => .bad
  | n + 1 => fun f args m => (match tab[f]? with
    | some d => runD (evC tab fl n) fl d args m
    | none => .bad)
end DV

/-! DvRel: how pure data stand for values, a store for tracked things. -/
namespace DV
open PySem PySem.Spec PyProof.Rows L2

/-- a list that is only read -/
def SqR (K : PySem.W.Frag) (H : Hp) (a : Addr) (xs : List V) : Prop := (∃ o, H a = some (.frz o (.lst xs))) ∨
  ∃ (o : Obj) (its : Array Value) (n : Nat), K.lookup a = some o ∧ o.cls = .type "list" ∧ o.dict = none ∧ o.data = .seq its n ∧ its.size ≤ sizeLine ∧ Vals xs its.toList
theorem SqR.l {K : PySem.W.Frag} {H : Hp} {a : Addr} {xs : List V} (h : SqR K H a xs) : SqL K H a xs := h.elim (fun h => .inl (.inr h)) .inr
mutual
def RD (K : PySem.W.Frag) (rho : List Addr) (H : Hp) : D → V → Prop
  | .non, v => v = .non
  | .bl b, v => v = .bl b
  | .int i, v => v = .int i
  | .str s, v => v = .str s
  | .tup ds, v => ∃ a vs, v = .ref a ∧ SqT K H a vs ∧ RDs K rho H ds vs
  | .rol ds, v => ∃ a vs, v = .ref a ∧ SqR K H a vs ∧ RDs K rho H ds vs
  | .ref n, v => ∃ a, rho[n]? = some a ∧ v = .ref a
def RDs (K : PySem.W.Frag) (rho : List Addr) (H : Hp) : List D → List V → Prop
  | [], vs => vs = []
  | d :: ds, vs => ∃ v r, vs = v :: r ∧ RD K rho H d v ∧ RDs K rho H ds r
end

/-- what stands at an address -/
def RO (K : PySem.W.Frag) (rho : List Addr) (H : Hp) (a : Addr) : MO → Prop
  | .lst ds => ∃ vs, H a = some (.lst vs) ∧ RDs K rho H ds vs
  | .dct _ => False
  | .ins _ _ => False
  | .tab q => a = (He.cT K (q, none)).2 ∧ LamX.TabS H a (q ++ ".<locals>." ++ "<lambda>")

structure Rel (K : PySem.W.Frag) (rho : List Addr) (M : Store) (H : Hp) : Prop where
  len : rho.length = M.length
  nd : rho.Nodup
  ro : ∀ (n : Nat) (o : MO) (a : Addr), M[n]? = some o → rho[n]? = some a → RO K rho H a o

structure Ext (rho : List Addr) (H : Hp) (rho' : List Addr) (H' : Hp) : Prop where
  pre : rho <+: rho'
  fr : ∀ b o, H b = some o → b ∉ rho → (∀ ps, o ≠ .tbl ps) → H' b = some o
  new : ∀ a, a ∈ rho' → a ∈ rho ∨ H a = none ∨ ∃ ps, H a = some (.tbl ps)

def RE (K : PySem.W.Frag) (rho : List Addr) (H : Hp) (env : Env) (σ : L2.St) : Prop :=
  env.length = σ.length ∧ ∀ (i : Nat) (d : D), env[i]? = some (some d) → ∃ v, σ[i]? = some (some v) ∧ RD K rho H d v

section
variable {K : PySem.W.Frag} {rho rho1 rho2 : List Addr} {H H1 H2 : Hp} {M M1 : Store}

theorem Ext.refl (rho : List Addr) (H : Hp) : Ext rho H rho H := ⟨List.prefix_refl _, fun _ _ h _ _ => h, fun _ h => .inl h⟩
theorem Ext.trans (a : Ext rho H rho1 H1) (b : Ext rho1 H1 rho2 H2) : Ext rho H rho2 H2 where
  pre := a.pre.trans b.pre
  fr := fun c o e n t => b.fr c o (a.fr c o e n t) (fun z => by
    rcases a.new c z with z | z | ⟨ps, z⟩
    · exact n z
    · rw [e] at z; cases z
    · rw [e] at z; exact t ps (Option.some.inj z)) t
  new := fun c z => by
    by_cases hc : c ∈ rho
    · exact .inl hc
    · cases e : H c with
      | none => exact .inr (.inl rfl)
      | some o =>
        by_cases ht : ∃ ps, o = .tbl ps
        · obtain ⟨ps, rfl⟩ := ht
          exact .inr (.inr ⟨ps, rfl⟩)
        · have t : ∀ ps, o ≠ .tbl ps := fun ps z => ht ⟨ps, z⟩
          have e1 := a.fr c o e hc t
          rcases b.new c z with z | z | ⟨ps, z⟩
          · rcases a.new c z with z | z | ⟨ps, z⟩
            · exact absurd z hc
            · rw [e] at z; cases z
            · rw [e] at z; exact absurd (Option.some.inj z) (t ps)
          · rw [e1] at z; cases z
          · rw [e1] at z; exact absurd (Option.some.inj z) (t ps)
theorem Ext.at_ (x : Ext rho H rho1 H1) {n : Nat} {a : Addr} (e : rho[n]? = some a) : rho1[n]? = some a := by
  obtain ⟨t, rfl⟩ := x.pre
  obtain ⟨hl, _⟩ := List.getElem?_eq_some_iff.mp e
  rw [List.getElem?_append_left hl]; exact e

theorem Rel.obj (R : Rel K rho M H) {a : Addr} (h : a ∈ rho) : ∃ o, RO K rho H a o := by
  obtain ⟨n, e⟩ := List.mem_iff_getElem?.mp h
  obtain ⟨hl, _⟩ := List.getElem?_eq_some_iff.mp e
  have hm : n < M.length := by rw [← R.len]; exact hl
  exact ⟨_, R.ro n M[n] a (List.getElem?_eq_getElem hm) e⟩
theorem Rel.alive (R : Rel K rho M H) {a : Addr} (h : a ∈ rho) : (∃ vs, H a = some (.lst vs)) ∨ ∃ ps, H a = some (.tbl ps) := by
  obtain ⟨o, r⟩ := R.obj h
  cases o with
  | lst ds => obtain ⟨vs, e, _⟩ := r; exact .inl ⟨vs, e⟩
  | dct _ => exact r.elim
  | ins _ _ => exact r.elim
  | tab q => obtain ⟨_, ps, e, _⟩ := r; exact .inr ⟨ps, e⟩
theorem Rel.notRd (R : Rel K rho M H) {a : Addr} {o : HO} (h : H a = some o) (ho : ∀ xs, o ≠ .lst xs) (ho2 : ∀ xs, o ≠ .tbl xs) : a ∉ rho := fun z => by
  rcases R.alive z with ⟨vs, e⟩ | ⟨vs, e⟩
  · rw [h] at e
    exact ho vs (Option.some.inj e)
  · rw [h] at e
    exact ho2 vs (Option.some.inj e)
theorem tabKeep {a : Addr} {q : Str} (k : ∀ b f, H b = some (.ext f) → H1 b = some (.ext f)) (e : H1 a = H a) (h : LamX.TabS H a q) : LamX.TabS H1 a q := by
  obtain ⟨ps, h1, h2, h3⟩ := h
  refine ⟨ps, e.trans h1, h2, fun pos cv hc => ?_⟩
  obtain ⟨c, e1, e2⟩ := h3 pos cv hc
  exact ⟨c, e1, k _ _ e2⟩
theorem SqT.ext (R : Rel K rho M H) (x : Ext rho H rho1 H1) {a : Addr} {vs : List V} (h : SqT K H a vs) : SqT K H1 a vs := by
  rcases h with (h | ⟨o, h⟩) | h
  · exact .inl (.inl (x.fr a _ h (R.notRd h (by intro xs z; cases z) (by intro xs z; cases z)) (by intro xs z; cases z)))
  · exact .inl (.inr ⟨o, x.fr a _ h (R.notRd h (by intro xs z; cases z) (by intro xs z; cases z)) (by intro xs z; cases z)⟩)
  · exact .inr h
theorem SqR.ext (R : Rel K rho M H) (x : Ext rho H rho1 H1) {a : Addr} {vs : List V} (h : SqR K H a vs) : SqR K H1 a vs := by
  rcases h with ⟨o, h⟩ | h
  · exact .inl ⟨o, x.fr a _ h (R.notRd h (by intro xs z; cases z) (by intro xs z; cases z)) (by intro xs z; cases z)⟩
  · exact .inr h
mutual
theorem RD.ext (R : Rel K rho M H) (x : Ext rho H rho1 H1) : ∀ (d : D) (v : V), RD K rho H d v → RD K rho1 H1 d v
  | .non, _, h => h
  | .bl _, _, h => h
  | .int _, _, h => h
  | .str _, _, h => h
  | .tup ds, v, h => by
    rw [RD] at h ⊢
    obtain ⟨a, vs, e, ht, hs⟩ := h
    exact ⟨a, vs, e, SqT.ext R x ht, RDs.ext R x ds vs hs⟩
  | .rol ds, v, h => by
    rw [RD] at h ⊢
    obtain ⟨a, vs, e, ht, hs⟩ := h
    exact ⟨a, vs, e, SqR.ext R x ht, RDs.ext R x ds vs hs⟩
  | .ref n, v, h => by
    rw [RD] at h ⊢
    obtain ⟨a, e, ev⟩ := h
    exact ⟨a, x.at_ e, ev⟩
theorem RDs.ext (R : Rel K rho M H) (x : Ext rho H rho1 H1) : ∀ (ds : List D) (vs : List V), RDs K rho H ds vs → RDs K rho1 H1 ds vs
  | [], _, h => h
  | d :: ds, vs, h => by
    rw [RDs] at h ⊢
    obtain ⟨v, r, e, h1, h2⟩ := h
    exact ⟨v, r, e, RD.ext R x d v h1, RDs.ext R x ds r h2⟩
end
theorem RE.ext {env : Env} {σ : L2.St} (R : Rel K rho M H) (x : Ext rho H rho1 H1) (h : RE K rho H env σ) : RE K rho1 H1 env σ :=
  ⟨h.1, fun i d e => by
    obtain ⟨v, e1, r⟩ := h.2 i d e
    exact ⟨v, e1, RD.ext R x d v r⟩⟩
theorem RE.set {env : Env} {σ : L2.St} {i : Nat} {d : D} {v : V} (h : RE K rho H env σ) (r : RD K rho H d v) : RE K rho H (env.set i (some d)) (σ.set i (some v)) := by
  refine ⟨by rw [List.length_set, List.length_set]; exact h.1, fun j d' e => ?_⟩
  by_cases hj : i = j
  · subst hj
    by_cases hl : i < env.length
    · rw [List.getElem?_set_self hl] at e
      cases e
      exact ⟨v, List.getElem?_set_self (by rw [← h.1]; exact hl), r⟩
    · rw [List.getElem?_eq_none (by rw [List.length_set]; omega)] at e
      cases e
  · rw [List.getElem?_set_ne hj] at e
    rw [List.getElem?_set_ne hj]
    exact h.2 j d' e
theorem RE.forget {env : Env} {σ : L2.St} {i : Nat} {o : Option V} (h : RE K rho H env σ) : RE K rho H (env.set i none) (σ.set i o) := by
  refine ⟨by rw [List.length_set, List.length_set]; exact h.1, fun j d' e => ?_⟩
  by_cases hj : i = j
  · subst hj
    by_cases hl : i < env.length
    · rw [List.getElem?_set_self hl] at e
      cases e
    · rw [List.getElem?_eq_none (by rw [List.length_set]; omega)] at e
      cases e
  · rw [List.getElem?_set_ne hj] at e
    rw [List.getElem?_set_ne hj]
    exact h.2 j d' e
theorem RE.wipe {env : Env} {σ : L2.St} (h : RE K rho H env σ) : ∀ vs : List Nat, RE K rho H (DV.wipe env vs) (L2.wipe σ vs)
  | [] => h
  | v :: vs => RE.forget (RE.wipe h vs)

theorem RDs.length : ∀ {ds : List D} {vs : List V}, RDs K rho H ds vs → vs.length = ds.length
  | [], vs, h => by rw [RDs] at h; subst h; rfl
  | d :: ds, vs, h => by
    rw [RDs] at h
    obtain ⟨v, r, rfl, _, h2⟩ := h
    rw [List.length_cons, List.length_cons, RDs.length h2]
theorem RDs.get : ∀ {ds : List D} {vs : List V} {i : Nat} {d : D}, RDs K rho H ds vs → ds[i]? = some d → ∃ v, vs[i]? = some v ∧ RD K rho H d v
  | [], _, _, _, _, e => by simp at e
  | d :: ds, vs, 0, d', h, e => by
    rw [RDs] at h
    obtain ⟨v, r, rfl, h1, _⟩ := h
    simp at e; subst e
    exact ⟨v, rfl, h1⟩
  | d :: ds, vs, i + 1, d', h, e => by
    rw [RDs] at h
    obtain ⟨v, r, rfl, _, h2⟩ := h
    simp only [List.getElem?_cons_succ] at e ⊢
    exact RDs.get h2 e
theorem RDs.append : ∀ {ds es : List D} {vs us : List V}, RDs K rho H ds vs → RDs K rho H es us → RDs K rho H (ds ++ es) (vs ++ us)
  | [], es, vs, us, h, g => by rw [RDs] at h; subst h; exact g
  | d :: ds, es, vs, us, h, g => by
    rw [RDs] at h
    obtain ⟨v, r, rfl, h1, h2⟩ := h
    rw [List.cons_append, RDs]
    exact ⟨v, r ++ us, rfl, h1, RDs.append h2 g⟩
theorem RDs.set : ∀ {ds : List D} {vs : List V} {d : D} {v : V} (i : Nat), RDs K rho H ds vs → RD K rho H d v → RDs K rho H (ds.set i d) (vs.set i v)
  | [], vs, d, v, i, h, r => by rw [RDs] at h; subst h; rfl
  | e :: ds, vs, d, v, 0, h, r => by
    rw [RDs] at h
    obtain ⟨w, u, rfl, _, h2⟩ := h
    rw [List.set_cons_zero, List.set_cons_zero, RDs]
    exact ⟨v, u, rfl, r, h2⟩
  | e :: ds, vs, d, v, i + 1, h, r => by
    rw [RDs] at h
    obtain ⟨w, u, rfl, h1, h2⟩ := h
    rw [List.set_cons_succ, List.set_cons_succ, RDs]
    exact ⟨w, u.set i v, rfl, h1, RDs.set i h2 r⟩
theorem RDs.drop : ∀ {ds : List D} {vs : List V} (n : Nat), RDs K rho H ds vs → RDs K rho H (ds.drop n) (vs.drop n)
  | ds, vs, 0, h => by simpa using h
  | [], vs, n + 1, h => by rw [RDs] at h; subst h; simp [RDs]
  | d :: ds, vs, n + 1, h => by
    rw [RDs] at h
    obtain ⟨v, r, rfl, _, h2⟩ := h
    simp only [List.drop_succ_cons]
    exact RDs.drop n h2
theorem RDs.take : ∀ {ds : List D} {vs : List V} (n : Nat), RDs K rho H ds vs → RDs K rho H (ds.take n) (vs.take n)
  | ds, vs, 0, h => by simp [RDs]
  | [], vs, n + 1, h => by rw [RDs] at h; subst h; simp [RDs]
  | d :: ds, vs, n + 1, h => by
    rw [RDs] at h
    obtain ⟨v, r, rfl, h1, h2⟩ := h
    rw [List.take_succ_cons, List.take_succ_cons, RDs]
    exact ⟨v, _, rfl, h1, RDs.take n h2⟩
theorem RDs.snoc {ds : List D} {vs : List V} {d : D} {v : V} (h : RDs K rho H ds vs) (r : RD K rho H d v) : RDs K rho H (ds ++ [d]) (vs ++ [v]) := h.append (by rw [RDs]; exact ⟨v, [], rfl, r, by rw [RDs]⟩)

/-! ### a new thing, a changed thing -/
theorem ext_new {p : Addr} {o : HO} (hp : H p = none) : Ext rho H (rho ++ [p]) (upd H p o) where
  pre := ⟨_, rfl⟩
  fr := fun b u e _ _ => by rw [upd_ne (ne_of_none e hp)]; exact e
  new := fun a h => by
    rcases List.mem_append.mp h with h | h
    · exact .inl h
    · exact .inr (.inl (by rw [List.mem_singleton.mp h]; exact hp))
theorem ext_aside {p : Addr} {o : HO} (hp : H p = none) : Ext rho H rho (upd H p o) where
  pre := List.prefix_refl _
  fr := fun b u e _ _ => by rw [upd_ne (ne_of_none e hp)]; exact e
  new := fun a h => .inl h
theorem RO.ext (R : Rel K rho M H) (x : Ext rho H rho1 H1) {a : Addr} {o : MO} (r : RO K rho H a o) (e : H1 a = H a) : RO K rho1 H1 a o := by
  cases o with
  | lst ds =>
    obtain ⟨vs, h, hs⟩ := r
    exact ⟨vs, e.trans h, RDs.ext R x _ _ hs⟩
  | dct _ => exact r.elim
  | ins _ _ => exact r.elim
  | tab q => exact ⟨r.1, tabKeep (fun b f h => x.fr b _ h (R.notRd h (by intro xs z; cases z) (by intro xs z; cases z)) (by intro xs z; cases z)) e r.2⟩
theorem Rel.away (R : Rel K rho M H) {p : Addr} (hp : H p = none) : p ∉ rho := fun z => by
  rcases R.alive z with ⟨vs, e⟩ | ⟨vs, e⟩ <;> (rw [hp] at e; cases e)
theorem Rel.aside (R : Rel K rho M H) {p : Addr} {o : HO} (hp : H p = none) : Rel K rho M (upd H p o) where
  len := R.len
  nd := R.nd
  ro := fun n u a e1 e2 => (R.ro n u a e1 e2).ext R (ext_aside hp) (upd_ne fun z => R.away hp (by rw [← z]; exact List.mem_of_getElem? e2))
theorem Rel.newL (R : Rel K rho M H) {p : Addr} {vs : List V} {ds : List D} (hp : H p = none) (h : RDs K rho H ds vs) : Rel K (rho ++ [p]) (M ++ [.lst ds]) (upd H p (.lst vs)) where
  len := by rw [List.length_append, List.length_append, R.len]; rfl
  nd := List.nodup_append.mpr ⟨R.nd, by simp, fun a ha b hb => by rw [List.mem_singleton.mp hb]; exact fun z => R.away hp (z ▸ ha)⟩
  ro := fun n u a e1 e2 => by
    by_cases hl : n < M.length
    · rw [List.getElem?_append_left hl] at e1
      rw [List.getElem?_append_left (by rw [R.len]; exact hl)] at e2
      exact (R.ro n u a e1 e2).ext R (ext_new hp) (upd_ne fun z => R.away hp (by rw [← z]; exact List.mem_of_getElem? e2))
    · rw [List.getElem?_append_right (by omega)] at e1
      rw [List.getElem?_append_right (by rw [R.len]; omega), R.len] at e2
      cases hk : n - M.length with
      | zero =>
        rw [hk] at e1 e2
        cases e1; cases e2
        exact ⟨vs, upd_same, RDs.ext R (ext_new hp) _ _ h⟩
      | succ k => rw [hk] at e1; simp at e1
theorem nodup_get {α : Type} {l : List α} (h : l.Nodup) {i j : Nat} {a : α} (e1 : l[i]? = some a) (e2 : l[j]? = some a) : i = j := by
  obtain ⟨h1, q1⟩ := List.getElem?_eq_some_iff.mp e1
  obtain ⟨h2, q2⟩ := List.getElem?_eq_some_iff.mp e2
  exact (List.getElem_inj h).mp (q1.trans q2.symm)
theorem ext_write {n : Nat} {a : Addr} {o : HO} (e : rho[n]? = some a) : Ext rho H rho (upd H a o) where
  pre := List.prefix_refl _
  fr := fun b u e' hb _ => by rw [upd_ne fun z => hb (by rw [z]; exact List.mem_of_getElem? e)]; exact e'
  new := fun a h => .inl h
theorem Rel.writeL (R : Rel K rho M H) {n : Nat} {a : Addr} {vs : List V} {ds : List D} (e : rho[n]? = some a) (h : RDs K rho H ds vs) : Rel K rho (M.set n (.lst ds)) (upd H a (.lst vs)) where
  len := by rw [List.length_set]; exact R.len
  nd := R.nd
  ro := fun j u b e1 e2 => by
    by_cases hj : n = j
    · subst hj
      rw [e] at e2; cases e2
      obtain ⟨hl, _⟩ := List.getElem?_eq_some_iff.mp e
      rw [List.getElem?_set_self (by rw [← R.len]; exact hl)] at e1
      cases e1
      exact ⟨vs, upd_same, RDs.ext R (ext_write e) _ _ h⟩
    · rw [List.getElem?_set_ne hj] at e1
      exact (R.ro j u b e1 e2).ext R (ext_write e) (upd_ne fun z => hj (nodup_get R.nd e (z ▸ e2)))
end
end DV

/-! DvRule: readings by pure data, and the layer's rules for them. -/
namespace DV
open PySem PySem.Spec PyProof.Rows L2

section
variable (K : PySem.W.Frag) (W : WX) (cl : Str → Addr)
/-- what is wanted behind a pure run -/
def Post {α β : Type} (RR : List Addr → Hp → α → β → Prop) (σ : L2.St) (rho : List Addr) (H : Hp) (r : Res α) (Q : β → Hp → Prop) : Prop := match r with
  | .ok a M' => ∀ rho' H' b, Ext rho H rho' H' → Rel K rho' M' H' → RR rho' H' a b → Q b H'
  | .exc c M' => ∀ rho' H', Ext rho H rho' H' → Rel K rho' M' H' → W (.ref (cl c)) none σ H'
  | .bad => False
abbrev RB : List Addr → Hp → Bool → Bool → Prop := fun _ _ a b => a = b
abbrev RU : List Addr → Hp → Unit → Unit → Prop := fun _ _ _ _ => True
/-- the readings: of an expression, of arguments, of a test -/
def tD (f : Env → Store → Res D) : TE := fun σ H Q => ∃ rho env M, Rel K rho M H ∧ RE K rho H env σ ∧ Post K W cl (RD K) σ rho H (f env M) Q
def tDs (f : Env → Store → Res (List D)) : TA := fun σ H Q => ∃ rho env M, Rel K rho M H ∧ RE K rho H env σ ∧ Post K W cl (RDs K) σ rho H (f env M) Q
def tT (f : Env → Store → Res Bool) : TT := fun σ H Q => ∃ rho env M, Rel K rho M H ∧ RE K rho H env σ ∧ Post K W cl RB σ rho H (f env M) Q
end

section
variable {K : PySem.W.Frag} {W : WX} {cl : Str → Addr} {rho rho1 : List Addr} {H H1 : Hp} {M M1 : Store} {σ : L2.St}
variable {α β γ δ : Type} {RA : List Addr → Hp → α → β → Prop} {RC : List Addr → Hp → γ → δ → Prop}

theorem Post.base {r : Res α} {Q : β → Hp → Prop} (x : Ext rho H rho1 H1) (h : Post K W cl RA σ rho H r Q) : Post K W cl RA σ rho1 H1 r Q := by
  cases r with
  | ok a m => exact fun rho' H' b x' => h rho' H' b (x.trans x')
  | exc c m => exact fun rho' H' x' => h rho' H' (x.trans x')
  | bad => exact h
theorem Post.mono {r : Res α} {Q Q' : β → Hp → Prop} (h : Post K W cl RA σ rho H r Q) (hQ : ∀ b H, Q b H → Q' b H) : Post K W cl RA σ rho H r Q' := by
  cases r with
  | ok a m => exact fun rho' H' b x' R r => hQ _ _ (h rho' H' b x' R r)
  | exc c m => exact h
  | bad => exact h
/-- a run and what goes on from it -/
theorem Post.bind {r : Res α} {f : α → Store → Res γ} {Q : δ → Hp → Prop} {Q1 : β → Hp → Prop} (h : Post K W cl RC σ rho H (r.bind f) Q)
    (k : ∀ a M1 rho1 H1 b, Ext rho H rho1 H1 → Rel K rho1 M1 H1 → RA rho1 H1 a b → Post K W cl RC σ rho1 H1 (f a M1) Q → Q1 b H1) : Post K W cl RA σ rho H r Q1 := by
  cases r with
  | ok a m => exact fun rho' H' b x' R r => k a m rho' H' b x' R r (Post.base x' h)
  | exc c m => exact h
  | bad => exact h
theorem Post.ok {a : α} {b : β} {Q : β → Hp → Prop} (h : Post K W cl RA σ rho H (.ok a M) Q) (R : Rel K rho M H) (r : RA rho H a b) : Q b H := h rho H b (Ext.refl _ _) R r
theorem Post.okTo {a : α} {b : β} {Q : β → Hp → Prop} (h : Post K W cl RA σ rho H (.ok a M1) Q) (x : Ext rho H rho1 H1) (R : Rel K rho1 M1 H1) (r : RA rho1 H1 a b) : Q b H1 := h rho1 H1 b x R r
end

/-- weaker readings -/
theorem peImp {X : Cx} {e : Expr} {t t' : TE} (h : PE X e t) (i : ∀ σ H Q, t' σ H Q → t σ H Q) : PE X e t' := ⟨fun pins s σ H Q I q => h.run pins s σ H Q I (i σ H Q q)⟩
theorem paImp {X : Cx} {e : List Expr} {t t' : TA} (h : PA X e t) (i : ∀ σ H Q, t' σ H Q → t σ H Q) : PA X e t' := ⟨fun pos pins s σ H Q I q => h.run pos pins s σ H Q I (i σ H Q q)⟩
theorem ptImp {X : Cx} {e : Expr} {t t' : TT} (h : PT X e t) (i : ∀ σ H Q, t' σ H Q → t σ H Q) : PT X e t' := ⟨fun pins s σ H Q I q => h.run pins s σ H Q I (i σ H Q q)⟩
theorem pwImp {X : Cx} {e : Expr} {t t' : TT} (h : PW X e t) (i : ∀ σ H Q, t' σ H Q → t σ H Q) : PW X e t' := ⟨fun w pins s σ H Q I q => h.run w pins s σ H Q I (i σ H Q q)⟩
theorem psImp {X : Cx} {e : Stmt} {t t' : TS} (h : PS X e t) (i : ∀ D σ H, t' D σ H → t D σ H) : PS X e t' := ⟨fun pins s σ H D I q => h.run pins s σ H D I (i D σ H q)⟩
theorem pssImp {X : Cx} {e : List Stmt} {t t' : TS} (h : PSs X e t) (i : ∀ D σ H, t' D σ H → t D σ H) : PSs X e t' := ⟨fun pins s σ H D I q => h.run pins s σ H D I (i D σ H q)⟩
theorem pgImp {X : Cx} {e : Expr} {t t' : TG} (h : PG X e t) (i : ∀ v σ H Q, t' v σ H Q → t v σ H Q) : PG X e t' := ⟨fun pins s σ H v u Q I r q => h.run pins s σ H v u Q I r (i v σ H Q q)⟩

section
variable {X : Cx} {W : WX} {cl : Str → Addr} {cal : Callee} {pos : Pos}
abbrev DE (X : Cx) (W : WX) (cl : Str → Addr) (e : Expr) (f : Env → Store → Res D) : Prop := PE X e (tD X.K W cl f)
abbrev DA (X : Cx) (W : WX) (cl : Str → Addr) (e : List Expr) (f : Env → Store → Res (List D)) : Prop := PA X e (tDs X.K W cl f)
abbrev DT (X : Cx) (W : WX) (cl : Str → Addr) (e : Expr) (f : Env → Store → Res Bool) : Prop := PT X e (tT X.K W cl f)

theorem de_var {i : Nat} {x : Str} (hN : X.N[i]? = some x) (hv : Vis X.env.scope x) (hd : (x == ("__debug__" : Str)) = false) (hcd : (x == ("__classdict__" : Str)) = false) : DE X W cl (.Name x pos) (evE cal (.var i)) := by
  refine peImp (pe_var hN hv hd hcd) fun σ H Q => ?_
  rintro ⟨rho, env, M, R, E, h⟩
  simp only [evE] at h
  split at h
  · rename_i d e
    obtain ⟨v, e1, r⟩ := E.2 i d e
    exact ⟨v, e1, h.ok R r⟩
  · exact h.elim
theorem de_lit {e : Expr} {d : D} {v : V} (he : PE X e (tC v)) (hr : ∀ rho H, RD X.K rho H d v) : DE X W cl e (evE cal (.lit d)) := by
  refine peImp he fun σ H Q => ?_
  rintro ⟨rho, env, M, R, E, h⟩
  simp only [evE] at h
  exact h.ok R (hr _ _)

theorem da_nil : DA X W cl [] (evEs cal []) := by
  refine paImp pa_nil fun σ H Q => ?_
  rintro ⟨rho, env, M, R, E, h⟩
  simp only [evEs] at h
  exact h.ok R (by rw [RDs])
theorem da_cons {e : Expr} {es : List Expr} {i : IE} {is : List IE} (h1 : DE X W cl e (evE cal i)) (h2 : DA X W cl es (evEs cal is)) (hs : starEach (e :: es) X.env = (false, eval e X.env) :: starEach es X.env) :
    DA X W cl (e :: es) (evEs cal (i :: is)) := by
  refine paImp (pa_cons h1 h2 hs) fun σ H Q => ?_
  rintro ⟨rho, env, M, R, E, h⟩
  simp only [evEs] at h
  refine ⟨rho, env, M, R, E, h.bind fun d M1 rho1 H1 v x1 R1 r1 h1 => ?_⟩
  refine ⟨rho1, env, M1, R1, E.ext R x1, h1.bind fun ds M2 rho2 H2 vs x2 R2 r2 h2 => ?_⟩
  refine h2.ok R2 ?_
  rw [RDs]
  exact ⟨v, vs, rfl, RD.ext R1 x2 _ _ r1, r2⟩

theorem evEs_len : ∀ {is : List IE} {env : Env} {M M1 : Store} {ds : List D}, evEs cal is env M = .ok ds M1 → ds.length = is.length
  | [], _, _, _, _, h => by
    simp only [evEs] at h
    cases h; rfl
  | i :: is, env, M, M1, ds, h => by
    simp only [evEs] at h
    cases e : evE cal i env M with
    | ok d M2 =>
      rw [e, Res.bind_ok] at h
      cases e2 : evEs cal is env M2 with
      | ok ds2 M3 =>
        rw [e2, Res.bind_ok] at h
        cases h
        rw [List.length_cons, List.length_cons, evEs_len e2]
      | exc c m => rw [e2, Res.bind_exc] at h; cases h
      | bad => rw [e2, Res.bind_bad] at h; cases h
    | exc c m => rw [e, Res.bind_exc] at h; cases h
    | bad => rw [e, Res.bind_bad] at h; cases h

theorem line_eq : line = sizeLine := by rw [sizeLine_eq]; rfl
theorem small_line {n : Nat} (h : n ≤ 1000) : n ≤ sizeLine := by rw [sizeLine_eq]; omega

theorem Rel.tupNew {K : PySem.W.Frag} {rho : List Addr} {M : Store} {H : Hp} {p : Addr} {ds : List D} {vs : List V} (R : Rel K rho M H) (hp : H p = none) (r : RDs K rho H ds vs) :
    Ext rho H rho (upd H p (.tup vs)) ∧ Rel K rho M (upd H p (.tup vs)) ∧ RD K rho (upd H p (.tup vs)) (.tup ds) (.ref p) := by
  refine ⟨ext_aside hp, R.aside hp, ?_⟩
  rw [RD]
  exact ⟨p, vs, rfl, .inl (.inl upd_same), RDs.ext R (ext_aside hp) _ _ r⟩
theorem Rel.lstNew {K : PySem.W.Frag} {rho : List Addr} {M : Store} {H : Hp} {p : Addr} {ds : List D} {vs : List V} (R : Rel K rho M H) (hp : H p = none) (r : RDs K rho H ds vs) :
    Ext rho H (rho ++ [p]) (upd H p (.lst vs)) ∧ Rel K (rho ++ [p]) (M ++ [.lst ds]) (upd H p (.lst vs)) ∧ RD K (rho ++ [p]) (upd H p (.lst vs)) (.ref M.length) (.ref p) := by
  refine ⟨ext_new hp, R.newL hp r, ?_⟩
  rw [RD]
  exact ⟨p, by rw [← R.len]; simp, rfl⟩

theorem de_tup {es : List Expr} {is : List IE} {k : Nat} (h : DA X W cl es (evEs cal is)) (hl : is.length ≤ 1000) : DE X W cl (.Tuple es k pos) (evE cal (.tup is)) := by
  refine peImp (pe_tup h) fun σ H Q => ?_
  rintro ⟨rho, env, M, R, E, h⟩
  simp only [evE] at h
  refine ⟨rho, env, M, R, E, ?_⟩
  cases e : evEs cal is env M with
  | ok ds M1 =>
    rw [e, Res.bind_ok] at h
    intro rho1 H1 vs x1 R1 r1
    refine ⟨by rw [r1.length, evEs_len e]; exact small_line hl, fun p hp => ?_⟩
    obtain ⟨x2, R2, r2⟩ := R1.tupNew hp r1
    exact h.okTo (x1.trans x2) R2 r2
  | exc c m => rw [e] at h; exact h
  | bad => rw [e] at h; exact h
theorem de_lst {es : List Expr} {is : List IE} (h : DA X W cl es (evEs cal is)) (hl : is.length ≤ 1000) : DE X W cl (.List es pos) (evE cal (.lst is)) := by
  refine peImp (pe_lst h) fun σ H Q => ?_
  rintro ⟨rho, env, M, R, E, h⟩
  simp only [evE] at h
  refine ⟨rho, env, M, R, E, ?_⟩
  cases e : evEs cal is env M with
  | ok ds M1 =>
    rw [e, Res.bind_ok] at h
    intro rho1 H1 vs x1 R1 r1
    refine ⟨by rw [r1.length, evEs_len e]; exact small_line hl, fun p hp => ?_⟩
    obtain ⟨x2, R2, r2⟩ := R1.lstNew hp r1
    exact h.okTo (x1.trans x2) R2 r2
  | exc c m => rw [e] at h; exact h
  | bad => rw [e] at h; exact h

/-- two expressions, and what is made of their values -/
theorem de_two {a b e : Expr} {i j : IE} {r : R2} {g : D → D → Store → Res D} (he : PE X e (tOp r (tD X.K W cl (evE cal i)) (tD X.K W cl (evE cal j))))
    (hg : ∀ (x y : D) (M : Store) (rho : List Addr) (H : Hp) (v u : V) (σ : L2.St) (Q : VK), Rel X.K rho M H → RD X.K rho H x v → RD X.K rho H y u → Post X.K W cl (RD X.K) σ rho H (g x y M) Q → r v u H Q) :
    DE X W cl e (fun env M => (evE cal i env M).bind fun x M1 => (evE cal j env M1).bind fun y M2 => g x y M2) := by
  refine peImp he fun σ H Q => ?_
  rintro ⟨rho, env, M, R, E, h⟩
  refine ⟨rho, env, M, R, E, h.bind fun d M1 rho1 H1 v x1 R1 r1 h1 => ?_⟩
  refine ⟨rho1, env, M1, R1, E.ext R x1, h1.bind fun ds M2 rho2 H2 vs x2 R2 r2 h2 => ?_⟩
  exact hg _ _ _ _ _ _ _ _ _ R2 (RD.ext R1 x2 _ _ r1) r2 h2
/-- the same as a test -/
theorem dt_two {e : Expr} {i j : IE} {r : R2} {g : D → D → Store → Res D} (he : PT X e (tTest (tOp r (tD X.K W cl (evE cal i)) (tD X.K W cl (evE cal j)))))
    (hg : ∀ (x y : D) (M : Store) (rho : List Addr) (H : Hp) (v u : V) (σ : L2.St) (Q : VK), Rel X.K rho M H → RD X.K rho H x v → RD X.K rho H y u → Post X.K W cl (RD X.K) σ rho H (g x y M) Q → r v u H Q) :
    DT X W cl e (fun env M => ((evE cal i env M).bind fun x M1 => (evE cal j env M1).bind fun y M2 => g x y M2).bind fun d m => match d with
      | .bl b => .ok b m
      | _ => .bad) := by
  refine ptImp he fun σ H Q => ?_
  rintro ⟨rho, env, M, R, E, h⟩
  show ∃ rho env M, _
  have h0 : Post X.K W cl (RD X.K) σ rho H ((evE cal i env M).bind fun x M1 => (evE cal j env M1).bind fun y M2 => g x y M2) (fun x H' => ∃ k, x = .bl k ∧ Q k H') :=
    h.bind fun d M1 rho1 H1 v x1 R1 r1 h1 => by
      cases d with
      | bl b =>
        rw [RD] at r1
        subst r1
        exact ⟨b, rfl, h1.ok R1 rfl⟩
      | _ => exact h1.elim
  refine ⟨rho, env, M, R, E, h0.bind fun d M1 rho1 H1 v x1 R1 r1 h1 => ?_⟩
  refine ⟨rho1, env, M1, R1, E.ext R x1, h1.bind fun ds M2 rho2 H2 vs x2 R2 r2 h2 => ?_⟩
  exact hg _ _ _ _ _ _ _ _ _ R2 (RD.ext R1 x2 _ _ r1) r2 h2
/-- a plain expression as a test -/
theorem dt_val {e : Expr} {f : Env → Store → Res D} (h : DE X W cl e f) (he : ∀ whole, isTrue e X.env whole = (do let v ← whole; standAt e.pos; holding [v] (truthy v))) :
    DT X W cl e (fun env M => (f env M).bind fun d m => match d with
      | .bl b => .ok b m
      | _ => .bad) := by
  refine ptImp (pt_val h he) fun σ H Q => ?_
  rintro ⟨rho, env, M, R, E, h⟩
  refine ⟨rho, env, M, R, E, h.bind fun d M1 rho1 H1 v x1 R1 r1 h1 => ?_⟩
  cases d with
  | bl b =>
    rw [RD] at r1
    subst r1
    exact ⟨b, rfl, h1.ok R1 rfl⟩
  | _ => exact h1.elim
end
end DV

/-! DvOps: operators, comparisons, subscripts. -/
namespace DV
open PySem PySem.Spec PyProof.Rows L2

section
variable {K : PySem.W.Frag} {rho : List Addr} {H : Hp} {M : Store}
theorem rd_non {v : V} (h : RD K rho H .non v) : v = .non := by rw [RD] at h; exact h
theorem rd_bl {v : V} {b : Bool} (h : RD K rho H (.bl b) v) : v = .bl b := by rw [RD] at h; exact h
theorem rd_int {v : V} {i : Int} (h : RD K rho H (.int i) v) : v = .int i := by rw [RD] at h; exact h
theorem rd_str {v : V} {s : Str} (h : RD K rho H (.str s) v) : v = .str s := by rw [RD] at h; exact h
theorem rd_tup {v : V} {ds : List D} (h : RD K rho H (.tup ds) v) : ∃ a vs, v = .ref a ∧ SqT K H a vs ∧ RDs K rho H ds vs := by rw [RD] at h; exact h
theorem rd_rol {v : V} {ds : List D} (h : RD K rho H (.rol ds) v) : ∃ a vs, v = .ref a ∧ SqR K H a vs ∧ RDs K rho H ds vs := by rw [RD] at h; exact h
theorem rd_ref {v : V} {n : Nat} (h : RD K rho H (.ref n) v) : ∃ a, rho[n]? = some a ∧ v = .ref a := by rw [RD] at h; exact h
theorem Rel.lst (R : Rel K rho M H) {n : Nat} {ds : List D} {a : Addr} (e : M[n]? = some (.lst ds)) (ha : rho[n]? = some a) : ∃ vs, H a = some (.lst vs) ∧ RDs K rho H ds vs := R.ro n _ a e ha
/-- a list or a tuple -/
theorem Rel.seq (R : Rel K rho M H) {d : D} {v : V} {ds : List D} (r : RD K rho H d v) (e : items d M = some ds) : ∃ a vs, v = .ref a ∧ (SqL K H a vs ∨ SqT K H a vs) ∧ RDs K rho H ds vs := by
  cases d with
  | tup xs =>
    obtain ⟨a, vs, rfl, h, hs⟩ := rd_tup r
    simp only [items, Option.some.injEq] at e
    subst e
    exact ⟨a, vs, rfl, .inr h, hs⟩
  | rol xs =>
    obtain ⟨a, vs, rfl, h, hs⟩ := rd_rol r
    simp only [items, Option.some.injEq] at e
    subst e
    exact ⟨a, vs, rfl, .inl h.l, hs⟩
  | ref n =>
    obtain ⟨a, ha, rfl⟩ := rd_ref r
    simp only [items] at e
    split at e
    · rename_i xs q
      cases e
      obtain ⟨vs, h, hs⟩ := R.lst q ha
      exact ⟨a, vs, rfl, .inl (.of h), hs⟩
    · cases e
  | _ => simp [items] at e
end

/-! ### + - * // % ** -/
section
variable {X : Cx} {W : WX} {cl : Str → Addr}
/-- what the operator asks -/
def HopOk (X : Cx) (W : WX) (cl : Str → Addr) (r : R2) (g : D → D → Store → Res D) : Prop :=
  ∀ (x y : D) (M : Store) (rho : List Addr) (H : Hp) (v u : V) (σ : L2.St) (Q : VK), Rel X.K rho M H → RD X.K rho H x v → RD X.K rho H y u → Post X.K W cl (RD X.K) σ rho H (g x y M) Q → r v u H Q
def rAddD (K : PySem.W.Frag) : R2 := fun x y H Q => ((((∃ i j, x = .int i ∧ y = .int j ∧ Q (.int (i + j)) H) ∨ (∃ i j, x = .str i ∧ y = .str j ∧ i.length + j.length ≤ sizeLine ∧ Q (.str (i ++ j)) H)) ∨ rCatA K x y H Q) ∨ rCat x y H Q)
theorem op_addD : OpR X (binaryOp .Add) (rAddD X.K) := ((op_add.or op_add_str).or op_catA).or op_cat
theorem hop_add : HopOk X W cl (rAddD X.K) (binOp .add) := by
  intro x y M rho H v u σ Q R rx ry h
  unfold binOp at h
  split at h
  · cases rd_int rx; cases rd_int ry
    exact .inl (.inl (.inl ⟨_, _, rfl, rfl, h.ok R (by rw [RD])⟩))
  · cases rd_str rx; cases rd_str ry
    split at h
    · rename_i hz
      exact .inl (.inl (.inr ⟨_, _, rfl, rfl, by rw [← line_eq]; exact hz, h.ok R (by rw [RD])⟩))
    · exact h.elim
  · rename_i xs ys _
    obtain ⟨a, vs, rfl, ha, hs⟩ := rd_tup rx
    obtain ⟨b, us, rfl, hb, hu⟩ := rd_tup ry
    split at h
    · rename_i hz
      refine .inl (.inr ⟨a, b, vs, us, rfl, rfl, ha, hb, by rw [hs.length, hu.length, ← line_eq]; exact hz, fun e => ?_, fun e1 e2 => ?_, fun e1 e2 p hp => ?_⟩)
      · refine h.ok R ?_
        have e3 : xs = [] := by have := hs.length; rw [e] at this; exact List.length_eq_zero_iff.mp this.symm
        rw [e3, List.nil_append, RD]
        exact ⟨b, us, rfl, hb, hu⟩
      · refine h.ok R ?_
        have e3 : ys = [] := by have := hu.length; rw [e2] at this; exact List.length_eq_zero_iff.mp this.symm
        rw [e3, List.append_nil, RD]
        exact ⟨a, vs, rfl, ha, hs⟩
      · obtain ⟨x2, R2, r2⟩ := R.tupNew hp (hs.append hu)
        exact h.okTo x2 R2 r2
    · exact h.elim
  · obtain ⟨a, ha, rfl⟩ := rd_ref rx
    obtain ⟨b, hb, rfl⟩ := rd_ref ry
    split at h
    · rename_i e1 e2
      obtain ⟨vs, h1, hs⟩ := R.lst e1 ha
      obtain ⟨us, h2, hu⟩ := R.lst e2 hb
      split at h
      · rename_i hz
        refine .inr ⟨a, b, vs, us, rfl, rfl, h1, h2, by rw [hs.length, hu.length, ← line_eq]; exact hz, fun p hp => ?_⟩
        obtain ⟨x2, R2, r2⟩ := R.lstNew hp (hs.append hu)
        exact h.okTo x2 R2 r2
      · exact h.elim
    · exact h.elim
  all_goals first | exact h.elim | (simp at *; done)
theorem hop_sub : HopOk X W cl (rI0 fun i j => .int (i - j)) (binOp .sub) := by
  intro x y M rho H v u σ Q R rx ry h
  unfold binOp at h
  split at h <;> first | contradiction | skip
  all_goals first
    | exact h.elim
    | (cases rd_int rx; cases rd_int ry; exact ⟨_, _, rfl, rfl, h.ok R (by rw [RD])⟩)
theorem hop_mod : HopOk X W cl (rI (fun _ j => 0 < j) fun i j => .int (i % j)) (binOp .mod) := by
  intro x y M rho H v u σ Q R rx ry h
  unfold binOp at h
  split at h <;> first | contradiction | skip
  all_goals first
    | exact h.elim
    | (cases rd_int rx; cases rd_int ry
       split at h
       · rename_i hz
         exact ⟨_, _, rfl, rfl, hz, h.ok R (by rw [RD])⟩
       · exact h.elim)
theorem hop_fdiv : HopOk X W cl (rI CDiv fun i j => .int (i / j)) (binOp .fdiv) := by
  intro x y M rho H v u σ Q R rx ry h
  unfold binOp at h
  split at h <;> first | contradiction | skip
  all_goals first
    | exact h.elim
    | (cases rd_int rx; cases rd_int ry
       split at h
       · rename_i hz
         exact ⟨_, _, rfl, rfl, hz, h.ok R (by rw [RD])⟩
       · exact h.elim)
theorem hop_pow : HopOk X W cl (rI CPow fun i j => .int (i ^ j.toNat)) (binOp .pow) := by
  intro x y M rho H v u σ Q R rx ry h
  unfold binOp at h
  split at h <;> first | contradiction | skip
  all_goals first
    | exact h.elim
    | (cases rd_int rx; cases rd_int ry
       split at h
       · rename_i hz
         exact ⟨_, _, rfl, rfl, hz, h.ok R (by rw [RD])⟩
       · exact h.elim)
theorem RDs.rep {K : PySem.W.Frag} {rho : List Addr} {H : Hp} {ds : List D} {vs : List V} (h : RDs K rho H ds vs) : ∀ k : Nat, RDs K rho H (List.replicate k ds).flatten (List.replicate k vs).flatten
  | 0 => by simp [RDs]
  | k + 1 => by
    rw [List.replicate_succ, List.replicate_succ, List.flatten_cons, List.flatten_cons]
    exact h.append (RDs.rep h k)
def rMulD (K : PySem.W.Frag) : R2 := fun x y H Q => (rI CMul (fun i j => .int (i * j)) x y H Q ∨ rRepT K x y H Q) ∨ rRep x y H Q
theorem op_mulD : OpR X (binaryOp .Mult) (rMulD X.K) := (op_mul.or op_repT).or op_rep
theorem hop_mul : HopOk X W cl (rMulD X.K) (binOp .mul) := by
  intro x y M rho H v u σ Q R rx ry h
  unfold binOp at h
  split at h <;> first | contradiction | skip
  · cases rd_int rx; cases rd_int ry
    split at h
    · rename_i hz
      exact .inl (.inl ⟨_, _, rfl, rfl, hz, h.ok R (by rw [RD])⟩)
    · exact h.elim
  · obtain ⟨a, vs, rfl, ha, hs⟩ := rd_tup rx
    cases rd_int ry
    split at h
    · rename_i hz
      obtain ⟨h1, h2, h3, h4⟩ := hz
      refine .inl (.inr ⟨a, _, vs, rfl, rfl, ha, fun e => h3 ?_, h1, h2, by rw [hs.length]; exact h4, fun p hp => ?_⟩)
      · have := hs.length
        rw [e] at this
        exact List.length_eq_zero_iff.mp this.symm
      · obtain ⟨x2, R2, r2⟩ := R.tupNew hp (hs.rep _)
        exact h.okTo x2 R2 r2
    · exact h.elim
  · obtain ⟨a, ha, rfl⟩ := rd_ref rx
    cases rd_int ry
    split at h
    · rename_i e1
      obtain ⟨vs, h1, hs⟩ := R.lst e1 ha
      split at h
      · rename_i hz
        obtain ⟨z1, z2, z3⟩ := hz
        refine .inr ⟨a, _, vs, rfl, rfl, h1, by omega, by omega, by rw [hs.length, ← line_eq]; exact z3, fun p hp => ?_⟩
        obtain ⟨x2, R2, r2⟩ := R.lstNew hp (hs.rep _)
        exact h.okTo x2 R2 r2
      · exact h.elim
    · exact h.elim
end

/-! ### == and the like -/
section
variable {K : PySem.W.Frag} {rho : List Addr} {H : Hp} {M : Store}
theorem strOk_py {s : Str} (h : PyData.strOk s = true) : PyData.canLay0 (.str s) = true := by rw [PyData.canLay0]; exact h
mutual
theorem D.flat_py : ∀ (k : Nat) (d : D), D.flat k d = true → (D.toPy d).canLay0 = true ∧ (D.toPy d).depth ≤ k
  | k, .non, _ => by simp [D.toPy, PyData.canLay0, PyData.depth]
  | k, .bl _, _ => by simp [D.toPy, PyData.canLay0, PyData.depth]
  | k, .int _, _ => by simp [D.toPy, PyData.canLay0, PyData.depth]
  | k, .str s, h => by
    rw [D.flat] at h
    rw [D.toPy]
    exact ⟨strOk_py h, by simp [PyData.depth]⟩
  | 0, .tup xs, h => by simp [D.flat] at h
  | k + 1, .tup xs, h => by
    have h' : D.flatAll k xs = true := by simpa [D.flat] using h
    obtain ⟨h1, h2⟩ := D.flatAll_py k xs h'
    rw [D.toPy]
    refine ⟨by rw [PyData.canLay0]; exact h1, by rw [PyData.depth]; exact Nat.succ_le_succ h2⟩
  | k, .rol xs, h => by simp [D.flat] at h
  | k, .ref n, h => by simp [D.flat] at h
theorem D.flatAll_py : ∀ (k : Nat) (ds : List D), D.flatAll k ds = true → PyData.canLayAll0 (D.toPys ds) = true ∧ PyData.depthAll (D.toPys ds) ≤ k
  | k, [], _ => by simp [D.toPys, PyData.canLayAll0, PyData.depthAll]
  | k, d :: ds, h => by
    rw [D.flatAll, Bool.and_eq_true] at h
    obtain ⟨a1, a2⟩ := D.flat_py k d h.1
    obtain ⟨b1, b2⟩ := D.flatAll_py k ds h.2
    rw [D.toPys]
    refine ⟨by rw [PyData.canLayAll0, a1, b1]; rfl, by rw [PyData.depthAll]; exact Nat.max_le.mpr ⟨a2, b2⟩⟩
end
theorem D.ok_shaped {d : D} (h : D.ok d = true) : SeqAt.shaped (D.toPy d) = true := by
  obtain ⟨h1, h2⟩ := D.flat_py 8 d h
  unfold SeqAt.shaped
  rw [h1, Bool.true_and, decide_eq_true_eq]
  omega
theorem D.okAll_shaped {ds : List D} (h : D.okAll ds = true) : SeqAt.shaped (.list (D.toPys ds)) = true := by
  obtain ⟨h1, h2⟩ := D.flatAll_py 8 ds h
  unfold SeqAt.shaped
  rw [PyData.canLay0, h1, Bool.true_and, decide_eq_true_eq, PyData.depth]
  omega
theorem D.okAll_shapedT {ds : List D} (h : D.okAll ds = true) : SeqAt.shaped (.tuple (D.toPys ds)) = true := by
  obtain ⟨h1, h2⟩ := D.flatAll_py 8 ds h
  unfold SeqAt.shaped
  rw [PyData.canLay0, h1, Bool.true_and, decide_eq_true_eq, PyData.depth]
  omega
mutual
theorem RD.dp : ∀ (k : Nat) (d : D) (v : V), D.flat k d = true → RD K rho H d v → Dp K H v (D.toPy d)
  | k, .non, v, _, r => by cases rd_non r; rw [D.toPy]; exact .non
  | k, .bl b, v, _, r => by cases rd_bl r; rw [D.toPy]; exact .bl b
  | k, .int b, v, _, r => by cases rd_int r; rw [D.toPy]; exact .int b
  | k, .str b, v, _, r => by cases rd_str r; rw [D.toPy]; exact .str b
  | 0, .tup xs, v, h, _ => by simp [D.flat] at h
  | k + 1, .tup xs, v, h, r => by
    obtain ⟨a, vs, rfl, ht, hs⟩ := rd_tup r
    rw [D.toPy]
    exact .tup ht (RDs.dp k xs vs (by simpa [D.flat] using h) hs)
  | k, .rol xs, v, h, _ => by simp [D.flat] at h
  | k, .ref n, v, h, _ => by simp [D.flat] at h
theorem RDs.dp : ∀ (k : Nat) (ds : List D) (vs : List V), D.flatAll k ds = true → RDs K rho H ds vs → DpAll K H vs (D.toPys ds)
  | k, [], vs, _, r => by rw [RDs] at r; subst r; rw [D.toPys]; exact .nil
  | k, d :: ds, vs, h, r => by
    rw [RDs] at r
    obtain ⟨v, u, rfl, r1, r2⟩ := r
    rw [D.flatAll, Bool.and_eq_true] at h
    rw [D.toPys]
    exact .cons (RD.dp k d v h.1 r1) (RDs.dp k ds u h.2 r2)
end
/-- what == is asked of -/
theorem peq_dp {x y : D} {v u : V} {b : Bool} (R : Rel K rho M H) (rx : RD K rho H x v) (ry : RD K rho H y u) (h : peq x y M = some b) :
    ∃ d e, Dp K H v d ∧ Dp K H u e ∧ SeqAt.shaped d = true ∧ SeqAt.shaped e = true ∧ PyData.eqv d e = b := by
  unfold peq at h
  split at h
  · split at h
    · rename_i n k xs ys e1 e2
      split at h
      · rename_i hz
        rw [Bool.and_eq_true] at hz
        cases h
        have lst : ∀ {n : Nat} {v : V} {xs : List D}, RD K rho H (.ref n) v → items (.ref n) M = some xs → D.okAll xs = true → Dp K H v (.list (D.toPys xs)) := fun {n v xs} r e z => by
          obtain ⟨a, ha, rfl⟩ := rd_ref r
          simp only [items] at e
          split at e
          · rename_i ws q
            cases e
            obtain ⟨vs, h1, hs⟩ := R.lst q ha
            exact .lst (.of h1) (RDs.dp 8 _ _ z hs)
          · cases e
        exact ⟨_, _, lst rx e1 hz.1, lst ry e2 hz.2, D.okAll_shaped hz.1, D.okAll_shaped hz.2, by rw [PyData.eqv]⟩
      · cases h
    · cases h
  · split at h
    · rename_i hz
      rw [Bool.and_eq_true] at hz
      cases h
      exact ⟨_, _, RD.dp 8 _ _ hz.1 rx, RD.dp 8 _ _ hz.2 ry, D.ok_shaped hz.1, D.ok_shaped hz.2, rfl⟩
    · cases h
theorem any_isIn (x : D) : ∀ ys : List D, ((D.toPys ys).any fun z => PyData.eqv z (D.toPy x)) = isIn x ys
  | [] => rfl
  | y :: ys => by
    rw [D.toPys, List.any_cons, any_isIn x ys]
    rfl
end

section
variable {X : Cx} {W : WX} {cl : Str → Addr}
theorem op_eqS (hu : X.A.units + 64 < cLine) : OpR X (compareOp .Eq) (fun x y H Q => rEq x y H Q ∨ rEqD X.K x y H Q) := op_eq.or (op_eqD hu)
theorem op_neS (hu : X.A.units + 64 < cLine) : OpR X (compareOp .NotEq) (fun x y H Q => rNe x y H Q ∨ rNeD X.K x y H Q) := op_ne.or (op_neD hu)
theorem hop_eq : HopOk X W cl (fun x y H Q => rEq x y H Q ∨ rEqD X.K x y H Q) (cmpOp .eq) := by
  intro x y M rho H v u σ Q R rx ry h
  unfold cmpOp at h
  split at h <;> first | contradiction | skip
  · cases rd_str rx; cases rd_str ry
    refine .inl ⟨rfl, h.ok R ?_⟩
    rw [RD]
    congr 1
    exact decide_eq_decide.mpr ⟨fun z => V.str.inj z, fun z => by rw [z]⟩
  · cases rd_int rx; cases rd_int ry
    refine .inl ⟨rfl, h.ok R ?_⟩
    rw [RD]
    congr 1
    exact decide_eq_decide.mpr ⟨fun z => V.int.inj z, fun z => by rw [z]⟩
  · split at h
    · rename_i b hb
      obtain ⟨d, e, h1, h2, h3, h4, h5⟩ := peq_dp R rx ry hb
      exact .inr ⟨d, e, h1, h2, h3, h4, h.ok R (by rw [RD, h5])⟩
    · exact h.elim
theorem hop_ne : HopOk X W cl (fun x y H Q => rNe x y H Q ∨ rNeD X.K x y H Q) (cmpOp .ne) := by
  intro x y M rho H v u σ Q R rx ry h
  unfold cmpOp at h
  split at h <;> first | contradiction | skip
  · cases rd_str rx; cases rd_str ry
    refine .inl ⟨rfl, h.ok R ?_⟩
    rw [RD]
    congr 2
    exact decide_eq_decide.mpr ⟨fun z => V.str.inj z, fun z => by rw [z]⟩
  · cases rd_int rx; cases rd_int ry
    refine .inl ⟨rfl, h.ok R ?_⟩
    rw [RD]
    congr 2
    exact decide_eq_decide.mpr ⟨fun z => V.int.inj z, fun z => by rw [z]⟩
  · split at h
    · rename_i b hb
      obtain ⟨d, e, h1, h2, h3, h4, h5⟩ := peq_dp R rx ry hb
      exact .inr ⟨d, e, h1, h2, h3, h4, h.ok R (by rw [RD, h5])⟩
    · exact h.elim
theorem hop_lt : HopOk X W cl (rI0 fun i j => .bl (decide (i < j))) (cmpOp .lt) := by
  intro x y M rho H v u σ Q R rx ry h
  unfold cmpOp at h
  split at h <;> first | contradiction | skip
  all_goals first
    | exact h.elim
    | (cases rd_int rx; cases rd_int ry; exact ⟨_, _, rfl, rfl, h.ok R (by rw [RD])⟩)
theorem hop_le : HopOk X W cl (rI0 fun i j => .bl (decide (i ≤ j))) (cmpOp .le) := by
  intro x y M rho H v u σ Q R rx ry h
  unfold cmpOp at h
  split at h <;> first | contradiction | skip
  all_goals first
    | exact h.elim
    | (cases rd_int rx; cases rd_int ry; exact ⟨_, _, rfl, rfl, h.ok R (by rw [RD])⟩)
theorem hop_gt : HopOk X W cl (rI0 fun i j => .bl (decide (j < i))) (cmpOp .gt) := by
  intro x y M rho H v u σ Q R rx ry h
  unfold cmpOp at h
  split at h <;> first | contradiction | skip
  all_goals first
    | exact h.elim
    | (cases rd_int rx; cases rd_int ry; exact ⟨_, _, rfl, rfl, h.ok R (by rw [RD])⟩)
theorem hop_ge : HopOk X W cl (rI0 fun i j => .bl (decide (j ≤ i))) (cmpOp .ge) := by
  intro x y M rho H v u σ Q R rx ry h
  unfold cmpOp at h
  split at h <;> first | contradiction | skip
  all_goals first
    | exact h.elim
    | (cases rd_int rx; cases rd_int ry; exact ⟨_, _, rfl, rfl, h.ok R (by rw [RD])⟩)
theorem RD.nonIff {K : PySem.W.Frag} {rho : List Addr} {H : Hp} {x : D} {v : V} (r : RD K rho H x v) : decide (v = .non) = decide (x = .non) := by
  cases x with
  | non => cases rd_non r; rfl
  | bl b => cases rd_bl r; rfl
  | int b => cases rd_int r; rfl
  | str b => cases rd_str r; rfl
  | tup b => obtain ⟨a, vs, rfl, _⟩ := rd_tup r; rfl
  | rol b => obtain ⟨a, vs, rfl, _⟩ := rd_rol r; rfl
  | ref b => obtain ⟨a, _, rfl⟩ := rd_ref r; rfl
theorem hop_is : HopOk X W cl (fun x y H Q => y = .non ∧ Q (.bl (decide (x = .non))) H) (cmpOp .is) := by
  intro x y M rho H v u σ Q R rx ry h
  unfold cmpOp at h
  split at h <;> first | contradiction | skip
  all_goals first
    | exact h.elim
    | (cases rd_non ry; exact ⟨rfl, h.ok R (by rw [RD, rx.nonIff])⟩)
theorem hop_isnot : HopOk X W cl (fun x y H Q => y = .non ∧ Q (.bl (!decide (x = .non))) H) (cmpOp .isnot) := by
  intro x y M rho H v u σ Q R rx ry h
  unfold cmpOp at h
  split at h <;> first | contradiction | skip
  all_goals first
    | exact h.elim
    | (cases rd_non ry; exact ⟨rfl, h.ok R (by rw [RD, rx.nonIff])⟩)

/-! ### x[i] -/
theorem atI_of {α : Type} {xs : List α} {k : Int} {j : Nat} {v : α} (h1 : ixN xs.length k = some j) (h2 : xs[j]? = some v) : atI xs k = some v := by
  unfold atI
  rw [h1]
  exact h2
def rIxD (K : PySem.W.Frag) : R2 := fun x y H Q => rIxL K x y H Q ∨ rIxT K x y H Q
theorem ix_D : IxR X (rIxD X.K) := ix_list.or ix_tup
theorem hop_idx : HopOk X W cl (rIxD X.K) idxOp := by
  intro x y M rho H v u σ Q R rx ry h
  have tl : ∀ {xs : List D} {k : Int} {vs : List V} {a : Addr}, RDs X.K rho H xs vs → (SqL X.K H a vs ∨ SqT X.K H a vs) → Post X.K W cl (RD X.K) σ rho H (match ixN xs.length k with
      | some j => (match xs[j]? with | some v => .ok v M | none => .bad)
      | none => .bad) Q → rIxD X.K (.ref a) (.int k) H Q := fun {xs k vs a} hs ha h => by
    split at h
    · rename_i j e1
      split at h
      · rename_i d e2
        obtain ⟨w, e3, r⟩ := hs.get e2
        have e4 : atI vs k = some w := atI_of (by rw [hs.length]; exact e1) e3
        rcases ha with ha | ha
        · exact .inl ⟨a, vs, k, w, rfl, rfl, ha, e4, h.ok R r⟩
        · exact .inr ⟨a, vs, k, w, rfl, rfl, ha, e4, h.ok R r⟩
      · exact h.elim
    · exact h.elim
  cases x with
  | ref n =>
    obtain ⟨a, ha, rfl⟩ := rd_ref rx
    unfold idxOp at h
    dsimp only at h
    split at h
    · rename_i kvs e2
      exact (R.ro n _ a e2 ha).elim
    · rename_i xs e2
      obtain ⟨vs, h1, hs⟩ := R.lst e2 ha
      split at h
      · cases rd_int ry
        exact tl hs (.inl (.of h1)) h
      · exact h.elim
    · exact h.elim
  | rol xs =>
    obtain ⟨a, vs, rfl, h1, hs⟩ := rd_rol rx
    cases y with
    | int k =>
      cases rd_int ry
      exact tl hs (.inl h1.l) h
    | _ => exact h.elim
  | tup xs =>
    obtain ⟨a, vs, rfl, h1, hs⟩ := rd_tup rx
    cases y with
    | int k =>
      cases rd_int ry
      exact tl hs (.inr h1) h
    | _ => exact h.elim
  | _ => exact h.elim
end
end DV

/-! DvCall: calls of built-ins, of their methods, of the text's own defs. -/
namespace DV
open PySem PySem.Spec PyProof.Rows L2
open PySem.W (EachIs)

section
variable {X : Cx} {W : WX} {cl : Str → Addr} {cal : Callee} {pos p : Pos}
/-- what a built-in's call asks -/
def HcOk (X : Cx) (W : WX) (cl : Str → Addr) (r : List V → Hp → VK → Prop) (g : List D → Store → Res D) : Prop :=
  ∀ (ds : List D) (M : Store) (rho : List Addr) (H : Hp) (vs : List V) (σ : L2.St) (Q : VK), Rel X.K rho M H → RDs X.K rho H ds vs → Post X.K W cl (RD X.K) σ rho H (g ds M) Q → r vs H Q
theorem de_args {e : Expr} {es : List Expr} {is : List IE} {r : List V → Hp → VK → Prop} {g : List D → Store → Res D} (h : PE X e (tCB r (tDs X.K W cl (evEs cal is)))) (hg : HcOk X W cl r g) :
    DE X W cl e (fun env M => (evEs cal is env M).bind fun ds M1 => g ds M1) := by
  refine peImp h fun σ H Q => ?_
  rintro ⟨rho, env, M, R, E, h⟩
  refine ⟨rho, env, M, R, E, h.bind fun ds M1 rho1 H1 vs x1 R1 r1 h1 => ?_⟩
  exact hg _ _ _ _ _ _ _ R1 r1 h1
theorem rds1 {K : PySem.W.Frag} {rho : List Addr} {H : Hp} {d : D} {vs : List V} (h : RDs K rho H [d] vs) : ∃ v, vs = [v] ∧ RD K rho H d v := by
  rw [RDs] at h
  obtain ⟨v, r, rfl, h1, h2⟩ := h
  rw [RDs] at h2
  subst h2
  exact ⟨v, rfl, h1⟩
theorem rds2 {K : PySem.W.Frag} {rho : List Addr} {H : Hp} {d e : D} {vs : List V} (h : RDs K rho H [d, e] vs) : ∃ v u, vs = [v, u] ∧ RD K rho H d v ∧ RD K rho H e u := by
  rw [RDs] at h
  obtain ⟨v, r, rfl, h1, h2⟩ := h
  obtain ⟨u, rfl, h3⟩ := rds1 h2
  exact ⟨v, u, rfl, h1, h3⟩

def rLenD (K : PySem.W.Frag) : List V → Hp → VK → Prop := fun xs H Q => ∃ x n, xs = [x] ∧ LenV K x H n ∧ Q (.int n) H
theorem hc_len : HcOk X W cl (rLenD X.K) (bltOp .len) := by
  intro ds M rho H vs σ Q R r h
  unfold bltOp at h
  split at h <;> first | contradiction | skip
  · obtain ⟨v, rfl, r1⟩ := rds1 r
    obtain ⟨a, us, rfl, h1, hs⟩ := rd_tup r1
    exact ⟨.ref a, us.length, rfl, .inr ⟨us, h1, rfl⟩, h.ok R (by rw [RD, hs.length])⟩
  · obtain ⟨v, rfl, r1⟩ := rds1 r
    cases rd_str r1
    split at h
    · rename_i hz
      exact ⟨_, _, rfl, ⟨by rw [← line_eq]; exact hz, rfl⟩, h.ok R (by rw [RD])⟩
    · exact h.elim
  · obtain ⟨v, rfl, r1⟩ := rds1 r
    obtain ⟨a, us, rfl, h1, hs⟩ := rd_rol r1
    exact ⟨.ref a, us.length, rfl, .inl ⟨us, h1.l, rfl⟩, h.ok R (by rw [RD, hs.length])⟩
  · obtain ⟨v, rfl, r1⟩ := rds1 r
    obtain ⟨a, ha, rfl⟩ := rd_ref r1
    split at h
    · rename_i xs e
      obtain ⟨us, h1, hs⟩ := R.lst e ha
      exact ⟨.ref a, us.length, rfl, .inl ⟨us, .of h1, rfl⟩, h.ok R (by rw [RD, hs.length])⟩
    · rename_i kvs e
      exact (R.ro _ _ a e ha).elim
    · exact h.elim
theorem boolsOf_rd {K : PySem.W.Frag} {rho : List Addr} {H : Hp} : ∀ {xs : List D} {vs : List V} {bs : List Bool}, RDs K rho H xs vs → boolsOf xs = some bs → vs = bs.map V.bl
  | [], vs, bs, r, e => by
    rw [RDs] at r
    simp [boolsOf] at e
    subst e; subst r; rfl
  | d :: xs, vs, bs, r, e => by
    rw [RDs] at r
    obtain ⟨v, u, rfl, r1, r2⟩ := r
    cases d with
    | bl b =>
      simp only [boolsOf, Option.map_eq_some_iff] at e
      obtain ⟨cs, e1, rfl⟩ := e
      rw [boolsOf_rd r2 e1, rd_bl r1]
      rfl
    | _ => simp [boolsOf] at e
theorem intsOf_rd {K : PySem.W.Frag} {rho : List Addr} {H : Hp} : ∀ {xs : List D} {vs : List V} {bs : List Int}, RDs K rho H xs vs → intsOf xs = some bs → vs = bs.map V.int
  | [], vs, bs, r, e => by
    rw [RDs] at r
    simp [intsOf] at e
    subst e; subst r; rfl
  | d :: xs, vs, bs, r, e => by
    rw [RDs] at r
    obtain ⟨v, u, rfl, r1, r2⟩ := r
    cases d with
    | int b =>
      simp only [intsOf, Option.map_eq_some_iff] at e
      obtain ⟨cs, e1, rfl⟩ := e
      rw [intsOf_rd r2 e1, rd_int r1]
      rfl
    | _ => simp [intsOf] at e
theorem hc_all : HcOk X W cl (rAll X.K) (bltOp .all) := by
  intro ds M rho H vs σ Q R r h
  unfold bltOp at h
  split at h <;> first | contradiction | skip
  · split at h
    · rename_i n xs e
      obtain ⟨v, rfl, r1⟩ := rds1 r
      obtain ⟨a, ha, rfl⟩ := rd_ref r1
      obtain ⟨us, h1, hs⟩ := R.lst e ha
      split at h
      · rename_i bs eb
        exact ⟨a, bs, rfl, .of (by rw [← boolsOf_rd hs eb]; exact h1), h.ok R (by rw [RD])⟩
      · exact h.elim
    · exact h.elim
theorem hc_any : HcOk X W cl (rAny X.K) (bltOp .any) := by
  intro ds M rho H vs σ Q R r h
  unfold bltOp at h
  split at h <;> first | contradiction | skip
  · split at h
    · rename_i n xs e
      obtain ⟨v, rfl, r1⟩ := rds1 r
      obtain ⟨a, ha, rfl⟩ := rd_ref r1
      obtain ⟨us, h1, hs⟩ := R.lst e ha
      split at h
      · rename_i bs eb
        exact ⟨a, bs, rfl, .of (by rw [← boolsOf_rd hs eb]; exact h1), h.ok R (by rw [RD])⟩
      · exact h.elim
    · exact h.elim
theorem hc_tuple : HcOk X W cl (fun xs H Q => ∃ p ys, xs = [.ref p] ∧ ((SqL X.K H p ys ∧ ∀ l, H l = none → Q (.ref l) (upd H l (.tup ys))) ∨ (SqT X.K H p ys ∧ Q (.ref p) H))) (bltOp .tuple) := by
  intro ds M rho H vs σ Q R r h
  unfold bltOp at h
  split at h <;> first | contradiction | skip
  · obtain ⟨v, rfl, r1⟩ := rds1 r
    obtain ⟨a, us, rfl, h1, hs⟩ := rd_tup r1
    exact ⟨a, us, rfl, .inr ⟨h1, h.ok R r1⟩⟩
  · split at h
    · rename_i n xs e
      obtain ⟨v, rfl, r1⟩ := rds1 r
      obtain ⟨a, ha, rfl⟩ := rd_ref r1
      obtain ⟨us, h1, hs⟩ := R.lst e ha
      refine ⟨a, us, rfl, .inl ⟨.of h1, fun l hl => ?_⟩⟩
      obtain ⟨x2, R2, r2⟩ := R.tupNew hl hs
      exact h.okTo x2 R2 r2
    · exact h.elim
theorem hc_list : HcOk X W cl (fun xs H Q => ∃ p ys, xs = [.ref p] ∧ (SqL X.K H p ys ∨ SqT X.K H p ys) ∧ ∀ l, H l = none → Q (.ref l) (upd H l (.lst ys))) (bltOp .list) := by
  intro ds M rho H vs σ Q R r h
  unfold bltOp at h
  split at h <;> first | contradiction | skip
  · split at h
    · rename_i xs e
      obtain ⟨v, rfl, r1⟩ := rds1 r
      obtain ⟨a, us, rfl, ha, hs⟩ := R.seq r1 e
      refine ⟨a, us, rfl, ha, fun l hl => ?_⟩
      obtain ⟨x2, R2, r2⟩ := R.lstNew hl hs
      exact h.okTo x2 R2 r2
    · exact h.elim
theorem hc_max2 : HcOk X W cl (fun xs H Q => ∃ i j, xs = [.int i, .int j] ∧ Q (.int (if j > i then j else i)) H) (bltOp .max2) := by
  intro ds M rho H vs σ Q R r h
  unfold bltOp at h
  split at h <;> first | contradiction | skip
  · obtain ⟨v, u, rfl, r1, r2⟩ := rds2 r
    cases rd_int r1; cases rd_int r2
    exact ⟨_, _, rfl, h.ok R (by rw [RD])⟩
theorem hc_min2 : HcOk X W cl (fun xs H Q => ∃ i j, xs = [.int i, .int j] ∧ Q (.int (if j < i then j else i)) H) (bltOp .min2) := by
  intro ds M rho H vs σ Q R r h
  unfold bltOp at h
  split at h <;> first | contradiction | skip
  · obtain ⟨v, u, rfl, r1, r2⟩ := rds2 r
    cases rd_int r1; cases rd_int r2
    exact ⟨_, _, rfl, h.ok R (by rw [RD])⟩
theorem hc_abs : HcOk X W cl (fun xs H Q => ∃ i, xs = [.int i] ∧ Q (.int (if i < 0 then -i else i)) H) (bltOp .abs) := by
  intro ds M rho H vs σ Q R r h
  unfold bltOp at h
  split at h <;> first | contradiction | skip
  · obtain ⟨v, rfl, r1⟩ := rds1 r
    cases rd_int r1
    exact ⟨_, rfl, h.ok R (by rw [RD])⟩
theorem hc_sum : HcOk X W cl (rSum X.K) (bltOp .sum) := by
  intro ds M rho H vs σ Q R r h
  unfold bltOp at h
  split at h <;> first | contradiction | skip
  · split at h
    · rename_i is ei
      obtain ⟨v, rfl, r1⟩ := rds1 r
      obtain ⟨a, us, rfl, h1, hs⟩ := rd_rol r1
      exact ⟨a, is, rfl, by rw [← intsOf_rd hs ei]; exact h1.l, h.ok R (by rw [RD])⟩
    · exact h.elim
  · split at h
    · rename_i n xs e
      obtain ⟨v, rfl, r1⟩ := rds1 r
      obtain ⟨a, ha, rfl⟩ := rd_ref r1
      obtain ⟨us, h1, hs⟩ := R.lst e ha
      split at h
      · rename_i is ei
        exact ⟨a, is, rfl, .of (by rw [← intsOf_rd hs ei]; exact h1), h.ok R (by rw [RD])⟩
      · exact h.elim
    · exact h.elim

/-! ### sorted -/
abbrev enc2 : V × D → PyData := fun b => D.toPy b.2
def rSortD (K : PySem.W.Frag) : List V → Hp → VK → Prop := fun vs H Q => ∃ (a : Addr) (bs : List (V × D)), vs = [.ref a] ∧ SqL K H a (bs.map (·.1)) ∧ (∀ b ∈ bs, Dp K H b.1 (enc2 b)) ∧ PySem.W.AllAlike (bs.map enc2) ∧ PySem.W.Sortable (bs.map enc2) ∧
  (∀ b ∈ bs, (enc2 b).depth ≤ 64) ∧ ∀ p, H p = none → Q (.ref p) (upd H p (.lst ((bs.mergeSort (PySem.W.dataLe false enc2)).map (·.1))))
theorem each_vals {bs : List (V × D)} : ∀ {us : List Value}, Vals (bs.map (·.1)) us → EachIs (fun u (b : V × D) => RelV b.1 u) us bs := by
  induction bs with
  | nil => intro us r; cases r; exact .nil
  | cons b bs ih =>
    intro us r
    cases r with
    | cons r1 r2 => exact .cons r1 (ih r2)
theorem vals_each {bs : List (V × D)} : ∀ {us : List Value}, EachIs (fun u (b : V × D) => RelV b.1 u) us bs → Vals (bs.map (·.1)) us := by
  induction bs with
  | nil => intro us r; cases r; exact .nil
  | cons b bs ih =>
    intro us r
    cases r with
    | cons r1 r2 => exact .cons r1 (ih r2)
theorem each_both {α β : Type} {R S : α → β → Prop} : ∀ {as : List α} {bs : List β}, EachIs R as bs → (∀ a b, b ∈ bs → R a b → S a b) → EachIs S as bs
  | _, _, .nil, _ => .nil
  | _, _, .cons h t, k => .cons (k _ _ List.mem_cons_self h) (each_both t fun a b hb => k a b (List.mem_cons_of_mem _ hb))
theorem call_sortD (hu : X.A.units + 70 < cLine) : CallR X (.builtin "sorted") (rSortD X.K) := by
  intro pins s σ H vs us Q I r h
  obtain ⟨a, bs, rfl, hS, hd, hal, hk, hdp, q⟩ := h
  obtain ⟨u, rfl, ru⟩ := vals1 r
  cases ru
  obtain ⟨its, rv, pl, hz⟩ := I.list hS
  have e := each_vals rv
  have er : EachIs (fun v (b : V × D) => ∃ as, Reads s.heap v (enc2 b) as) its bs := each_both e fun v b hb rb => Dp.reads I _ _ _ (hd b hb) rb
  have hz' : bs.length ≤ sizeLine := by rw [List.length_map] at hz; exact hz
  refine PySem.W.sorted_data (R := fun u (b : V × D) => RelV b.1 u) pl.isList e er hal hk hz' (fun b hb => by have := hdp b hb; omega) fun out hl ho => ?_
  obtain ⟨c, hc⟩ := sortedAll_at s.heap its out.toArray
  have hn : H (s.heap.objs.size + 1) = none := I.hok.fresh (Nat.le_succ _)
  refine ⟨.ref _, _, I.laid (a := s.heap.objs.size + 1) (o := .lst ((bs.mergeSort (PySem.W.dataLe false enc2)).map (·.1))) (h' := sortedAll s.heap its out.toArray) (t' := s.toks) (fun b o e => sortedAll_old e) (Nat.le_succ _) ?_, rfl, q _ hn⟩
  refine ⟨?_, out, c, vals_each ho, hc⟩
  rw [List.length_map, List.length_mergeSort]
  exact hz'
theorem toPys_map : ∀ ds : List D, D.toPys ds = ds.map D.toPy
  | [] => by rw [D.toPys]; rfl
  | d :: ds => by rw [D.toPys, toPys_map ds]; rfl
theorem alike_of {ds : List D} (h : alikeAll ds = true) : PySem.W.AllAlike (ds.map D.toPy) := by
  intro d hd e he
  obtain ⟨x, hx, rfl⟩ := List.mem_map.mp hd
  obtain ⟨y, hy, rfl⟩ := List.mem_map.mp he
  unfold alikeAll at h
  rw [List.all_eq_true] at h
  have := h x hx
  rw [List.all_eq_true] at this
  exact this y hy
theorem sortable_of {ds : List D} (h : sortable ds = true) : PySem.W.Sortable (ds.map D.toPy) := by
  unfold sortable at h
  rw [Bool.or_eq_true] at h
  rcases h with h | h
  · rw [List.all_eq_true] at h
    refine .inl fun d hd => ?_
    obtain ⟨x, hx, rfl⟩ := List.mem_map.mp hd
    have := h x hx
    split at this
    · rename_i y ys
      rw [D.toPy, D.toPys]
      exact ⟨_, _, rfl⟩
    · cases this
  · rw [List.all_eq_true] at h
    refine .inr fun d hd => ?_
    obtain ⟨x, hx, rfl⟩ := List.mem_map.mp hd
    have := h x hx
    cases x with
    | non => simp at this
    | tup xs => simp at this
    | bl _ => rw [D.toPy]; exact ⟨fun z => (by cases z), fun _ z => (by cases z)⟩
    | int _ => rw [D.toPy]; exact ⟨fun z => (by cases z), fun _ z => (by cases z)⟩
    | str _ => rw [D.toPy]; exact ⟨fun z => (by cases z), fun _ z => (by cases z)⟩
    | rol _ => rw [D.toPy]; exact ⟨fun z => (by cases z), fun _ z => (by cases z)⟩
    | ref _ => simp at this
theorem zip_fst : ∀ {vs : List V} {ds : List D}, vs.length = ds.length → (vs.zip ds).map (·.1) = vs
  | [], [], _ => rfl
  | v :: vs, d :: ds, h => by rw [List.zip_cons_cons, List.map_cons, zip_fst (by simpa using h)]
  | [], _ :: _, h => by simp at h
  | _ :: _, [], h => by simp at h
theorem zip_snd : ∀ {vs : List V} {ds : List D}, vs.length = ds.length → (vs.zip ds).map (·.2) = ds
  | [], [], _ => rfl
  | v :: vs, d :: ds, h => by rw [List.zip_cons_cons, List.map_cons, zip_snd (by simpa using h)]
  | [], _ :: _, h => by simp at h
  | _ :: _, [], h => by simp at h
theorem rds_zip {K : PySem.W.Frag} {rho : List Addr} {H : Hp} : ∀ {ds : List D} {vs : List V}, RDs K rho H ds vs → ∀ b ∈ vs.zip ds, RD K rho H b.2 b.1
  | [], vs, r, b, hb => by simp at hb
  | d :: ds, vs, r, b, hb => by
    rw [RDs] at r
    obtain ⟨v, u, rfl, r1, r2⟩ := r
    rw [List.zip_cons_cons] at hb
    rcases List.mem_cons.mp hb with e | hb
    · rw [e]; exact r1
    · exact rds_zip r2 b hb
theorem rds_of_zip {K : PySem.W.Frag} {rho : List Addr} {H : Hp} : ∀ {bs : List (V × D)}, (∀ b ∈ bs, RD K rho H b.2 b.1) → RDs K rho H (bs.map (·.2)) (bs.map (·.1))
  | [], _ => by simp [RDs]
  | b :: bs, h => by
    rw [List.map_cons, List.map_cons, RDs]
    exact ⟨_, _, rfl, h b List.mem_cons_self, rds_of_zip fun c hc => h c (List.mem_cons_of_mem _ hc)⟩
theorem map_sort {bs : List (V × D)} : (bs.mergeSort (PySem.W.dataLe false enc2)).map (·.2) = sortD (bs.map (·.2)) := by
  unfold sortD
  exact List.map_mergeSort fun a ha b hb => rfl
theorem okAll_mem : ∀ {ds : List D} {k : Nat}, D.flatAll k ds = true → ∀ d ∈ ds, D.flat k d = true
  | [], _, _, d, hd => by cases hd
  | x :: ds, k, h, d, hd => by
    rw [D.flatAll, Bool.and_eq_true] at h
    rcases List.mem_cons.mp hd with e | hd
    · rw [e]; exact h.1
    · exact okAll_mem h.2 d hd
theorem hc_sorted : HcOk X W cl (rSortD X.K) (bltOp .sorted) := by
  intro ds M rho H vs σ Q R r h
  unfold bltOp at h
  split at h <;> first | contradiction | skip
  · split at h
    · rename_i n xs e
      split at h
      · rename_i hz
        unfold ordOk at hz
        rw [Bool.and_eq_true, Bool.and_eq_true] at hz
        obtain ⟨⟨z1, z2⟩, z3⟩ := hz
        obtain ⟨v, rfl, r1⟩ := rds1 r
        obtain ⟨a, ha, rfl⟩ := rd_ref r1
        obtain ⟨us, h1, hs⟩ := R.lst e ha
        have hl := hs.length
        have e2 : (us.zip xs).map enc2 = xs.map D.toPy := by
          have e3 : (us.zip xs).map enc2 = ((us.zip xs).map (·.2)).map D.toPy := by rw [List.map_map]; rfl
          rw [e3, zip_snd hl]
        refine ⟨a, us.zip xs, rfl, .of (by rw [zip_fst hl]; exact h1), fun b hb => ?_, by rw [e2]; exact alike_of z2, by rw [e2]; exact sortable_of z3, fun b hb => ?_, fun p hp => ?_⟩
        · have hm : b.2 ∈ xs := by rw [← zip_snd hl]; exact List.mem_map.mpr ⟨b, hb, rfl⟩
          exact RD.dp 8 _ _ (okAll_mem z1 _ hm) (rds_zip hs b hb)
        · have hm : b.2 ∈ xs := by rw [← zip_snd hl]; exact List.mem_map.mpr ⟨b, hb, rfl⟩
          have := (D.flat_py 8 _ (okAll_mem z1 _ hm)).2
          show (D.toPy b.2).depth ≤ 64
          omega
        · have q : RDs X.K rho H (sortD xs) (((us.zip xs).mergeSort (PySem.W.dataLe false enc2)).map (·.1)) := by
            have q := rds_of_zip (K := X.K) (rho := rho) (H := H) (bs := (us.zip xs).mergeSort (PySem.W.dataLe false enc2)) fun b hb => rds_zip hs b (List.mem_mergeSort.mp hb)
            rw [map_sort, zip_snd hl] at q
            exact q
          obtain ⟨x2, R2, r2⟩ := R.lstNew hp q
          exact h.okTo x2 R2 r2
      · exact h.elim
    · exact h.elim

/-! ### isinstance -/
def Ty.name : Ty → String
  | .int => "int" | .bool => "bool" | .str => "str" | .tuple => "tuple"
theorem isi_ty {K : PySem.W.Frag} {rho : List Addr} {H : Hp} {M : Store} {d : D} {v : V} (t : Ty) (R : Rel K rho M H) (r : RD K rho H d v) (ok : isiOk d M = true) : ∃ n : String, TyX K H v (.type n) ∧ kitB n t.name = some (isTy t d) := by
  cases d with
  | non => cases rd_non r; exact ⟨"NoneType", .base .non, by cases t <;> decide +kernel⟩
  | bl b => cases rd_bl r; exact ⟨"bool", .base (.bl b), by cases t <;> (first | decide +kernel | (simp only [isTy]; decide +kernel))⟩
  | int b => cases rd_int r; exact ⟨"int", .base (.int b), by cases t <;> (first | decide +kernel | (simp only [isTy]; decide +kernel))⟩
  | str b => cases rd_str r; exact ⟨"str", .base (.str b), by cases t <;> (first | decide +kernel | (simp only [isTy]; decide +kernel))⟩
  | tup ds =>
    obtain ⟨a, vs, rfl, h, _⟩ := rd_tup r
    refine ⟨"tuple", ?_, by cases t <;> (simp only [isTy]; decide +kernel)⟩
    rcases h with (h | ⟨o, h⟩) | ⟨o, its, n, h1, h2, _⟩
    · exact .base (.tup h)
    · exact .fTuple h
    · exact .kTuple h1 h2
  | rol ds =>
    obtain ⟨a, vs, rfl, h, _⟩ := rd_rol r
    refine ⟨"list", ?_, by cases t <;> (simp only [isTy]; decide +kernel)⟩
    rcases h with ⟨o, h⟩ | ⟨o, its, n, h1, h2, _⟩
    · exact .base (.frz h)
    · exact .kList h1 h2
  | ref n =>
    obtain ⟨a, ha, rfl⟩ := rd_ref r
    refine ⟨"list", ?_, by cases t <;> (simp only [isTy]; decide +kernel)⟩
    unfold isiOk at ok
    split at ok
    · split at ok
      · rename_i e1 _ _ e
        cases e1
        obtain ⟨vs, h, _⟩ := R.lst e ha
        exact .base (.lst h)
      · cases ok
    · rename_i q
      exact absurd rfl (q n)
theorem de_isi {e : Expr} {i : IE} {t : Ty} {tn : Str} {p2 : Pos} (hg : Gl X "isinstance") (hm : X.mg "isinstance" = none) (he : DE X W cl e (evE cal i)) (ht : PE X (.Name tn p2) (tC (.ty t.name)))
    (hs : starEach [e, .Name tn p2] X.env = (false, eval e X.env) :: starEach [.Name tn p2] X.env) : DE X W cl (.Call (.Name "isinstance" p) [e, .Name tn p2] [] pos) (evE cal (.isi i t)) := by
  refine peImp (pe_callB call_isi hg hm PyProof.Rows.boot_isinstance (pa_cons he (pa_cons ht pa_nil) hs) (by decide) (by decide) hs (by rfl)) fun σ H Q => ?_
  rintro ⟨rho, env, M, R, E, h⟩
  simp only [evE] at h
  refine ⟨rho, env, M, R, E, h.bind fun d M1 rho1 H1 v x1 R1 r1 h1 => ?_⟩
  split at h1
  · rename_i hk
    obtain ⟨n, t1, t2⟩ := isi_ty t R1 r1 hk
    exact ⟨v, .ty t.name, .type n, .type t.name, _, rfl, .ty _, t1, kit_ty t2, h1.ok R1 (by rw [RD])⟩
  · exact h1.elim

/-! ### methods -/
theorem de_meth {o : Expr} {i : IE} {is : List IE} {T : String} {r : V → List V → Hp → VK → Prop} {t : Mth}
    (h : PE X o (tBM X.K T r (tD X.K W cl (evE cal i)) (tDs X.K W cl (evEs cal is))))
    (hg : ∀ (x : D) (ds : List D) (M : Store) (rho : List Addr) (H : Hp) (v : V) (vs : List V) (σ : L2.St) (Q : VK), Rel X.K rho M H → RD X.K rho H x v → RDs X.K rho H ds vs → Post X.K W cl (RD X.K) σ rho H (methOp t x ds M) Q → r v vs H Q)
    (hty : ∀ (x : D) (M : Store) (rho : List Addr) (H : Hp) (v : V), Rel X.K rho M H → RD X.K rho H x v → mthOk t x M = true → tyV X.K T v H) :
    DE X W cl o (evE cal (.meth t i is)) := by
  refine peImp h fun σ H Q => ?_
  rintro ⟨rho, env, M, R, E, h⟩
  simp only [evE] at h
  refine ⟨rho, env, M, R, E, h.bind fun d M1 rho1 H1 v x1 R1 r1 h1 => ?_⟩
  split at h1
  · rename_i hm
    refine ⟨hty _ _ _ _ _ R1 r1 hm, rho1, env, M1, R1, E.ext R x1, h1.bind fun ds M2 rho2 H2 vs x2 R2 r2 h2 => ?_⟩
    exact hg _ _ _ _ _ _ _ _ _ R2 (RD.ext R1 x2 _ _ r1) r2 h2
  · exact h1.elim
end
end DV

/-! DvCtl: and, or, not, if-else, chains, slices, methods, own calls, as readings by pure data. -/
namespace DV
open PySem PySem.Spec PyProof.Rows L2

/-- a value's truth -/
def toB (d : D) (m : Store) : Res Bool := match d with
  | .bl b => .ok b m
  | _ => .bad
theorem evT_eq (cal : Callee) (e : IE) (env : Env) (m : Store) : evT cal e env m = (evE cal e env m).bind toB := rfl

section
variable {X : Cx} {W : WX} {cl : Str → Addr} {cal : Callee} {pos p : Pos} {a b c : Expr} {i j k : IE}

theorem de_neg (h : DE X W cl a (evE cal i)) : DE X W cl (.UnaryOp .USub a pos) (evE cal (.neg i)) := by
  refine peImp (pe_un un_neg h) fun σ H Q => ?_
  rintro ⟨rho, env, M, R, E, h⟩
  simp only [evE] at h
  refine ⟨rho, env, M, R, E, h.bind fun d M1 rho1 H1 v x1 R1 r1 h1 => ?_⟩
  cases d with
  | int n =>
    cases rd_int r1
    exact ⟨n, rfl, h1.ok R1 (by rw [RD])⟩
  | _ => exact h1.elim
theorem de_not (h : DE X W cl a (evE cal i)) : DE X W cl (.UnaryOp .Not a pos) (evE cal (.nott i)) := by
  refine peImp (pe_not h) fun σ H Q => ?_
  rintro ⟨rho, env, M, R, E, h⟩
  simp only [evE] at h
  refine ⟨rho, env, M, R, E, h.bind fun d M1 rho1 H1 v x1 R1 r1 h1 => ?_⟩
  cases d with
  | bl n =>
    cases rd_bl r1
    exact ⟨n, rfl, h1.ok R1 (by rw [RD])⟩
  | _ => exact h1.elim
theorem dt_not (h : DT X W cl a (evT cal i)) : DT X W cl (.UnaryOp .Not a pos) (evT cal (.nott i)) := by
  refine ptImp (pt_not h) fun σ H Q => ?_
  rintro ⟨rho, env, M, R, E, h⟩
  simp only [evT_eq, evE] at h
  refine ⟨rho, env, M, R, E, ?_⟩
  rw [evT_eq]
  cases e : evE cal i env M with
  | ok d m =>
    rw [e] at h
    cases d with
    | bl n => exact fun rho1 H1 b x1 R1 r1 => by cases r1; exact h.okTo x1 R1 rfl
    | _ => exact h.elim
  | exc c m => rw [e] at h; exact h
  | bad => rw [e] at h; exact h

/-- and, or: the last -/
theorem de_and1 (h : DE X W cl a (evE cal i)) : DE X W cl (.BoolOp .And [a] pos) (fun env M => evAnd cal [i] env M) := by
  refine peImp (pe_one h) fun σ H Q => ?_
  rintro ⟨rho, env, M, R, E, h⟩
  simp only [evAnd] at h
  refine ⟨rho, env, M, R, E, h.bind fun d M1 rho1 H1 v x1 R1 r1 h1 => ?_⟩
  cases d with
  | bl n =>
    cases rd_bl r1
    exact h1.ok R1 (by rw [RD])
  | _ => exact h1.elim
theorem de_or1 (h : DE X W cl a (evE cal i)) : DE X W cl (.BoolOp .Or [a] pos) (fun env M => evOr cal [i] env M) := by
  refine peImp (pe_one h) fun σ H Q => ?_
  rintro ⟨rho, env, M, R, E, h⟩
  simp only [evOr] at h
  refine ⟨rho, env, M, R, E, h.bind fun d M1 rho1 H1 v x1 R1 r1 h1 => ?_⟩
  cases d with
  | bl n =>
    cases rd_bl r1
    exact h1.ok R1 (by rw [RD])
  | _ => exact h1.elim
theorem de_and {rest : List Expr} {is : List IE} (ha : DE X W cl a (evE cal i)) (hb : DE X W cl (.BoolOp .And (b :: rest) pos) (fun env M => evAnd cal (j :: is) env M)) :
    DE X W cl (.BoolOp .And (a :: b :: rest) pos) (fun env M => evAnd cal (i :: j :: is) env M) := by
  refine peImp (pe_and ha hb) fun σ H Q => ?_
  rintro ⟨rho, env, M, R, E, h⟩
  simp only [evAnd] at h
  refine ⟨rho, env, M, R, E, h.bind fun d M1 rho1 H1 v x1 R1 r1 h1 => ?_⟩
  cases d with
  | bl n =>
    cases rd_bl r1
    refine ⟨n, rfl, ?_⟩
    cases n with
    | true => rw [if_pos rfl]; exact ⟨rho1, env, M1, R1, E.ext R x1, h1⟩
    | false => rw [if_neg Bool.false_ne_true]; exact h1.ok R1 (by rw [RD])
  | _ => exact h1.elim
theorem de_or {rest : List Expr} {is : List IE} (ha : DE X W cl a (evE cal i)) (hb : DE X W cl (.BoolOp .Or (b :: rest) pos) (fun env M => evOr cal (j :: is) env M)) :
    DE X W cl (.BoolOp .Or (a :: b :: rest) pos) (fun env M => evOr cal (i :: j :: is) env M) := by
  refine peImp (pe_or ha hb) fun σ H Q => ?_
  rintro ⟨rho, env, M, R, E, h⟩
  simp only [evOr] at h
  refine ⟨rho, env, M, R, E, h.bind fun d M1 rho1 H1 v x1 R1 r1 h1 => ?_⟩
  cases d with
  | bl n =>
    cases rd_bl r1
    refine ⟨n, rfl, ?_⟩
    cases n with
    | false => rw [if_neg Bool.false_ne_true]; exact ⟨rho1, env, M1, R1, E.ext R x1, h1⟩
    | true => rw [if_pos rfl]; exact h1.ok R1 (by rw [RD])
  | _ => exact h1.elim
abbrev DW (X : Cx) (W : WX) (cl : Str → Addr) (e : Expr) (f : Env → Store → Res Bool) : Prop := PW X e (tT X.K W cl f)
theorem dw_and1 (h : DT X W cl a (evT cal i)) : DW X W cl (.BoolOp .And [a] pos) (fun env M => (evAnd cal [i] env M).bind toB) := by
  refine pwImp (pw_and1 h) fun σ H Q => ?_
  rintro ⟨rho, env, M, R, E, h⟩
  simp only [evAnd] at h
  refine ⟨rho, env, M, R, E, ?_⟩
  rw [evT_eq]
  cases e : evE cal i env M with
  | ok d m =>
    rw [e] at h
    cases d with
    | bl n => exact h
    | _ => exact h.elim
  | exc c m => rw [e] at h; exact h
  | bad => rw [e] at h; exact h
theorem dw_or1 (h : DT X W cl a (evT cal i)) : DW X W cl (.BoolOp .Or [a] pos) (fun env M => (evOr cal [i] env M).bind toB) := by
  refine pwImp (pw_or1 h) fun σ H Q => ?_
  rintro ⟨rho, env, M, R, E, h⟩
  simp only [evOr] at h
  refine ⟨rho, env, M, R, E, ?_⟩
  rw [evT_eq]
  cases e : evE cal i env M with
  | ok d m =>
    rw [e] at h
    cases d with
    | bl n => exact h
    | _ => exact h.elim
  | exc c m => rw [e] at h; exact h
  | bad => rw [e] at h; exact h
theorem dw_and {rest : List Expr} {is : List IE} (ha : DT X W cl a (evT cal i)) (hb : DW X W cl (.BoolOp .And (b :: rest) pos) (fun env M => (evAnd cal (j :: is) env M).bind toB)) :
    DW X W cl (.BoolOp .And (a :: b :: rest) pos) (fun env M => (evAnd cal (i :: j :: is) env M).bind toB) := by
  refine pwImp (pw_and ha hb) fun σ H Q => ?_
  rintro ⟨rho, env, M, R, E, h⟩
  simp only [evAnd] at h
  refine ⟨rho, env, M, R, E, ?_⟩
  rw [evT_eq]
  cases e : evE cal i env M with
  | ok d m =>
    rw [e] at h
    cases d with
    | bl n =>
      intro rho1 H1 t x1 R1 r1
      cases r1
      cases n with
      | true => rw [if_pos rfl]; exact ⟨rho1, env, m, R1, E.ext R x1, Post.base x1 h⟩
      | false => rw [if_neg Bool.false_ne_true]; exact h.okTo x1 R1 rfl
    | _ => exact h.elim
  | exc c m => rw [e] at h; exact h
  | bad => rw [e] at h; exact h
theorem dw_or {rest : List Expr} {is : List IE} (ha : DT X W cl a (evT cal i)) (hb : DW X W cl (.BoolOp .Or (b :: rest) pos) (fun env M => (evOr cal (j :: is) env M).bind toB)) :
    DW X W cl (.BoolOp .Or (a :: b :: rest) pos) (fun env M => (evOr cal (i :: j :: is) env M).bind toB) := by
  refine pwImp (pw_or ha hb) fun σ H Q => ?_
  rintro ⟨rho, env, M, R, E, h⟩
  simp only [evOr] at h
  refine ⟨rho, env, M, R, E, ?_⟩
  rw [evT_eq]
  cases e : evE cal i env M with
  | ok d m =>
    rw [e] at h
    cases d with
    | bl n =>
      intro rho1 H1 t x1 R1 r1
      cases r1
      cases n with
      | false => rw [if_neg Bool.false_ne_true]; exact ⟨rho1, env, m, R1, E.ext R x1, Post.base x1 h⟩
      | true => rw [if_pos rfl]; exact h.okTo x1 R1 rfl
    | _ => exact h.elim
  | exc c m => rw [e] at h; exact h
  | bad => rw [e] at h; exact h
theorem de_ite (hc : DT X W cl c (evT cal k)) (ha : DE X W cl a (evE cal i)) (hb : DE X W cl b (evE cal j)) : DE X W cl (.IfExp c a b pos) (evE cal (.ite k i j)) := by
  refine peImp (pe_ifExp hc ha hb) fun σ H Q => ?_
  rintro ⟨rho, env, M, R, E, h⟩
  simp only [evE] at h
  refine ⟨rho, env, M, R, E, ?_⟩
  rw [evT_eq]
  cases e : evE cal k env M with
  | ok d m =>
    rw [e] at h
    cases d with
    | bl n =>
      intro rho1 H1 t x1 R1 r1
      cases r1
      cases n with
      | true => rw [if_pos rfl]; exact ⟨rho1, env, m, R1, E.ext R x1, Post.base x1 h⟩
      | false => rw [if_neg Bool.false_ne_true]; exact ⟨rho1, env, m, R1, E.ext R x1, Post.base x1 h⟩
    | _ => exact h.elim
  | exc c m => rw [e] at h; exact h
  | bad => rw [e] at h; exact h

/-- a < b < c -/
theorem de_chain {op op' : CmpOp} {r r' : R2} {o o' : COp} (ho : OpR X (compareOp op) r) (ho' : OpR X (compareOp op') r') (hop : HopOk X W cl r (cmpOp o)) (hop' : HopOk X W cl r' (cmpOp o'))
    (ha : DE X W cl a (evE cal i)) (hb : DE X W cl b (evE cal j)) (hc : DE X W cl c (evE cal k)) (hm : behindInMarks op b = false) (hm' : behindInMarks op' c = false)
    (pe : PE X (.Compare a [op, op'] [b, c] pos) (tChain r r' (tD X.K W cl (evE cal i)) (tD X.K W cl (evE cal j)) (tD X.K W cl (evE cal k)))) :
    DE X W cl (.Compare a [op, op'] [b, c] pos) (evE cal (.chain o o' i j k)) := by
  refine peImp pe fun σ H Q => ?_
  rintro ⟨rho, env, M, R, E, h⟩
  simp only [evE] at h
  refine ⟨rho, env, M, R, E, h.bind fun d M1 rho1 H1 v x1 R1 r1 h1 => ?_⟩
  refine ⟨rho1, env, M1, R1, E.ext R x1, h1.bind fun d2 M2 rho2 H2 v2 x2 R2 r2 h2 => ?_⟩
  refine hop _ _ _ _ _ _ _ _ _ R2 (RD.ext R1 x2 _ _ r1) r2 (h2.bind fun t M3 rho3 H3 v3 x3 R3 r3 h3 => ?_)
  cases t with
  | bl n =>
    cases rd_bl r3
    refine ⟨n, rfl, ?_⟩
    cases n with
    | true =>
      rw [if_pos rfl]
      refine ⟨rho3, env, M3, R3, ((E.ext R x1).ext R1 x2).ext R2 x3, h3.bind fun d4 M4 rho4 H4 v4 x4 R4 r4 h4 => ?_⟩
      exact hop' _ _ _ _ _ _ _ _ _ R4 (RD.ext R3 x4 _ _ (RD.ext R2 x3 _ _ r2)) r4 h4
    | false => rw [if_neg Bool.false_ne_true]; exact h3.ok R3 (by rw [RD])
  | _ => exact h3.elim
end

/-! ### slices -/
section
variable {X : Cx} {W : WX} {cl : Str → Addr} {cal : Callee} {pos p2 : Pos} {a : Expr} {i : IE}
abbrev RP : List Addr → Hp → Option Int → Option Int → Prop := fun _ _ x y => x = y
def tP (K : PySem.W.Frag) (W : WX) (cl : Str → Addr) (f : Env → Store → Res (List D)) : TO := fun σ H Q => ∃ rho env M, Rel K rho M H ∧ RE K rho H env σ ∧
  Post K W cl RP σ rho H ((f env M).bind toP) Q
theorem poImp {e : Option Expr} {t t' : TO} (h : PO X e t) (i : ∀ σ H Q, t' σ H Q → t σ H Q) : PO X e t' := ⟨fun pins s σ H Q I q => h.run pins s σ H Q I (i σ H Q q)⟩
theorem dp_none : PO X none (tP X.K W cl (evEs cal [])) := by
  refine poImp po_none fun σ H Q => ?_
  rintro ⟨rho, env, M, R, E, h⟩
  simp only [evEs] at h
  exact h.ok R rfl
theorem dp_some {e : Expr} (he : DE X W cl e (evE cal i)) : PO X (some e) (tP X.K W cl (evEs cal [i])) := by
  refine poImp (po_some he) fun σ H Q => ?_
  rintro ⟨rho, env, M, R, E, h⟩
  simp only [evEs] at h
  refine ⟨rho, env, M, R, E, ?_⟩
  cases e : evE cal i env M with
  | ok d m =>
    rw [e] at h
    intro rho1 H1 v x1 R1 r1
    cases d with
    | int n =>
      cases rd_int r1
      exact ⟨n, rfl, h.okTo x1 R1 rfl⟩
    | _ => exact h.elim
  | exc c m => rw [e] at h; exact h
  | bad => rw [e] at h; exact h
theorem cut_rd {K : PySem.W.Frag} {rho : List Addr} {H : Hp} {ds : List D} {vs : List V} (h : RDs K rho H ds vs) (lo hi : Option Int) : RDs K rho H (cut ds lo hi) (cutV vs lo hi) := by
  unfold cut cutV
  rw [h.length]
  exact (h.drop _).take _
def rSlD (K : PySem.W.Frag) : V → Option Int → Option Int → Hp → VK → Prop := fun x lo hi H Q => rSlA K x lo hi H Q ∨ rSlL K x lo hi H Q
theorem sl_D : SlR X (rSlD X.K) := sl_tupA.or sl_list
theorem de_slc {lo hi : Option Expr} {ls hs : List IE} (ha : DE X W cl a (evE cal i)) (hl : PO X lo (tP X.K W cl (evEs cal ls))) (hh : PO X hi (tP X.K W cl (evEs cal hs))) :
    DE X W cl (.Subscript a (.Slice lo hi none p2) pos) (evE cal (.slc i ls hs)) := by
  refine peImp (pe_slice sl_D ha hl hh) fun σ H Q => ?_
  rintro ⟨rho, env, M, R, E, h⟩
  simp only [evE] at h
  refine ⟨rho, env, M, R, E, h.bind fun d M1 rho1 H1 v x1 R1 r1 h1 => ?_⟩
  refine ⟨rho1, env, M1, R1, E.ext R x1, h1.bind fun lo' M2 rho2 H2 l2 x2 R2 q2 h2 => ?_⟩
  subst q2
  refine ⟨rho2, env, M2, R2, (E.ext R x1).ext R1 x2, h2.bind fun hi' M3 rho3 H3 l3 x3 R3 q3 h2 => ?_⟩
  subst q3
  have r4 := RD.ext R2 x3 _ _ (RD.ext R1 x2 _ _ r1)
  cases d with
  | tup xs =>
    obtain ⟨c, vs, rfl, ht, hs⟩ := rd_tup r4
    refine .inl ⟨c, vs, rfl, ht, fun hw => ?_, fun hw q hq => ?_⟩
    · refine h2.ok R3 ?_
      have e5 : cut xs lo' hi' = xs := by
        unfold cut
        rw [← hs.length, hw.1, hw.2]
        dsimp only
        rw [List.drop_zero, Nat.sub_zero, hs.length]
        exact List.take_length
      rw [e5, RD]
      exact ⟨c, vs, rfl, ht, hs⟩
    · obtain ⟨x5, R5, r5⟩ := R3.tupNew hq (cut_rd hs lo' hi')
      exact h2.okTo x5 R5 r5
  | rol xs =>
    obtain ⟨c, vs, rfl, ht, hs⟩ := rd_rol r4
    refine .inr ⟨c, vs, rfl, ht.l, fun q hq => ?_⟩
    obtain ⟨x5, R5, r5⟩ := R3.lstNew hq (cut_rd hs lo' hi')
    exact h2.okTo x5 R5 r5
  | ref n =>
    obtain ⟨c, hc, rfl⟩ := rd_ref r4
    simp only [slcOp, items] at h2
    split at h2
    · rename_i xs e5
      split at e5
      · rename_i ys e6
        cases e5
        obtain ⟨vs, h7, hs⟩ := R3.lst e6 hc
        refine .inr ⟨c, vs, rfl, .of h7, fun q hq => ?_⟩
        obtain ⟨x5, R5, r5⟩ := R3.lstNew hq (cut_rd hs lo' hi')
        exact h2.okTo x5 R5 r5
      · cases e5
    · exact h2.elim
  | _ => exact h2.elim
end
end DV

/-! DvCut: the store is cut to what is named. -/
namespace DV
open PySem PySem.Spec PyProof.Rows L2

section
variable {K : PySem.W.Frag} {rho rho1 : List Addr} {H H1 : Hp} {M M1 : Store}
/-- what data lean on stays -/
structure Kp (rho : List Addr) (H : Hp) (rho' : List Addr) (H' : Hp) : Prop where
  pre : ∀ (n : Nat) (a : Addr), rho[n]? = some a → rho'[n]? = some a
  tup : ∀ a xs, H a = some (.tup xs) → H' a = some (.tup xs)
  frz : ∀ a o u, H a = some (.frz o u) → H' a = some (.frz o u)
  xt : ∀ a f, H a = some (.ext f) → H' a = some (.ext f)
theorem Kp.of (R : Rel K rho M H) (x : Ext rho H rho1 H1) : Kp rho H rho1 H1 :=
  ⟨fun n a e => x.at_ e, fun a xs e => x.fr a _ e (R.notRd e (by intro _ z; cases z) (by intro _ z; cases z)) (by intro _ z; cases z), fun a o u e => x.fr a _ e (R.notRd e (by intro _ z; cases z) (by intro _ z; cases z)) (by intro _ z; cases z), fun a f e => x.fr a _ e (R.notRd e (by intro _ z; cases z) (by intro _ z; cases z)) (by intro _ z; cases z)⟩
theorem Kp.write {a : Addr} {xs : List V} {o : HO} (e : H a = some (.lst xs)) : Kp rho H rho (upd H a o) :=
  ⟨fun _ _ e => e, fun b xs q => by rw [upd_ne fun z => by rw [z, e] at q; cases q]; exact q, fun b o u q => by rw [upd_ne fun z => by rw [z, e] at q; cases q]; exact q, fun b f q => by rw [upd_ne fun z => by rw [z, e] at q; cases q]; exact q⟩
theorem SqT.kp (x : Kp rho H rho1 H1) {a : Addr} {vs : List V} (h : SqT K H a vs) : SqT K H1 a vs := by
  rcases h with (h | ⟨o, h⟩) | h
  · exact .inl (.inl (x.tup _ _ h))
  · exact .inl (.inr ⟨o, x.frz _ _ _ h⟩)
  · exact .inr h
theorem SqR.kp (x : Kp rho H rho1 H1) {a : Addr} {vs : List V} (h : SqR K H a vs) : SqR K H1 a vs := by
  rcases h with ⟨o, h⟩ | h
  · exact .inl ⟨o, x.frz _ _ _ h⟩
  · exact .inr h
mutual
theorem RD.kp (x : Kp rho H rho1 H1) : ∀ (d : D) (v : V), RD K rho H d v → RD K rho1 H1 d v
  | .non, _, h => h
  | .bl _, _, h => h
  | .int _, _, h => h
  | .str _, _, h => h
  | .tup ds, v, h => by
    obtain ⟨a, vs, e, ht, hs⟩ := rd_tup h
    rw [RD]
    exact ⟨a, vs, e, SqT.kp x ht, RDs.kp x ds vs hs⟩
  | .rol ds, v, h => by
    obtain ⟨a, vs, e, ht, hs⟩ := rd_rol h
    rw [RD]
    exact ⟨a, vs, e, SqR.kp x ht, RDs.kp x ds vs hs⟩
  | .ref n, v, h => by
    obtain ⟨a, e, ev⟩ := rd_ref h
    rw [RD]
    exact ⟨a, x.pre _ _ e, ev⟩
theorem RDs.kp (x : Kp rho H rho1 H1) : ∀ (ds : List D) (vs : List V), RDs K rho H ds vs → RDs K rho1 H1 ds vs
  | [], _, h => h
  | d :: ds, vs, h => by
    rw [RDs] at h ⊢
    obtain ⟨v, r, e, h1, h2⟩ := h
    exact ⟨v, r, e, RD.kp x d v h1, RDs.kp x ds r h2⟩
end
theorem RE.kp {env : Env} {σ : L2.St} (x : Kp rho H rho1 H1) (h : RE K rho H env σ) : RE K rho1 H1 env σ :=
  ⟨h.1, fun i d e => by
    obtain ⟨v, e1, r⟩ := h.2 i d e
    exact ⟨v, e1, RD.kp x d v r⟩⟩

mutual
theorem RD.cut {k : Nat} : ∀ (d : D) (v : V), D.bnd k d = true → RD K rho H d v → RD K (rho.take k) H d v
  | .non, _, _, h => h
  | .bl _, _, _, h => h
  | .int _, _, _, h => h
  | .str _, _, _, h => h
  | .tup ds, v, z, h => by
    obtain ⟨a, vs, e, ht, hs⟩ := rd_tup h
    rw [RD]
    exact ⟨a, vs, e, ht, RDs.cut ds vs (by rw [D.bnd] at z; exact z) hs⟩
  | .rol ds, v, z, h => by
    obtain ⟨a, vs, e, ht, hs⟩ := rd_rol h
    rw [RD]
    exact ⟨a, vs, e, ht, RDs.cut ds vs (by rw [D.bnd] at z; exact z) hs⟩
  | .ref n, v, z, h => by
    obtain ⟨a, e, ev⟩ := rd_ref h
    rw [D.bnd, decide_eq_true_eq] at z
    rw [RD]
    exact ⟨a, by rw [List.getElem?_take_of_lt z]; exact e, ev⟩
theorem RDs.cut {k : Nat} : ∀ (ds : List D) (vs : List V), D.bndAll k ds = true → RDs K rho H ds vs → RDs K (rho.take k) H ds vs
  | [], _, _, h => h
  | d :: ds, vs, z, h => by
    rw [RDs] at h ⊢
    rw [D.bndAll, Bool.and_eq_true] at z
    obtain ⟨v, r, e, h1, h2⟩ := h
    exact ⟨v, r, e, RD.cut d v z.1 h1, RDs.cut ds r z.2 h2⟩
end
mutual
theorem RD.bnd : ∀ (d : D) (v : V), RD K rho H d v → D.bnd rho.length d = true
  | .non, _, _ => by simp [D.bnd]
  | .bl _, _, _ => by simp [D.bnd]
  | .int _, _, _ => by simp [D.bnd]
  | .str _, _, _ => by simp [D.bnd]
  | .tup ds, v, h => by
    obtain ⟨a, vs, e, ht, hs⟩ := rd_tup h
    rw [D.bnd]
    exact RDs.bnd ds vs hs
  | .rol ds, v, h => by
    obtain ⟨a, vs, e, ht, hs⟩ := rd_rol h
    rw [D.bnd]
    exact RDs.bnd ds vs hs
  | .ref n, v, h => by
    obtain ⟨a, e, ev⟩ := rd_ref h
    rw [D.bnd, decide_eq_true_eq]
    exact (List.getElem?_eq_some_iff.mp e).1
theorem RDs.bnd : ∀ (ds : List D) (vs : List V), RDs K rho H ds vs → D.bndAll rho.length ds = true
  | [], _, _ => by simp [D.bndAll]
  | d :: ds, vs, h => by
    rw [RDs] at h
    obtain ⟨v, r, e, h1, h2⟩ := h
    rw [D.bndAll, RD.bnd d v h1, RDs.bnd ds r h2]
    rfl
end
theorem RO.bnd {a : Addr} {o : MO} (r : RO K rho H a o) : o.bnd rho.length = true := by
  cases o with
  | lst ds => obtain ⟨vs, _, h⟩ := r; exact RDs.bnd ds vs h
  | dct _ => exact r.elim
  | ins _ _ => exact r.elim
  | tab _ => rfl
theorem RO.cut {a : Addr} {o : MO} {k : Nat} (r : RO K rho H a o) (z : o.bnd k = true) : RO K (rho.take k) H a o := by
  cases o with
  | lst ds =>
    obtain ⟨vs, e, h⟩ := r
    exact ⟨vs, e, RDs.cut ds vs z h⟩
  | dct _ => exact r.elim
  | ins _ _ => exact r.elim
  | tab _ => exact r
theorem Rel.bndAt (R : Rel K rho M H) {i : Nat} {o : MO} (e : M[i]? = some o) : o.bnd M.length = true := by
  have hl : i < rho.length := by rw [R.len]; exact (List.getElem?_eq_some_iff.mp e).1
  rw [← R.len]
  exact (R.ro i o _ e (List.getElem?_eq_getElem hl)).bnd
theorem Rel.cut (R : Rel K rho M H) {k : Nat} (z : ∀ i o, i < k → M[i]? = some o → o.bnd k = true) : Rel K (rho.take k) (M.take k) H where
  len := by rw [List.length_take, List.length_take, R.len]
  nd := R.nd.sublist (List.take_sublist _ _)
  ro := fun n o a e1 e2 => by
    by_cases hn : n < k
    · rw [List.getElem?_take_of_lt hn] at e1 e2
      exact (R.ro n o a e1 e2).cut (z n o hn e1)
    · rw [List.getElem?_eq_none (by rw [List.length_take]; omega)] at e1
      cases e1
theorem old_bnd {M0 : Store} (R : Rel K rho M H) (h : oldOk M M1 = true) : ∀ i o, i < M.length → M1[i]? = some o → o.bnd M.length = true := fun i o hi e => by
  unfold oldOk at h
  rw [List.all_eq_true] at h
  have := h i (List.mem_range.mpr hi)
  rw [Bool.or_eq_true] at this
  rcases this with q | q
  · rw [decide_eq_true_eq] at q
    rw [q] at e
    exact R.bndAt e
  · rw [e] at q
    exact q
theorem take_pre (x : Ext rho H rho1 H1) : rho1.take rho.length = rho := by
  obtain ⟨t, rfl⟩ := x.pre
  simp
theorem Ext.back (x : Ext rho H rho1 H1) : Ext rho H rho H1 := ⟨List.prefix_refl _, x.fr, fun _ h => .inl h⟩
/-- cut to what stood ahead -/
theorem Rel.back (R : Rel K rho M H) (x : Ext rho H rho1 H1) (R1 : Rel K rho1 M1 H1) (h : oldOk M M1 = true) : Rel K rho (M1.take M.length) H1 := by
  have := R1.cut (k := M.length) (old_bnd (M0 := M) R h)
  rw [← R.len, take_pre x, R.len] at this
  exact this
theorem RD.back (R : Rel K rho M H) (x : Ext rho H rho1 H1) {d : D} {v : V} (z : D.bnd M.length d = true) (r : RD K rho1 H1 d v) : RD K rho H1 d v := by
  have := RD.cut d v z r
  rw [← R.len, take_pre x] at this
  exact this
theorem RE.back {env env1 : Env} {σ σ1 : L2.St} (R : Rel K rho M H) (x : Ext rho H rho1 H1) (E : RE K rho H env σ) (z : envOk M.length env env1 = true) (E1 : RE K rho1 H1 env1 σ1) : RE K rho H1 env1 σ1 :=
  ⟨E1.1, fun i d e => by
    obtain ⟨v, e1, r⟩ := E1.2 i d e
    refine ⟨v, e1, RD.back R x ?_ r⟩
    unfold envOk at z
    rw [List.all_eq_true] at z
    have := z i (List.mem_range.mpr (List.getElem?_eq_some_iff.mp e).1)
    rw [Bool.or_eq_true] at this
    rcases this with q | q
    · rw [decide_eq_true_eq] at q
      rw [q] at e
      obtain ⟨v0, _, r0⟩ := E.2 i d e
      have := RD.bnd d v0 r0
      rw [R.len] at this
      exact this
    · rw [e] at q
      exact q⟩
end

/-! ### statements -/
section
variable (K : PySem.W.Frag) (W : WX) (cl : Str → Addr)
def PostS (rho : List Addr) (H : Hp) (r : SRes) (D : Ends) : Prop := match r with
  | .nx env M => ∀ rho' H' σ', Ext rho H rho' H' → Rel K rho' M H' → RE K rho' H' env σ' → D.nx σ' H'
  | .rt d M => ∀ rho' H' v, Ext rho H rho' H' → Rel K rho' M H' → RD K rho' H' d v → D.rt v H'
  | .bk env M => ∀ rho' H' σ', Ext rho H rho' H' → Rel K rho' M H' → RE K rho' H' env σ' → D.bk σ' H'
  | .ct env M => ∀ rho' H' σ', Ext rho H rho' H' → Rel K rho' M H' → RE K rho' H' env σ' → D.ct σ' H'
  | .exc c env M => ∀ rho' H' σ', Ext rho H rho' H' → Rel K rho' M H' → RE K rho' H' env σ' → W (.ref (cl c)) none σ' H'
  | .bad => False
def tS (f : Env → Store → SRes) : TS := fun D σ H => ∃ rho env M, Rel K rho M H ∧ RE K rho H env σ ∧ PostS K W cl rho H (f env M) D
end
section
variable {K : PySem.W.Frag} {W : WX} {cl : Str → Addr} {rho rho1 : List Addr} {H H1 : Hp} {M M1 : Store} {D : Ends}
theorem PostS.base {r : SRes} (x : Ext rho H rho1 H1) (h : PostS K W cl rho H r D) : PostS K W cl rho1 H1 r D := by
  cases r with
  | nx e m => exact fun a b c x' => h a b c (x.trans x')
  | rt e m => exact fun a b c x' => h a b c (x.trans x')
  | bk e m => exact fun a b c x' => h a b c (x.trans x')
  | ct e m => exact fun a b c x' => h a b c (x.trans x')
  | exc _ e m => exact fun a b c x' => h a b c (x.trans x')
  | bad => exact h
theorem PostS.uncut {r : SRes} {env : Env} {σ : L2.St} (R : Rel K rho M H) (E : RE K rho H env σ) (h : PostS K W cl rho H (r.cut env M) D) : PostS K W cl rho H r D := by
  have key : ∀ {P : L2.St → Hp → Prop} (e : Env) (m : Store), (∀ rho' H' σ', Ext rho H rho' H' → Rel K rho' (cutS env M e m) H' → RE K rho' H' e σ' → P σ' H') → ∀ rho' H' σ', Ext rho H rho' H' → Rel K rho' m H' → RE K rho' H' e σ' → P σ' H' :=
    fun {P} e m h rho' H' σ' x R' E' => by
      unfold cutS at h
      split at h
      · exact h _ _ _ x R' E'
      · split at h
        · rename_i z
          rw [Bool.and_eq_true] at z
          exact h rho H' σ' x.back (R.back x R' z.1) (E.back R x z.2 E')
        · exact h _ _ _ x R' E'
  cases r with
  | nx e m => exact key e m h
  | rt e m => exact h
  | bk e m => exact key e m h
  | ct e m => exact key e m h
  | exc _ e m => exact h
  | bad => exact h
/-- an expression within a statement -/
theorem PostS.bind {α β : Type} {RA : List Addr → Hp → α → β → Prop} {σ : L2.St} {env : Env} {r : Res α} {f : α → Store → SRes} {Q1 : β → Hp → Prop} (R : Rel K rho M H) (E : RE K rho H env σ) (h : PostS K W cl rho H (r.thn env f) D)
    (k : ∀ a M1 rho1 H1 b, Ext rho H rho1 H1 → Rel K rho1 M1 H1 → RA rho1 H1 a b → PostS K W cl rho1 H1 (f a M1) D → Q1 b H1) : Post K W cl RA σ rho H r Q1 := by
  cases r with
  | ok a m => exact fun rho' H' b x' R' r => k a m rho' H' b x' R' r (PostS.base x' h)
  | exc c m => exact fun rho' H' x' R' => h rho' H' σ x' R' (E.ext R x')
  | bad => exact h
theorem PostS.seq {r : SRes} {f : Env → Store → SRes} {D' : Ends} (h : PostS K W cl rho H (r.thn f) D) (hn : ∀ env M1 rho1 H1 σ1, Ext rho H rho1 H1 → Rel K rho1 M1 H1 → RE K rho1 H1 env σ1 → PostS K W cl rho1 H1 (f env M1) D → D'.nx σ1 H1)
    (hr : D'.rt = D.rt) (hb : D'.bk = D.bk) (hc : D'.ct = D.ct) : PostS K W cl rho H r D' := by
  cases r with
  | nx e m => exact fun rho' H' σ' x R' E' => hn e m rho' H' σ' x R' E' (PostS.base x h)
  | rt e m => show ∀ rho' H' v, _ → _ → _ → D'.rt v H'; rw [hr]; exact h
  | bk e m => show ∀ rho' H' v, _ → _ → _ → D'.bk v H'; rw [hb]; exact h
  | ct e m => show ∀ rho' H' v, _ → _ → _ → D'.ct v H'; rw [hc]; exact h
  | exc _ e m => exact h
  | bad => exact h
end

/-! ### calls -/
section
variable (K : PySem.W.Frag) (cl : Str → Addr)
def wE (E : XK) : WX := fun cls d _ H => E cls d H
/-- a def's promise: what the pure run comes to -/
def spC (np : Nat) (g : List D → Store → Res D) : Sp := fun vs H Q E => vs.length = np ∧ ∃ rho ds M, Rel K rho M H ∧ RDs K rho H ds vs ∧ Post K (wE E) cl (RD K) [] rho H (g ds M) Q
end
section
variable {X : Cx} {W : WX} {cl : Str → Addr} {cal : Callee} {pos p : Pos}
theorem de_call {np k j : Nat} {x : Str} {f : Addr} {fd : FuncData} {ps : List Str} {e : Expr} {es : List Expr} {is : List IE}
    (F : FnOk X.prog X.w X.K X.mg X.base (L2.CX X.prog X.w) k f fd ps (spC X.K cl is.length (cal j))) (hr : Room k X.A) (hg : Gl X x) (hm : X.mg x = some (.ref f)) (hk : PySem.W.keepIn X.K (.ref f) = true) (hb : Binds X.K fd ps [])
    (tk : Takes X W) (ha : DA X W cl (e :: es) (evEs cal is)) (hdb : (x == ("__debug__" : Str)) = false) (he : starEach (e :: es) X.env = (false, eval e X.env) :: starEach es X.env) (hpl : (backTo pos (starEach es X.env)).any (·.1) = false) :
    DE X W cl (.Call (.Name x p) (e :: es) [] pos) (evE cal (.call j is)) := by
  refine peImp (pe_callS (E := WE W) F hr hg hm hk hb (passAt tk) ha hdb he hpl) fun σ H Q => ?_
  rintro ⟨rho, env, M, R, E, h⟩
  simp only [evE] at h
  refine ⟨rho, env, M, R, E, ?_⟩
  cases e : evEs cal is env M with
  | ok ds m =>
    rw [e, Res.bind_ok] at h
    intro rho1 H1 vs x1 R1 r1
    refine ⟨by rw [r1.length, evEs_len e], rho1, ds, m, R1, r1, ?_⟩
    cases e2 : cal j ds m with
    | ok d m2 => rw [e2] at h; exact fun rho2 H2 v x2 => h rho2 H2 v (x1.trans x2)
    | exc c m2 => rw [e2] at h; exact fun rho2 H2 x2 => h rho2 H2 (x1.trans x2)
    | bad => rw [e2] at h; exact h
  | exc c m => rw [e] at h; exact h
  | bad => rw [e] at h; exact h
/-- behind a def's body -/
theorem call_end {np : Nat} {K : PySem.W.Frag} {rho : List Addr} {H : Hp} {M : Store} {fl : Nat} {d : FD} {ds : List D} {Q : VK} {E : XK} (R : Rel K rho M H)
    (h : Post K (wE E) cl (RD K) [] rho H (runD cal fl d ds M) Q) :
    PostS K (wE E) cl rho H (evSs cal fl d.body (ds.map some ++ List.replicate (d.nn - d.np) none) M) { nx := fun _ H' => Q .non H', rt := Q } := by
  unfold runD at h
  split at h
  · have key : ∀ (x : D) (m : Store), Post K (wE E) cl (RD K) [] rho H (.ok (cutC M x m).1 (cutC M x m).2) Q → ∀ rho' H' v, Ext rho H rho' H' → Rel K rho' m H' → RD K rho' H' x v → Q v H' := by
      intro x m h rho' H' v x' R' r'
      have h : ∀ rho' H' b, Ext rho H rho' H' → Rel K rho' (cutC M x m).2 H' → RD K rho' H' (cutC M x m).1 b → Q b H' := h
      unfold cutC at h
      split at h
      · exact h _ _ _ x' R' r'
      · split at h
        · rename_i hz
          split at h
          · rename_i hb
            exact h rho H' v x'.back (R.back x' R' hz) (RD.back R x' hb r')
          · split at h
            · rename_i n _ hb
              obtain ⟨a, ha, rfl⟩ := rd_ref r'
              split at h
              · rename_i o eo
                split at h
                · rename_i ho
                  have rb := R.back x' R' hz
                  have hna : n ≥ M.length := by
                    rcases Nat.lt_or_ge n M.length with q | q
                    · exact absurd (by rw [D.bnd, decide_eq_true_eq]; exact q) hb
                    · exact q
                  have hao : a ∉ rho := fun z => by
                    obtain ⟨j, ej⟩ := List.mem_iff_getElem?.mp z
                    have := nodup_get R'.nd (x'.at_ ej) ha
                    have hj := (List.getElem?_eq_some_iff.mp ej).1
                    rw [R.len] at hj
                    omega
                  have ro := (R'.ro n o a eo ha).cut ho
                  rw [← R.len, take_pre x'] at ro
                  have kp : Kp rho H' (rho ++ [a]) H' := ⟨fun j b e => by rw [List.getElem?_append_left (List.getElem?_eq_some_iff.mp e).1]; exact e, fun _ _ e => e, fun _ _ _ e => e, fun _ _ e => e⟩
                  have ro2 : ∀ {b : Addr} {u : MO}, RO K rho H' b u → RO K (rho ++ [a]) H' b u := fun {b u} q => by
                    cases u with
                    | lst ws => obtain ⟨vs, e1, e2⟩ := q; exact ⟨vs, e1, RDs.kp kp _ _ e2⟩
                    | dct _ => exact q.elim
                    | ins _ _ => exact q.elim
                    | tab _ => exact q
                  have hlt : (m.take M.length).length = M.length := by rw [← rb.len, R.len]
                  refine h (rho ++ [a]) H' (.ref a) ⟨⟨_, rfl⟩, x'.fr, fun b hb => ?_⟩ ⟨by rw [List.length_append, List.length_append, rb.len]; rfl, ?_, fun j u b e1 e2 => ?_⟩ ?_
                  · rcases List.mem_append.mp hb with q | q
                    · exact .inl q
                    · rw [List.mem_singleton.mp q]
                      exact (x'.new a (List.mem_of_getElem? ha)).elim (fun z => absurd z hao) .inr
                  · exact List.nodup_append.mpr ⟨R.nd, by simp, fun c hc b hb' => by rw [List.mem_singleton.mp hb']; exact fun z => hao (z ▸ hc)⟩
                  · by_cases hj : j < M.length
                    · rw [List.getElem?_append_left (by rw [hlt]; exact hj)] at e1
                      rw [List.getElem?_append_left (by rw [R.len]; exact hj)] at e2
                      exact ro2 (rb.ro j u b e1 e2)
                    · rw [List.getElem?_append_right (by rw [hlt]; omega), hlt] at e1
                      rw [List.getElem?_append_right (by rw [R.len]; omega), R.len] at e2
                      cases hk : j - M.length with
                      | zero => rw [hk] at e1 e2; cases e1; cases e2; exact ro2 ro
                      | succ q => rw [hk] at e1; simp at e1
                  · rw [RD]
                    exact ⟨a, by rw [← R.len]; simp, rfl⟩
                · exact h _ _ _ x' R' r'
              · exact h _ _ _ x' R' r'
            · exact h _ _ _ x' R' r'
        · exact h _ _ _ x' R' r'
    split at h
    · rename_i e1 m1 q
      rw [q]
      intro rho' H' σ' x' R' E'
      exact key .non m1 h rho' H' .non x' R' (by rw [RD])
    · rename_i x m1 q
      rw [q]
      exact key x m1 h
    · rename_i c e1 m1 q
      rw [q]
      exact fun rho' H' σ' x' R' E' => h rho' H' x' R'
    · exact h.elim
  · exact h.elim
end
end DV

/-! DvLoop: what is walked, targets, comprehensions, for, while. -/
namespace DV
open PySem PySem.Spec PyProof.Rows L2

/-! ### targets -/
/-- but for a target's slots all is as it was -/
def Off (ns : List Nat) (σ σ' : L2.St) : Prop := σ'.length = σ.length ∧ ∀ j, j ∉ ns → σ'[j]? = σ[j]?
theorem Off.refl (ns : List Nat) (σ : L2.St) : Off ns σ σ := ⟨rfl, fun _ _ => rfl⟩
theorem Off.trans {a b : List Nat} {σ σ1 σ2 : L2.St} (h : Off a σ σ1) (g : Off b σ1 σ2) : Off (a ++ b) σ σ2 :=
  ⟨g.1.trans h.1, fun j hj => (g.2 j fun z => hj (List.mem_append_right _ z)).trans (h.2 j fun z => hj (List.mem_append_left _ z))⟩
theorem wipe_at : ∀ (ns : List Nat) (σ : L2.St) (j : Nat), (L2.wipe σ ns)[j]? = if j ∈ ns then (if j < σ.length then some none else none) else σ[j]?
  | [], σ, j => by simp [L2.wipe]
  | n :: ns, σ, j => by
    have ih := wipe_at ns σ j
    rw [L2.wipe]
    by_cases h : n = j
    · subst h
      rw [if_pos List.mem_cons_self]
      by_cases hl : n < σ.length
      · rw [if_pos hl, List.getElem?_set_self (by rw [L2.wipe_length]; exact hl)]
      · rw [if_neg hl, List.getElem?_eq_none (by rw [List.length_set, L2.wipe_length]; omega)]
    · rw [List.getElem?_set_ne h, ih]
      have : (j ∈ n :: ns) ↔ (j ∈ ns) := by rw [List.mem_cons]; exact ⟨fun z => z.elim (fun e => absurd e.symm h) id, .inr⟩
      simp only [this]
theorem Off.wipe {ns own : List Nat} {σ σ' : L2.St} (h : Off ns (L2.wipe σ own) σ') (hs : ∀ n ∈ ns, n ∈ own) : L2.wipe σ' own = L2.wipe σ own := by
  refine List.ext_getElem? fun j => ?_
  rw [wipe_at, wipe_at, h.1, L2.wipe_length]
  by_cases hj : j ∈ own
  · rw [if_pos hj, if_pos hj]
  · rw [if_neg hj, if_neg hj, h.2 j fun z => hj (hs j z), wipe_at, if_neg hj]
section
variable (K : PySem.W.Frag)
def tG (tg : Tg) : TG := fun v σ H Q => ∃ rho M env d env', Rel K rho M H ∧ RE K rho H env σ ∧ RD K rho H d v ∧ bind env tg d = some env' ∧ ∀ σ', RE K rho H env' σ' → Off tg.slots σ σ' → Q σ' H
def tGs (ts : List Tg) : TGs := fun vs σ H Q => ∃ rho M env ds env', Rel K rho M H ∧ RE K rho H env σ ∧ RDs K rho H ds vs ∧ bindAll env ts ds = some env' ∧ ∀ σ', RE K rho H env' σ' → Off (Tg.slotsAll ts) σ σ' → Q σ' H
end
theorem pgsImp {X : Cx} {e : List Expr} {t t' : TGs} (h : PGs X e t) (i : ∀ v σ H Q, t' v σ H Q → t v σ H Q) : PGs X e t' := ⟨fun pins s σ H v u Q I r q => h.run pins s σ H v u Q I r (i v σ H Q q)⟩
section
variable {X : Cx} {pos : Pos}
theorem dg_name {i : Nat} {x : Str} (h : PG X (.Name x pos) (gName i)) : PG X (.Name x pos) (tG X.K (.nm i)) := by
  refine pgImp h fun v σ H Q => ?_
  rintro ⟨rho, M, env, d, env', R, E, r, e, q⟩
  simp only [bind, Option.some.injEq] at e
  subst e
  exact q _ (E.set r) ⟨by rw [List.length_set], fun j hj => List.getElem?_set_ne (fun z => hj (by rw [Tg.slots, z]; exact List.mem_singleton_self _))⟩
theorem dgs_nil : PGs X [] (tGs X.K []) := by
  refine pgsImp pgs_nil fun v σ H Q => ?_
  rintro ⟨rho, M, env, ds, env', R, E, r, e, q⟩
  cases ds with
  | nil =>
    simp only [bindAll, Option.some.injEq] at e
    subst e
    rw [RDs] at r
    exact ⟨r, q _ E (Off.refl _ _)⟩
  | cons d ds => simp [bindAll] at e
theorem dgs_cons {e : Expr} {es : List Expr} {t : Tg} {ts : List Tg} (h1 : PG X e (tG X.K t)) (h2 : PGs X es (tGs X.K ts)) (hs : (assignEach (e :: es) X.env).map (·.2) = assign e X.env :: (assignEach es X.env).map (·.2)) :
    PGs X (e :: es) (tGs X.K (t :: ts)) := by
  refine pgsImp (pgs_cons h1 h2 hs) fun v σ H Q => ?_
  rintro ⟨rho, M, env, ds, env', R, E, r, e, q⟩
  cases ds with
  | nil => simp [bindAll] at e
  | cons d ds =>
    rw [bindAll, Option.bind_eq_some_iff] at e
    obtain ⟨env1, e1, e2⟩ := e
    rw [RDs] at r
    obtain ⟨v1, vr, rfl, r1, r2⟩ := r
    refine ⟨v1, vr, rfl, rho, M, env, d, env1, R, E, r1, e1, fun σ' E' o1 => ?_⟩
    exact ⟨rho, M, env1, ds, env', R, E', r2, e2, fun σ2 E2 o2 => q σ2 E2 (by rw [Tg.slotsAll]; exact o1.trans o2)⟩
theorem bindAll_len : ∀ {ts : List Tg} {ds : List D} {env env' : Env}, bindAll env ts ds = some env' → ds.length = ts.length
  | [], [], _, _, _ => rfl
  | [], _ :: _, _, _, h => by simp [bindAll] at h
  | _ :: _, [], _, _, h => by simp [bindAll] at h
  | t :: ts, d :: ds, env, env', h => by
    rw [bindAll, Option.bind_eq_some_iff] at h
    obtain ⟨env1, _, h2⟩ := h
    rw [List.length_cons, List.length_cons, bindAll_len h2]
theorem dg_tup {es : List Expr} {k : Nat} {ts : List Tg} (hc : X.calm = true) (h : PGs X es (tGs X.K ts)) (hn : (assignEach es X.env).length = ts.length) (hst : (assignEach es X.env).findIdx? (·.1) = none) : PG X (.Tuple es k pos) (tG X.K (.tup ts)) := by
  refine pgImp (pg_tup hc h hn hst) fun v σ H Q => ?_
  rintro ⟨rho, M, env, d, env', R, E, r, e, q⟩
  cases d with
  | tup ds =>
    obtain ⟨a, vs, rfl, ht, hs⟩ := rd_tup r
    rw [bind] at e
    refine ⟨a, vs, rfl, ht, by rw [hs.length, bindAll_len e], rho, M, env, ds, env', R, E, hs, e, fun σ2 E2 o2 => q σ2 E2 (by rw [Tg.slots]; exact o2)⟩
  | _ => simp [bind] at e
end

/-! ### what is walked -/
/-- J walks xs, from the state R0 on; w stands as it stood -/
def Wk (K : PySem.W.Frag) (J : It) (xs : List D) (w : Option (Nat × MO)) (rho0 : List Addr) (H0 : Hp) : Prop :=
  ∀ rho M H, Ext rho0 H0 rho H → Rel K rho M H → kept w M = true → ∀ i,
    (∀ d, xs[i]? = some d → J.go i H ∧ ∀ x H', J.yld i H x H' → Kp rho H rho H' ∧ Ext rho H rho H' ∧ Rel K rho M H' ∧ RD K rho H' d x) ∧ (xs.length ≤ i → J.stop i H)
theorem wk_tup {K : PySem.W.Frag} {rho0 : List Addr} {M0 : Store} {H0 : Hp} {a : Addr} {vs : List V} {xs : List D} (R0 : Rel K rho0 M0 H0) (ht : SqT K H0 a vs) (hs : RDs K rho0 H0 xs vs) : Wk K (Itt K a) xs none rho0 H0 := by
  intro rho M H x R kp i
  have ht' := SqT.ext R0 x ht
  have hs' := RDs.ext R0 x _ _ hs
  refine ⟨fun d e => ?_, fun hi => ⟨vs, ht', by rw [hs.length]; exact hi⟩⟩
  obtain ⟨v, e1, r⟩ := hs'.get e
  refine ⟨⟨vs, v, ht', e1⟩, fun y H' hy => ?_⟩
  obtain ⟨rfl, hy⟩ := hy
  have := hy vs ht'
  rw [e1] at this
  cases this
  exact ⟨⟨fun _ _ e => e, fun _ _ e => e, fun _ _ _ e => e, fun _ _ e => e⟩, Ext.refl _ _, R, r⟩
theorem wk_rol {K : PySem.W.Frag} {rho0 : List Addr} {M0 : Store} {H0 : Hp} {a : Addr} {vs : List V} {xs : List D} (R0 : Rel K rho0 M0 H0) (ht : SqR K H0 a vs) (hs : RDs K rho0 H0 xs vs) : Wk K (Itl K a) xs none rho0 H0 := by
  intro rho M H x R kp i
  have ht' := SqR.ext R0 x ht
  have hs' := RDs.ext R0 x _ _ hs
  refine ⟨fun d e => ?_, fun hi => ⟨vs, ht'.l, by rw [hs.length]; exact hi⟩⟩
  obtain ⟨v, e1, r⟩ := hs'.get e
  refine ⟨⟨vs, v, ht'.l, e1⟩, fun y H' hy => ?_⟩
  obtain ⟨rfl, hy⟩ := hy
  have := hy vs ht'.l
  rw [e1] at this
  cases this
  exact ⟨⟨fun _ _ e => e, fun _ _ e => e, fun _ _ _ e => e, fun _ _ e => e⟩, Ext.refl _ _, R, r⟩
theorem wk_lst {K : PySem.W.Frag} {rho0 : List Addr} {H0 : Hp} {a : Addr} {n : Nat} {xs : List D} (ha : rho0[n]? = some a) : Wk K (Itl K a) xs (some (n, .lst xs)) rho0 H0 := by
  intro rho M H x R kp i
  simp only [kept, decide_eq_true_eq] at kp
  obtain ⟨vs, h1, hs'⟩ := R.lst kp (x.at_ ha)
  refine ⟨fun d e => ?_, fun hi => ⟨vs, .of h1, by rw [hs'.length]; exact hi⟩⟩
  obtain ⟨v, e1, r⟩ := hs'.get e
  refine ⟨⟨vs, v, .of h1, e1⟩, fun y H' hy => ?_⟩
  obtain ⟨rfl, hy⟩ := hy
  have := hy vs (.of h1)
  rw [e1] at this
  cases this
  exact ⟨⟨fun _ _ e => e, fun _ _ e => e, fun _ _ _ e => e, fun _ _ e => e⟩, Ext.refl _ _, R, r⟩
theorem wk_rng {K : PySem.W.Frag} {rho0 : List Addr} {H0 : Hp} {lo : Int} {n : Nat} : Wk K (Itr lo n) ((List.range n).map fun (k : Nat) => D.int (lo + k)) none rho0 H0 := by
  intro rho M H x R kp i
  refine ⟨fun d e => ?_, fun hi => (show n ≤ i by simpa using hi)⟩
  rw [List.getElem?_map, Option.map_eq_some_iff] at e
  obtain ⟨j, e1, rfl⟩ := e
  obtain ⟨hl, e2⟩ := List.getElem?_eq_some_iff.mp e1
  rw [List.length_range] at hl
  rw [List.getElem_range] at e2
  subst e2
  refine ⟨hl, fun y H' hy => ?_⟩
  obtain ⟨rfl, rfl⟩ := hy
  exact ⟨⟨fun _ _ e => e, fun _ _ e => e, fun _ _ _ e => e, fun _ _ e => e⟩, Ext.refl _ _, R, by rw [RD]⟩

def toI (k : SrcK) (ds : List D) (m : Store) : Res (List D × Option (Nat × MO)) := match srcItems k ds m with
  | some q => .ok q m
  | none => .bad
def RW (K : PySem.W.Frag) : List Addr → Hp → List D × Option (Nat × MO) → It → Prop := fun rho H q J => Wk K J q.1 q.2 rho H
def tSrc (K : PySem.W.Frag) (W : WX) (cl : Str → Addr) (k : SrcK) (f : Env → Store → Res (List D)) : TI := fun σ H R => ∃ rho env M, Rel K rho M H ∧ RE K rho H env σ ∧ Post K W cl (RW K) σ rho H ((f env M).bind (toI k)) R
abbrev DI (X : Cx) (W : WX) (cl : Str → Addr) (tg e : Expr) (k : SrcK) (f : Env → Store → Res (List D)) : Prop := PI X tg e (tSrc X.K W cl k f)
theorem piImp {X : Cx} {tg e : Expr} {t t' : TI} (h : PI X tg e t) (i : ∀ σ H Q, t' σ H Q → t σ H Q) : PI X tg e t' := ⟨fun pins s σ H Q I q => h.run pins s σ H Q I (i σ H Q q)⟩
section
variable {X : Cx} {W : WX} {cl : Str → Addr} {cal : Callee} {pos p : Pos} {tg l : Expr} {i j : IE}
/-- a list or a tuple -/
def iSeq (K : PySem.W.Frag) (tl : TE) : TI := fun σ H R => tl σ H fun x H1 => ∃ a xs, x = .ref a ∧ ((SqL K H1 a xs ∧ R (Itl K a) H1) ∨ (SqT K H1 a xs ∧ R (Itt K a) H1))
theorem pi_seq {tl : TE} (hl : PE X l tl) : PI X tg l (iSeq X.K tl) := by
  constructor
  intro pins s σ H R I h
  refine thn (hl.run pins s σ H _ I h) fun v s1 z => ?_
  obtain ⟨x, H1, I1, r1, a, xs, rfl, q⟩ := z
  cases r1
  have fin : ∀ (o : Obj) (J : It) (tn : Nat → Heap → Prop), Turn X.prog X.w X.K tg J [s1.heap.objs.size] s1.heap.objs.size tn → tn 0 (s1.heap.push o) → R J H1 → PIE X pins σ tg R (.ref s1.heap.objs.size) { s1 with heap := s1.heap.push o } := fun o J tn t t0 q => by
    refine ⟨_, [s1.heap.objs.size], tn, J, H1, rfl, ?_, t, t0, ?_, q⟩
    · exact I1.kept (t' := s1.toks) fun b u e => Heap.get?_push_of_some _ e
    · intro b hb
      rw [List.mem_singleton.mp hb]
      exact I1.fpOk (Nat.le_refl _) (I1.hok.fresh (Nat.le_refl _))
  rcases q with ⟨hq, q⟩ | ⟨hq, q⟩
  · obtain ⟨its, _, pl, _⟩ := I1.list hq
    exact wpAny_pyIter_list pl.isList (fin _ _ _ (turn_list a _) ⟨_, Heap.get?_push_size _ rfl, rfl, rfl⟩ q)
  · obtain ⟨its, _, pl, _⟩ := I1.tuple hq
    exact wpAny_pyIter_tuple (show s1.heap.IsTuple a its.toArray from pl) (fin _ _ _ (turn_tuple a _) ⟨_, Heap.get?_push_size _ rfl, rfl, rfl⟩ q)
theorem di_val (h : DE X W cl l (evE cal i)) : DI X W cl tg l .val (evEs cal [i]) := by
  refine piImp (pi_seq h) fun σ H Q => ?_
  rintro ⟨rho, env, M, R, E, h⟩
  refine ⟨rho, env, M, R, E, ?_⟩
  simp only [evEs] at h
  cases e : evE cal i env M with
  | ok d m =>
    rw [e] at h
    intro rho1 H1 v x1 R1 r1
    have h1 : Post X.K W cl (RW X.K) σ rho H (toI .val [d] m) Q := h
    unfold toI at h1
    split at h1
    · rename_i q eq
      unfold srcItems at eq
      split at eq <;> first | contradiction | skip
      · rename_i xs _ e1
        cases e1; cases eq
        obtain ⟨a, vs, rfl, ht, hs⟩ := rd_tup r1
        exact ⟨a, vs, rfl, .inr ⟨ht, h1.okTo x1 R1 (wk_tup R1 ht hs)⟩⟩
      · rename_i xs _ e1
        cases e1; cases eq
        obtain ⟨a, vs, rfl, ht, hs⟩ := rd_rol r1
        exact ⟨a, vs, rfl, .inl ⟨ht.l, h1.okTo x1 R1 (wk_rol R1 ht hs)⟩⟩
      · rename_i n _ e1
        cases e1
        obtain ⟨a, ha, rfl⟩ := rd_ref r1
        split at eq
        · rename_i xs e2
          cases eq
          obtain ⟨vs, h2, hs⟩ := R1.lst e2 ha
          exact ⟨a, vs, rfl, .inl ⟨.of h2, h1.okTo x1 R1 (wk_lst ha)⟩⟩
        · rename_i kvs e2
          cases eq
          exact ((R1.ro n _ a e2 ha).elim)
        · cases eq
    · exact h1.elim
  | exc c m => rw [e] at h; exact h
  | bad => rw [e] at h; exact h
theorem di_rng1 {a : Expr} (hg : Gl X "range") (hm : X.mg "range" = none) (ha : DA X W cl [a] (evEs cal [i])) (hs : starEach [a] X.env = [(false, eval a X.env)]) : DI X W cl tg (.Call (.Name "range" p) [a] [] pos) .rng1 (evEs cal [i]) := by
  refine piImp (pi_range1 hg hm ha hs) fun σ H Q => ?_
  rintro ⟨rho, env, M, R, E, h⟩
  refine ⟨rho, env, M, R, E, h.bind fun ds M1 rho1 H1 vs x1 R1 r1 h1 => ?_⟩
  unfold toI at h1
  split at h1
  · rename_i q eq
    unfold srcItems at eq
    split at eq <;> first | contradiction | skip
    · obtain ⟨v, rfl, r2⟩ := rds1 r1
      cases rd_int r2
      split at eq
      · rename_i hz
        cases eq
        refine ⟨_, rfl, hz.2, hz.1, h1.ok R1 ?_⟩
        have := wk_rng (K := X.K) (rho0 := rho1) (H0 := H1) (lo := 0) (n := (‹Int›).toNat)
        simp only [Int.zero_add] at this
        exact this
      · cases eq
  · exact h1.elim
theorem di_rng2 {a b : Expr} (hg : Gl X "range") (hm : X.mg "range" = none) (ha : DA X W cl [a, b] (evEs cal [i, j])) (hs : starEach [a, b] X.env = [(false, eval a X.env), (false, eval b X.env)]) (hs2 : starEach [b] X.env = [(false, eval b X.env)]) :
    DI X W cl tg (.Call (.Name "range" p) [a, b] [] pos) .rng2 (evEs cal [i, j]) := by
  refine piImp (pi_range2 hg hm ha hs hs2) fun σ H Q => ?_
  rintro ⟨rho, env, M, R, E, h⟩
  refine ⟨rho, env, M, R, E, h.bind fun ds M1 rho1 H1 vs x1 R1 r1 h1 => ?_⟩
  unfold toI at h1
  split at h1
  · rename_i q eq
    unfold srcItems at eq
    split at eq <;> first | contradiction | skip
    · obtain ⟨v, u, rfl, r2, r3⟩ := rds2 r1
      cases rd_int r2; cases rd_int r3
      split at eq
      · rename_i hz
        cases eq
        exact ⟨_, _, rfl, ⟨hz.2.2.2, hz.2.2.1, hz.2.1, hz.1⟩, h1.ok R1 wk_rng⟩
      · cases eq
  · exact h1.elim
end

/-! ### for, while -/
section
variable {K : PySem.W.Frag} {W : WX} {cl : Str → Addr}
/-- a loop's turns, by what the layer asks of them -/
theorem for_go {J : It} {xs : List D} {w : Option (Nat × MO)} {rho0 rho : List Addr} {H0 H : Hp} {M : Store} {env : Env} {σ : L2.St} {tg : Tg} {body : Env → Store → SRes} {D : Ends} (wk : Wk K J xs w rho0 H0) (x : Ext rho0 H0 rho H) (R : Rel K rho M H) (E : RE K rho H env σ)
    (kw : kept w M = true) (h : PostS K W cl rho H (forGo (fun env d => bind env tg d) body w xs env M) D) :
    ∃ Wm : Nat → Nat → L2.St → Hp → Prop, (∃ m, Wm 0 m σ H) ∧ ∀ i m σ H, Wm i m σ H → (J.stop i H ∧ D.nx σ H) ∨ (J.go i H ∧ ∃ N : L2.St → Hp → Prop, (∀ σ' H', N σ' H' → ∃ m', m' < m ∧ Wm (i + 1) m' σ' H') ∧
      ∀ y H', J.yld i H y H' → tG K tg y σ H' fun σ2 H2 => tS K W cl body { D with nx := N, ct := N, bk := D.nx } σ2 H2) := by
  let St (i : Nat) (σ : L2.St) (H : Hp) : Prop := ∃ rho M env, i ≤ xs.length ∧ Ext rho0 H0 rho H ∧ Rel K rho M H ∧ RE K rho H env σ ∧ kept w M = true ∧ PostS K W cl rho H (forGo (fun env d => bind env tg d) body w (xs.drop i) env M) D
  refine ⟨fun i m σ H => m = xs.length - i ∧ St i σ H, ⟨_, rfl, rho, M, env, Nat.zero_le _, x, R, E, kw, by rw [List.drop_zero]; exact h⟩, ?_⟩
  rintro i m σ H ⟨rfl, rho, M, env, hi, x, R, E, kw, h⟩
  obtain ⟨w1, w2⟩ := wk rho M H x R kw i
  by_cases hlt : i < xs.length
  · obtain ⟨go, yl⟩ := w1 xs[i] (List.getElem?_eq_getElem hlt)
    refine .inr ⟨go, St (i + 1), fun σ' H' s => ⟨_, by omega, rfl, s⟩, fun y H' hy => ?_⟩
    obtain ⟨kp, x', R', r'⟩ := yl y H' hy
    rw [List.drop_eq_getElem_cons hlt, forGo] at h
    cases eb : bind env tg xs[i] with
    | none => rw [eb] at h; exact h.elim
    | some env1 =>
      rw [eb] at h
      dsimp only at h
      refine ⟨rho, M, env, xs[i], env1, R', E.kp kp, r', eb, fun σ2 E2 _ => ⟨rho, env1, M, R', E2, ?_⟩⟩
      have h := PostS.base x' h
      cases er : body env1 M with
      | nx e2 m2 =>
        rw [er] at h
        dsimp only at h
        split at h
        · rename_i hk
          exact fun rho3 H3 σ3 x3 R3 E3 => ⟨rho3, m2, e2, hlt, (x.trans x').trans x3, R3, E3, hk, PostS.base x3 h⟩
        · exact h.elim
      | ct e2 m2 =>
        rw [er] at h
        dsimp only at h
        split at h
        · rename_i hk
          exact fun rho3 H3 σ3 x3 R3 E3 => ⟨rho3, m2, e2, hlt, (x.trans x').trans x3, R3, E3, hk, PostS.base x3 h⟩
        · exact h.elim
      | bk e2 m2 => rw [er] at h; exact h
      | rt d m2 => rw [er] at h; exact h
      | exc c e2 m2 => rw [er] at h; exact h
      | bad => rw [er] at h; exact h.elim
  · have e : i = xs.length := by omega
    subst e
    rw [List.drop_length, forGo] at h
    exact .inl ⟨w2 (Nat.le_refl _), h rho H σ (Ext.refl _ _) R E⟩
end
section
variable {X : Cx} {W : WX} {cl : Str → Addr} {cal : Callee} {fl : Nat} {pos : Pos}
abbrev DS (X : Cx) (W : WX) (cl : Str → Addr) (e : Stmt) (f : Env → Store → SRes) : Prop := PS X e (tS X.K W cl f)
abbrev DSs (X : Cx) (W : WX) (cl : Str → Addr) (e : List Stmt) (f : Env → Store → SRes) : Prop := PSs X e (tS X.K W cl f)
theorem ds_for {tg iter : Expr} {body : List Stmt} {t : Tg} {k : SrcK} {srcs : List IE} {is : List IS} (hp : PassesOwn (model X.prog X.w) X.A X.env X.xe) (hc : X.calm = true) (hi : DI X W cl tg iter k (evEs cal srcs)) (hg : PG X tg (tG X.K t)) (hb : DSs X W cl body (evSs cal fl is))
    (hs : ∀ x, foldedSetIterable iter X.env x = pure x) (hk : ∀ ds m q, srcItems k ds m = some q → kept q.2 m = true) : DS X W cl (.For tg iter body [] pos) (evS cal fl (.forr t k srcs is)) := by
  refine psImp (ps_for hp hc hi hg hb hs) fun D σ H => ?_
  rintro ⟨rho, env, M, R, E, h⟩
  simp only [evS] at h
  have h := h.uncut R E
  refine ⟨rho, env, M, R, E, ?_⟩
  cases e : evEs cal srcs env M with
  | ok ds m =>
    rw [e] at h
    have h : PostS X.K W cl rho H (match srcItems k ds m with
      | none => .bad
      | some (xs, w) => forGo (fun env d => bind env t d) (fun env m => evSs cal fl is env m) w xs env m) D := h
    show Post X.K W cl (RW X.K) σ rho H (toI k ds m) _
    unfold toI
    cases e2 : srcItems k ds m with
    | none => rw [e2] at h; exact h.elim
    | some q =>
      rw [e2] at h
      obtain ⟨xs, w⟩ := q
      intro rho1 H1 J x1 R1 wk
      exact for_go (D := D) wk (Ext.refl _ _) R1 (E.ext R x1) (hk ds m (xs, w) e2) (PostS.base x1 h)
  | exc c m => rw [e] at h; exact fun rho1 H1 x1 R1 => h rho1 H1 σ x1 R1 (E.ext R x1)
  | bad => rw [e] at h; exact h.elim
theorem ds_while {c : Expr} {body : List Stmt} {i : IE} {is : List IS} (hp : PassesOwn (model X.prog X.w) X.A X.env X.xe) (hc : DT X W cl c (evT cal i)) (hb : DSs X W cl body (evSs cal fl is)) : DS X W cl (.While c body [] pos) (evS cal fl (.whil i is)) := by
  refine psImp (ps_while hp hc hb) fun D σ H => ?_
  rintro ⟨rho, env, M, R, E, h⟩
  simp only [evS] at h
  have h := h.uncut R E
  let St (n : Nat) (σ : L2.St) (H : Hp) : Prop := ∃ rho M env, Rel X.K rho M H ∧ RE X.K rho H env σ ∧ PostS X.K W cl rho H (whileGo (fun env m => evT cal i env m) (fun env m => evSs cal fl is env m) n env M) D
  refine ⟨St, ⟨fl, rho, M, env, R, E, h⟩, ?_⟩
  rintro n σ H ⟨rho, M, env, R, E, h⟩
  cases n with
  | zero => exact h.elim
  | succ n =>
    rw [whileGo] at h
    refine ⟨rho, env, M, R, E, PostS.bind R E h fun b M1 rho1 H1 b' x1 R1 eb h1 => ?_⟩
    cases eb
    cases b with
    | false => exact h1 rho1 H1 σ (Ext.refl _ _) R1 (E.ext R x1)
    | true =>
      rw [if_pos rfl] at h1 ⊢
      refine ⟨St n, fun σ' H' s => ⟨n, Nat.lt_succ_self n, s⟩, rho1, env, M1, R1, E.ext R x1, ?_⟩
      cases er : evSs cal fl is env M1 with
      | nx e2 m2 => rw [er] at h1; exact fun rho3 H3 σ3 x3 R3 E3 => ⟨rho3, m2, e2, R3, E3, PostS.base x3 h1⟩
      | ct e2 m2 => rw [er] at h1; exact fun rho3 H3 σ3 x3 R3 E3 => ⟨rho3, m2, e2, R3, E3, PostS.base x3 h1⟩
      | bk e2 m2 => rw [er] at h1; exact h1
      | rt d m2 => rw [er] at h1; exact h1
      | exc c e2 m2 => rw [er] at h1; exact h1
      | bad => rw [er] at h1; exact h1.elim

/-! ### small statements -/
theorem dss_nil : DSs X W cl [] (evSs cal fl []) := by
  refine pssImp pss_nil fun D σ H => ?_
  rintro ⟨rho, env, M, R, E, h⟩
  rw [evSs] at h
  exact h rho H σ (Ext.refl _ _) R E
theorem dss_cons {s : Stmt} {ss : List Stmt} {i : IS} {is : List IS} (h1 : DS X W cl s (evS cal fl i)) (h2 : DSs X W cl ss (evSs cal fl is)) : DSs X W cl (s :: ss) (evSs cal fl (i :: is)) := by
  refine pssImp (pss_cons h1 h2) fun D σ H => ?_
  rintro ⟨rho, env, M, R, E, h⟩
  rw [evSs] at h
  exact ⟨rho, env, M, R, E, h.seq (D' := { D with nx := tS X.K W cl (evSs cal fl is) D }) (fun env1 M1 rho1 H1 σ1 x1 R1 E1 h1 => ⟨rho1, env1, M1, R1, E1, h1⟩) rfl rfl rfl⟩
theorem ds_pass : DS X W cl (.Pass pos) (evS cal fl .pass) := by
  refine psImp ps_pass fun D σ H => ?_
  rintro ⟨rho, env, M, R, E, h⟩
  rw [evS] at h
  exact h rho H σ (Ext.refl _ _) R E
theorem ds_brk : DS X W cl (.Break pos) (evS cal fl .brk) := by
  refine psImp ps_break fun D σ H => ?_
  rintro ⟨rho, env, M, R, E, h⟩
  rw [evS] at h
  exact h rho H σ (Ext.refl _ _) R E
theorem ds_cont : DS X W cl (.Continue pos) (evS cal fl .cont) := by
  refine psImp ps_continue fun D σ H => ?_
  rintro ⟨rho, env, M, R, E, h⟩
  rw [evS] at h
  exact h rho H σ (Ext.refl _ _) R E
theorem ds_expr {e : Expr} {i : IE} (he : DE X W cl e (evE cal i)) (hs : swapsWith e none pos.line X.env = pure false) : DS X W cl (.Expr e pos) (evS cal fl (.expr i)) := by
  refine psImp (ps_expr he hs) fun D σ H => ?_
  rintro ⟨rho, env, M, R, E, h⟩
  simp only [evS] at h
  have h := h.uncut R E
  exact ⟨rho, env, M, R, E, PostS.bind R E h fun d M1 rho1 H1 v x1 R1 r1 h1 => h1 rho1 H1 σ (Ext.refl _ _) R1 (E.ext R x1)⟩
theorem ds_ret {e : Expr} {i : IE} (he : DE X W cl e (evE cal i)) : DS X W cl (.Return (some e) pos) (evS cal fl (.ret i)) := by
  refine psImp (ps_ret he) fun D σ H => ?_
  rintro ⟨rho, env, M, R, E, h⟩
  simp only [evS] at h
  exact ⟨rho, env, M, R, E, PostS.bind R E h fun d M1 rho1 H1 v x1 R1 r1 h1 => h1 rho1 H1 v (Ext.refl _ _) R1 r1⟩
theorem ds_retN : DS X W cl (.Return none pos) (evS cal fl .retN) := by
  refine psImp ps_retN fun D σ H => ?_
  rintro ⟨rho, env, M, R, E, h⟩
  rw [evS] at h
  exact h rho H .non (Ext.refl _ _) R (by rw [RD])
theorem ds_if {c : Expr} {a b : List Stmt} {i : IE} {is js : List IS} (hc : DT X W cl c (evT cal i)) (ha : DSs X W cl a (evSs cal fl is)) (hb : DSs X W cl b (evSs cal fl js)) : DS X W cl (.If c a b pos) (evS cal fl (.iff i is js)) := by
  refine psImp (ps_if hc ha hb) fun D σ H => ?_
  rintro ⟨rho, env, M, R, E, h⟩
  simp only [evS] at h
  have h := h.uncut R E
  refine ⟨rho, env, M, R, E, PostS.bind R E h fun b M1 rho1 H1 b' x1 R1 eb h1 => ?_⟩
  cases eb
  cases b with
  | true => rw [if_pos rfl] at h1 ⊢; exact ⟨rho1, env, M1, R1, E.ext R x1, h1⟩
  | false => rw [if_neg Bool.false_ne_true] at h1 ⊢; exact ⟨rho1, env, M1, R1, E.ext R x1, h1⟩
theorem asg_of {st : Stmt} {i : IE} {t : Tg} {g : TG} (h : PS X st (tAsg (tD X.K W cl (evE cal i)) g)) (hg : ∀ v σ H Q, tG X.K t v σ H Q → g v σ H Q) : DS X W cl st (evS cal fl (.asg t i)) := by
  refine psImp h fun D σ H => ?_
  rintro ⟨rho, env, M, R, E, h⟩
  simp only [evS] at h
  have h := h.uncut R E
  refine ⟨rho, env, M, R, E, PostS.bind R E h fun d M1 rho1 H1 v x1 R1 r1 h1 => hg _ _ _ _ ?_⟩
  cases eb : bind env t d with
  | none => rw [eb] at h1; exact h1.elim
  | some env1 =>
    rw [eb] at h1
    exact ⟨rho1, M1, env, d, env1, R1, E.ext R x1, r1, eb, fun σ' E' _ => h1 rho1 H1 σ' (Ext.refl _ _) R1 E'⟩
theorem ds_asg {tg e : Expr} {i : IE} {t : Tg} (he : DE X W cl e (evE cal i)) (hg : PG X tg (tG X.K t)) (hs : swapsWithSole [tg] e pos.line X.env = pure false) (hw : swappedStores [tg] e X.env = pure none) (h1 : (assignEach [tg] X.env).map (·.2) = [assign tg X.env]) :
    DS X W cl (.Assign [tg] e pos) (evS cal fl (.asg t i)) := asg_of (ps_asg he hg hs hw h1) fun _ _ _ _ q => q
/-- o[k] = e -/
theorem ds_sub {o k e : Expr} {i j l : IE} {p2 : Pos} (he : DE X W cl e (evE cal i)) (ho : DE X W cl o (evE cal j)) (hk : DE X W cl k (evE cal l))
    (ps : PS X (.Assign [.Subscript o k p2] e pos) (tAsg (tD X.K W cl (evE cal i)) (gSub (tD X.K W cl (evE cal j)) (tD X.K W cl (evE cal l)) rSetL))) : DS X W cl (.Assign [.Subscript o k p2] e pos) (evS cal fl (.asgSub j l i)) := by
  refine psImp ps fun D σ H => ?_
  rintro ⟨rho, env, M, R, E, h⟩
  simp only [evS] at h
  have h := h.uncut R E
  refine ⟨rho, env, M, R, E, PostS.bind R E h fun d M1 rho1 H1 v x1 R1 r1 h1 => ?_⟩
  refine ⟨rho1, env, M1, R1, E.ext R x1, PostS.bind R1 (E.ext R x1) h1 fun d2 M2 rho2 H2 v2 x2 R2 r2 h2 => ?_⟩
  have E2 := (E.ext R x1).ext R1 x2
  refine ⟨rho2, env, M2, R2, E2, PostS.bind R2 E2 h2 fun d3 M3 rho3 H3 v3 x3 R3 r3 h3 => ?_⟩
  have r2 := RD.ext R2 x3 _ _ r2
  have r1 := RD.ext R2 x3 _ _ (RD.ext R1 x2 _ _ r1)
  unfold setOp at h3
  split at h3
  · obtain ⟨a, ha, rfl⟩ := rd_ref r2
    split at h3
    · rename_i kvs e4
      exact ((R3.ro _ _ a e4 ha).elim)
    · rename_i xs e4
      obtain ⟨vs, h4, hs⟩ := R3.lst e4 ha
      split at h3
      · cases rd_int r3
        split at h3
        · rename_i n en
          refine ⟨a, vs, _, n, rfl, rfl, h4, by rw [hs.length]; exact en, ?_⟩
          have R4 := R3.writeL (vs := vs.set n v) (ds := xs.set n d) ha (hs.set n r1)
          exact h3 rho3 _ σ (ext_write ha) R4 ((E2.ext R2 x3).ext R3 (ext_write ha))
        · exact h3.elim
      · exact h3.elim
    · exact h3.elim
  · exact h3.elim
theorem ds_aug {i : Nat} {x : Str} {e : Expr} {j : IE} {p2 : Pos} (ps : PS X (.AugAssign (.Name x p2) .Add e pos) (tAug i (tD X.K W cl (evE cal j)) (ipI fun i j => i + j))) : DS X W cl (.AugAssign (.Name x p2) .Add e pos) (evS cal fl (.aug i j)) := by
  refine psImp ps fun D σ H => ?_
  rintro ⟨rho, env, M, R, E, h⟩
  simp only [evS] at h
  have h := h.uncut R E
  split at h
  · rename_i x0 ex
    obtain ⟨v0, ev, r0⟩ := E.2 i _ ex
    refine ⟨v0, ev, rho, env, M, R, E, PostS.bind R E h fun d M1 rho1 H1 v x1 R1 r1 h1 => ?_⟩
    split at h1
    · cases rd_int r0; cases rd_int r1
      exact ⟨_, _, rfl, rfl, h1 rho1 H1 _ (Ext.refl _ _) R1 ((E.ext R x1).set (by rw [RD]))⟩
    · exact h1.elim
  · exact h.elim
end
end DV

/-! DvComp: list comprehensions; methods of lists. -/
namespace DV
open PySem PySem.Spec PyProof.Rows L2

/-- in a comprehension's block nothing is raised -/
abbrev W0 : WX := fun _ _ _ _ => False
section
variable {K : PySem.W.Frag} {W : WX} {cl : Str → Addr}
theorem Rel.besideW {rho : List Addr} {M : Store} {H : Hp} {p : Addr} {o : HO} {xs : List V} (R : Rel K rho M H) (hp : H p = some (.lst xs)) (hn : p ∉ rho) : Rel K rho M (upd H p o) where
  len := R.len
  nd := R.nd
  ro := fun n u a e1 e2 => by
    have r := R.ro n u a e1 e2
    have ne : a ≠ p := fun z => hn (by rw [← z]; exact List.mem_of_getElem? e2)
    cases u with
    | lst ds =>
      obtain ⟨vs, h, hs⟩ := r
      exact ⟨vs, by rw [upd_ne ne]; exact h, RDs.kp (Kp.write hp) _ _ hs⟩
    | dct _ => exact r.elim
    | ins _ _ => exact r.elim
    | tab _ => exact ⟨r.1, tabKeep (Kp.write (rho := rho) hp).xt (upd_ne ne) r.2⟩

theorem Rel.join {rho : List Addr} {M : Store} {H : Hp} {p : Addr} {vs : List V} {ds : List D} (R : Rel K rho M H) (hn : p ∉ rho) (e : H p = some (.lst vs)) (r : RDs K rho H ds vs) : Rel K (rho ++ [p]) (M ++ [.lst ds]) H := by
  have kp : Kp rho H (rho ++ [p]) H := ⟨fun j b e => by rw [List.getElem?_append_left (List.getElem?_eq_some_iff.mp e).1]; exact e, fun _ _ e => e, fun _ _ _ e => e, fun _ _ e => e⟩
  refine ⟨by rw [List.length_append, List.length_append, R.len]; rfl, List.nodup_append.mpr ⟨R.nd, by simp, fun c hc b hb => by rw [List.mem_singleton.mp hb]; exact fun z => hn (z ▸ hc)⟩, fun j u b e1 e2 => ?_⟩
  by_cases hj : j < M.length
  · rw [List.getElem?_append_left hj] at e1
    rw [List.getElem?_append_left (by rw [R.len]; exact hj)] at e2
    have q := R.ro j u b e1 e2
    cases u with
    | lst ws => obtain ⟨vs, e1, e2⟩ := q; exact ⟨vs, e1, RDs.kp kp _ _ e2⟩
    | dct _ => exact q.elim
    | ins _ _ => exact q.elim
    | tab _ => exact q
  · rw [List.getElem?_append_right (by omega)] at e1
    rw [List.getElem?_append_right (by rw [R.len]; omega), R.len] at e2
    cases hk : j - M.length with
    | zero => rw [hk] at e1 e2; cases e1; cases e2; exact ⟨vs, e, RDs.kp kp _ _ r⟩
    | succ q => rw [hk] at e1; simp at e1
/-- behind an item's expression -/
theorem cutE_rel {rho rho1 : List Addr} {M M1 : Store} {H H1 : Hp} (d : D) (R : Rel K rho M H) (x : Ext rho H rho1 H1) (R1 : Rel K rho1 M1 H1) :
    ∃ rho2, Ext rho H rho2 H1 ∧ Rel K rho2 (cutE M d M1) H1 ∧ (∀ a, a ∈ rho2 → a ∈ rho1) ∧ ∀ ds vs, (D.bnd M.length d = true → D.bndAll M.length ds = true) → RDs K rho1 H1 ds vs → RDs K rho2 H1 ds vs := by
  unfold cutE
  split
  · exact ⟨rho1, x, R1, fun _ h => h, fun ds vs _ r => r⟩
  · split
    · rename_i z
      rw [Bool.and_eq_true] at z
      refine ⟨rho, x.back, R.back x R1 z.1, fun a h => ?_, fun ds vs hb r => ?_⟩
      · obtain ⟨t, rfl⟩ := x.pre
        exact List.mem_append_left _ h
      · have := RDs.cut ds vs (hb z.2) r
        rw [← R.len, take_pre x] at this
        exact this
    · exact ⟨rho1, x, R1, fun _ h => h, fun ds vs _ r => r⟩

theorem comp_go {own : List Nat} {J : It} {xs : List D} {w : Option (Nat × MO)} {rho0 : List Addr} {H1 : Hp} {M1 : Store} {env : Env} {σ : L2.St} {tg : Tg} {tests : Env → Store → Res Bool} {elt : Env → Store → Res D} {Q : VK} {Dn : Addr}
    (wk : Wk K J xs w rho0 H1) (R0 : Rel K rho0 M1 H1) (E : RE K rho0 H1 env σ) (kw : kept w M1 = true) (hD : H1 Dn = none) (ho : ∀ n ∈ tg.slots, n ∈ own)
    (h : Post K W cl (RD K) σ rho0 H1 ((compGo (fun d => bind (wipe env own) tg d) tests elt w xs [] M1).bind fun acc m => .ok (.ref m.length) (m ++ [.lst acc])) Q) :
    ∃ Wm : Nat → Nat → Hp → Prop, (∃ m, Wm 0 m (upd H1 Dn (.lst []))) ∧ ∀ i m H, Wm i m H → (J.stop i H ∧ Q (.ref Dn) H) ∨ (J.go i H ∧ ∃ Nx : Hp → Prop, (∀ H', Nx H' → ∃ m', m' < m ∧ Wm (i + 1) m' H') ∧
      ∀ y H', J.yld i H y H' → tG K tg y (L2.wipe σ own) H' fun σ2 H2 => L2.wipe σ2 own = L2.wipe σ own ∧ tT K W0 cl tests σ2 H2 fun b H3 =>
        if b = true then tD K W0 cl elt σ2 H3 fun y H4 => ∃ acc, H4 Dn = some (.lst acc) ∧ acc.length < sizeLine ∧ Nx (upd H4 Dn (.lst (acc ++ [y]))) else Nx H3) := by
  let St (i : Nat) (H : Hp) : Prop := ∃ rho M acc vs, i ≤ xs.length ∧ Ext rho0 H1 rho H ∧ Rel K rho M H ∧ Dn ∉ rho ∧ H Dn = some (.lst vs) ∧ RDs K rho H acc vs ∧ kept w M = true ∧ RE K rho H env σ ∧
    Post K W cl (RD K) σ rho0 H1 ((compGo (fun d => bind (wipe env own) tg d) tests elt w (xs.drop i) acc M).bind fun acc m => .ok (.ref m.length) (m ++ [.lst acc])) Q
  have hn0 : Dn ∉ rho0 := R0.away hD
  refine ⟨fun i m H => m = xs.length - i ∧ St i H, ⟨_, rfl, rho0, M1, [], [], Nat.zero_le _, ext_aside hD, R0.aside hD, hn0, upd_same, by rw [RDs], kw, E.ext R0 (ext_aside hD), by rw [List.drop_zero]; exact h⟩, ?_⟩
  rintro i m H ⟨rfl, rho, M, acc, vs, hi, x, R, hn, eD, rs, kw, E, h⟩
  obtain ⟨w1, w2⟩ := wk rho M H x R kw i
  by_cases hlt : i < xs.length
  · obtain ⟨go, yl⟩ := w1 xs[i] (List.getElem?_eq_getElem hlt)
    refine .inr ⟨go, St (i + 1), fun H' s => ⟨_, by omega, rfl, s⟩, fun y H' hy => ?_⟩
    obtain ⟨kp, x', R', r'⟩ := yl y H' hy
    rw [List.drop_eq_getElem_cons hlt, compGo] at h
    cases eb : bind (wipe env own) tg xs[i] with
    | none => rw [eb] at h; exact h.elim
    | some env1 =>
      rw [eb] at h
      dsimp only at h
      have eD' : H' Dn = some (.lst vs) := x'.fr _ _ eD hn (by intro _ z; cases z)
      refine ⟨rho, M, wipe env own, xs[i], env1, R', (E.wipe own).kp kp, r', eb, fun σ2 E2 of => ⟨of.wipe ho, rho, env1, M, R', E2, ?_⟩⟩
      cases et : tests env1 M with
      | ok b m1 =>
        rw [et] at h
        intro rho3 H3 b' x3 R3 eb3
        cases eb3
        have n3 : ∀ {rho5 : List Addr} {H5 : Hp}, Ext rho H' rho5 H5 → Dn ∉ rho5 := fun {rho5 H5} x5 z => (x5.new _ z).elim hn (fun z => z.elim (fun z => by rw [eD'] at z; cases z) fun ⟨ps, z⟩ => by rw [eD'] at z; cases z)
        have eD3 : H3 Dn = some (.lst vs) := x3.fr _ _ eD' hn (by intro _ z; cases z)
        cases b with
        | false =>
          rw [if_neg Bool.false_ne_true]
          dsimp only at h
          split at h
          · rename_i hk
            obtain ⟨rho5, x5, R5, _, k5⟩ := cutE_rel .non R' x3 R3
            refine ⟨rho5, _, acc, vs, hlt, (x.trans x').trans x5, R5, n3 x5, eD3, RDs.ext R' x5 _ _ (RDs.kp kp _ _ rs), hk, (E.kp kp).ext R' x5, h⟩
          · exact h.elim
        | true =>
          rw [if_pos rfl]
          dsimp only at h
          refine ⟨rho3, env1, m1, R3, E2.ext R' x3, ?_⟩
          cases ee : elt env1 m1 with
          | ok z m2 =>
            rw [ee] at h
            intro rho4 H4 v x4 R4 r4
            dsimp only at h
            split at h
            · rename_i hk
              rw [Bool.and_eq_true, decide_eq_true_eq] at hk
              have eD4 : H4 Dn = some (.lst vs) := x4.fr _ _ eD3 (n3 x3) (by intro _ z; cases z)
              obtain ⟨rho5, x5, R5, _, k5⟩ := cutE_rel (.tup (z :: acc)) R' (x3.trans x4) R4
              have rs4 := RDs.ext R' (x3.trans x4) _ _ (RDs.kp kp _ _ rs)
              have rs5 : RDs K rho5 H4 (z :: acc) (v :: vs) := k5 _ _ (fun q => by rw [D.bnd] at q; exact q) (by rw [RDs]; exact ⟨v, vs, rfl, r4, rs4⟩)
              rw [RDs] at rs5
              obtain ⟨v5, u5, e5, r5, rs5⟩ := rs5
              cases e5
              have kp5 : Kp rho5 H4 rho5 (upd H4 Dn (.lst (vs ++ [v]))) := Kp.write eD4
              refine ⟨vs, eD4, by rw [rs.length, ← line_eq]; exact hk.2, rho5, _, acc ++ [z], vs ++ [v], hlt, ?_, R5.besideW eD4 (n3 x5), n3 x5, upd_same, RDs.kp kp5 _ _ (rs5.snoc r5), hk.1, RE.kp kp5 ((E.kp kp).ext R' x5), h⟩
              have xx := (x.trans x').trans x5
              refine ⟨xx.pre, fun b o e hb ht => ?_, xx.new⟩
              rw [upd_ne fun q => by rw [q, hD] at e; cases e]
              exact xx.fr b o e hb ht
            · exact h.elim
          | exc c m2 => rw [ee] at h; exact h.elim
          | bad => rw [ee] at h; exact h.elim
      | exc c m1 => rw [et] at h; exact h.elim
      | bad => rw [et] at h; exact h.elim
  · have e : i = xs.length := by omega
    subst e
    rw [List.drop_length, compGo, Res.bind_ok] at h
    refine .inl ⟨w2 (Nat.le_refl _), h.okTo (rho1 := rho ++ [Dn]) ⟨x.pre.trans ⟨_, rfl⟩, x.fr, fun a ha => ?_⟩ (R.join hn eD rs) ?_⟩
    · rcases List.mem_append.mp ha with q | q
      · exact x.new a q
      · rw [List.mem_singleton.mp q]; exact .inr (.inl hD)
    · rw [RD]
      exact ⟨Dn, by rw [← R.len]; simp, rfl⟩
end

section
variable {X : Cx} {W : WX} {cl : Str → Addr} {cal : Callee} {pos : Pos} {fl : Nat}
theorem evTests_nil : evTests cal [] = fun _ m => .ok true m := by funext e m; simp [evTests]
theorem dts_nil {X : Cx} : PTs X [] (tT X.K W cl (fun env m => evTests cal [] env m)) := by
  refine ⟨fun pins s σ H Q I h => pts_nil.run pins s σ H Q I ?_⟩
  obtain ⟨rho, env, M, R, E, h⟩ := h
  simp only [evTests] at h
  exact h.ok R rfl
theorem dts_one {X : Cx} {c : Expr} {i : IE} (hc : DT X W cl c (evT cal i)) : PTs X [c] (tT X.K W cl (fun env m => evTests cal [i] env m)) := by
  refine ⟨fun pins s σ H Q I h => (pts_one hc).run pins s σ H Q I ?_⟩
  obtain ⟨rho, env, M, R, E, h⟩ := h
  simp only [evTests] at h
  refine ⟨rho, env, M, R, E, ?_⟩
  rw [evT_eq]
  cases e : evE cal i env M with
  | ok d m =>
    rw [e] at h
    cases d with
    | bl b => cases b <;> exact h
    | _ => exact h.elim
  | exc c m => rw [e] at h; exact h
  | bad => rw [e] at h; exact h
/-- the reading of a comprehension, whatever it is used for -/
theorem comp_read {own : List Nat} {tg : Tg} {k : SrcK} {srcs tests : List IE} {elt : IE} {σ : L2.St} {H : Hp} {Q : VK} (ho : ∀ n ∈ tg.slots, n ∈ own) (hk : ∀ ds m q, srcItems k ds m = some q → kept q.2 m = true)
    (h : tD X.K W cl (evE cal (.comp elt tg own k srcs tests)) σ H Q) :
    tLc (tSrc X.K W cl k (evEs cal srcs)) (tG X.K tg) (tT X.K W0 cl (fun env m => evTests cal tests env m)) (tD X.K W0 cl (evE cal elt)) own σ H Q := by
  obtain ⟨rho, env, M, R, E, h⟩ := h
  simp only [evE] at h
  refine ⟨rho, env, M, R, E, ?_⟩
  cases e : evEs cal srcs env M with
  | ok ds m =>
    rw [e] at h
    have h : Post X.K W cl (RD X.K) σ rho H (match srcItems k ds m with
      | none => .bad
      | some (xs, w) => (compGo (fun d => bind (wipe env own) tg d) (fun e m => evTests cal tests e m) (fun e m => evE cal elt e m) w xs [] m).bind fun acc m => .ok (.ref m.length) (m ++ [.lst acc])) Q := h
    show Post X.K W cl (RW X.K) σ rho H (toI k ds m) _
    unfold toI
    cases e2 : srcItems k ds m with
    | none => rw [e2] at h; exact h.elim
    | some q =>
      rw [e2] at h
      obtain ⟨xs, w⟩ := q
      intro rho1 H1 J x1 R1 wk Dn hD
      exact comp_go (Q := Q) wk R1 (E.ext R x1) (hk ds m (xs, w) e2) hD ho (Post.base x1 h)
  | exc c m => rw [e] at h; exact h
  | bad => rw [e] at h; exact h.elim
theorem de_comp {elt tg iter : Expr} {ifs : List Expr} {scope : Scope} {own : List (Str × Nat)} {t : Tg} {k : SrcK} {srcs tests : List IE} {i : IE} (hc : X.calm = true) (hN : X.N.Nodup) (hi : DI X W cl tg iter k (evEs cal srcs)) (ok : BlkOk X.N X.env.scope scope own)
    (hg : ∀ (s : Shared) (H : Hp) (C : Addr) (c : List (Str × Addr)) (fp : List Addr), PG (X.blk s H scope (compEnvC scope c C X.env) fp) tg (tG X.K t))
    (ht : ∀ (s : Shared) (H : Hp) (C : Addr) (c : List (Str × Addr)) (fp : List Addr), PTs (X.blk s H scope (compEnvC scope c C X.env) fp) ifs (tT X.K W0 cl (fun env m => evTests cal tests env m)))
    (he : ∀ (s : Shared) (H : Hp) (C : Addr) (c : List (Str × Addr)) (fp : List Addr), PE (X.blk s H scope (compEnvC scope c C X.env) fp) elt (tD X.K W0 cl (evE cal i)))
    (hs : ∀ x, foldedSetIterable iter X.env x = pure x) (ho : ∀ n ∈ t.slots, n ∈ own.map (·.2)) (hk : ∀ ds m q, srcItems k ds m = some q → kept q.2 m = true) :
    DE X W cl (.ListComp elt [⟨tg, iter, ifs, 0⟩] scope pos) (evE cal (.comp i t (own.map (·.2)) k srcs tests)) :=
  peImp (pe_lc hc hN hi ok hg ht he hs) fun σ H Q h => comp_read ho hk h
theorem ds_setComp {y : Nat} {n : Str} {py spos : Pos} {elt tg iter : Expr} {ifs : List Expr} {scope : Scope} {own : List (Str × Nat)} {t : Tg} {k : SrcK} {srcs tests : List IE} {i : IE} (hc : X.calm = true) (hN : X.N.Nodup)
    (hy : X.N[y]? = some n) (hyl : X.env.scope.names.lookup n = some .local) (hsw : swapsWith (.ListComp elt [⟨tg, iter, ifs, 0⟩] scope pos) (some (.Name n py)) spos.line X.env = pure true) (hi : DI X W cl tg iter k (evEs cal srcs)) (ok : BlkOk X.N X.env.scope scope own)
    (hg : ∀ (s : Shared) (H : Hp) (C : Addr) (c : List (Str × Addr)) (fp : List Addr), PG (X.blk s H scope (compEnvC scope c C X.env) fp) tg (tG X.K t))
    (ht : ∀ (s : Shared) (H : Hp) (C : Addr) (c : List (Str × Addr)) (fp : List Addr), PTs (X.blk s H scope (compEnvC scope c C X.env) fp) ifs (tT X.K W0 cl (fun env m => evTests cal tests env m)))
    (he : ∀ (s : Shared) (H : Hp) (C : Addr) (c : List (Str × Addr)) (fp : List Addr), PE (X.blk s H scope (compEnvC scope c C X.env) fp) elt (tD X.K W0 cl (evE cal i)))
    (hs : ∀ x, foldedSetIterable iter X.env x = pure x) (ho : ∀ n ∈ t.slots, n ∈ own.map (·.2)) (hk : ∀ ds m q, srcItems k ds m = some q → kept q.2 m = true) :
    DS X W cl (.Assign [.Name n py] (.ListComp elt [⟨tg, iter, ifs, 0⟩] scope pos) spos) (evS cal fl (.asg (.nm y) (.comp i t (own.map (·.2)) k srcs tests))) := by
  refine asg_of (g := gName y) (psImp (ps_setLc hc hN hy hyl hsw hi ok hg ht he hs) fun D σ H h => comp_read ho hk h) fun v σ H Q => ?_
  rintro ⟨rho, M, env, d, env', R, E, r, e, q⟩
  simp only [bind, Option.some.injEq] at e
  subst e
  exact q _ (E.set r) ⟨by rw [List.length_set], fun j hj => List.getElem?_set_ne (fun z => hj (by rw [Tg.slots, z]; exact List.mem_singleton_self _))⟩

/-! ### methods of lists -/
theorem mth_list {x : D} {M : Store} {rho : List Addr} {H : Hp} {v : V} {t : Mth} (R : Rel X.K rho M H) (r : RD X.K rho H x v) (h : mthOk t x M = true) : tyV X.K "list" v H := by
  unfold mthOk at h
  split at h
  · obtain ⟨a, ha, rfl⟩ := rd_ref r
    split at h
    · rename_i e
      obtain ⟨ws, h1, _⟩ := R.lst e ha
      exact .inl ⟨rfl, ws, .of h1⟩
    · cases h
  · cases h
theorem de_append {e : Expr} {i j : IE} (h : PE X e (tBM X.K "list" rAppend (tD X.K W cl (evE cal i)) (tDs X.K W cl (evEs cal [j])))) : DE X W cl e (evE cal (.meth .append i [j])) := by
  refine de_meth h (fun x ds M rho H v vs σ Q R r rs h => ?_) fun x M rho H v R r h => mth_list R r h
  unfold methOp at h
  split at h <;> first | contradiction | skip
  · obtain ⟨a, ha, rfl⟩ := rd_ref r
    obtain ⟨u, rfl, ru⟩ := rds1 rs
    split at h
    · rename_i xs e1
      obtain ⟨ws, h1, hs⟩ := R.lst e1 ha
      split at h
      · rename_i hz
        refine ⟨a, ws, u, rfl, rfl, h1, by rw [hs.length, ← line_eq]; exact hz, ?_⟩
        exact h.okTo (ext_write ha) (R.writeL ha (hs.snoc ru)) (by rw [RD])
      · exact h.elim
    · exact h.elim
theorem de_extend {e : Expr} {i j : IE} (h : PE X e (tBM X.K "list" rExtend (tD X.K W cl (evE cal i)) (tDs X.K W cl (evEs cal [j])))) : DE X W cl e (evE cal (.meth .extend i [j])) := by
  refine de_meth h (fun x ds M rho H v vs σ Q R r rs h => ?_) fun x M rho H v R r h => mth_list R r h
  unfold methOp at h
  split at h <;> first | contradiction | skip
  · obtain ⟨a, ha, rfl⟩ := rd_ref r
    obtain ⟨u, rfl, ru⟩ := rds1 rs
    obtain ⟨b, hb, rfl⟩ := rd_ref ru
    split at h
    · rename_i xs ys e1 e2
      obtain ⟨ws, h1, hs⟩ := R.lst e1 ha
      obtain ⟨us, h2, hu⟩ := R.lst e2 hb
      split at h
      · rename_i hz
        refine ⟨a, b, ws, us, rfl, rfl, h1, h2, by rw [hs.length, hu.length, ← line_eq]; exact hz, ?_⟩
        exact h.okTo (ext_write ha) (R.writeL ha (hs.append hu)) (by rw [RD])
      · exact h.elim
    · exact h.elim
end
end DV

/-! DvSort: sorted(range(len(x)), key=lambda k: x[k]). -/
namespace DV
open PySem PySem.Spec PyProof.Rows L2
open PySem.W (EachIs)

/-! ### sorted(range(n), key=f) -/
section
variable {prog : Program} {w : World} {A : Around} {E : Value → Shared → Prop} {s : Shared}
abbrev IntIs : Value → Nat → Prop := fun v i => ∃ t, v = .int (i : Int) t
theorem each_int {acc : List Value} : ∀ {n : Nat} {l : List Nat}, acc.length = l.length → (∀ (j : Nat) (v : Value) (i : Nat), acc[j]? = some v → l[j]? = some i → IntIs v i) → EachIs IntIs acc l := by
  induction acc with
  | nil =>
    intro n l hl h
    cases l with
    | nil => exact .nil
    | cons a l => simp at hl
  | cons a acc ih =>
    intro n l hl h
    cases l with
    | nil => simp at hl
    | cons b l => exact .cons (h 0 a b rfl rfl) (ih (n := n) (by simpa using hl) fun j v i h1 h2 => h (j + 1) v i h1 h2)
theorem sorted_rng_key {r q : Addr} {n : Nat} {t u v : Tok} {k : Nat → PyData} {Q : Value → Shared → Prop} (hh : A.handled = none) (hr : IsRange s.heap r 0 (n : Int) 1 t u v) (hn : n ≤ 2 ^ 24) (hal : PySem.W.AllAlike ((List.range n).map k)) (hk : PySem.W.Sortable ((List.range n).map k))
    (hu : ∀ i, i < n → A.units + 2 + (k i).depth < cLine)
    (turn : ∀ (i : Nat) (t : Tok), i < n → ∀ (h : Heap) (tk : Nat), (∀ b o, s.heap.get? b = some o → h.get? b = some o) →
      wpAny (model prog w) A.in1.in1 (call (.ref q) [.int (i : Int) t]) (PySem.W.KeyPure (k i) { s with heap := h, toks := tk }) (fun _ _ => False) { s with heap := h, toks := tk })
    (h : ∀ (h1 : Heap) (out : List Value) (c : Nat) (h' : Heap) (tk : Nat), (∀ b o, s.heap.get? b = some o → h1.get? b = some o) → (∀ b o, h1.get? b = some o → h'.get? b = some o) → h'.get? h1.objs.size = some (seqObj "list" (List.toArray out) c) →
      EachIs IntIs out ((List.range n).mergeSort (PySem.W.dataLe false k)) → Q (.ref h1.objs.size) { s with heap := h', toks := tk }) :
    wpAny (model prog w) A (call (.builtin "sorted") [.ref r] [(Str.ofString "key", .ref q)]) Q E s := by
  refine call_function_entry_kw kind_sorted plain_sorted entry_sorted (ksk_s1 _ _) ?_
  unfold Builtin.«sorted»
  refine wpAny_bind (m := checkCount "sorted" 1 1 _) (wpAny_pure ?_)
  refine wpAny_bind (collect_range (A := A.in1) (n := n) hh hr ?_ ?_ hn fun h1 tk1 acc k1 it => ?_)
  · exact small_one (by omega) (by omega) (by omega) (by omega)
  · have := rangeSize_nat 0 (n : Int)
    rw [this]
    omega
  have e0 : EachIs IntIs acc.toList (List.range n) := each_int (n := n) (by rw [Array.length_toList, it.1, List.length_range]) fun j v i a1 a2 => by
    obtain ⟨hl, a3⟩ := List.getElem?_eq_some_iff.mp a2
    rw [List.getElem_range] at a3
    subst a3
    obtain ⟨t, rfl⟩ := it.2 j v (by rw [← Array.getElem?_toList]; exact a1)
    exact ⟨t, by rw [Int.zero_add, Int.mul_one]⟩
  have hz : acc.toList.length ≤ sizeLine := by rw [Array.length_toList, it.1, sizeLine_eq]; omega
  refine wpAny_bind (wpAny_newList ?_ hz)
  refine wpAny_bind (wpAny_holding (wpAny_call_entry_kw slot_list_sort ⟨_, Heap.get?_push_size _ rfl, rfl⟩ entry_list_sort ?body (ksk_l1 _ _)))
  case body =>
    rw [ksk_t1]
    have up1 : ∀ {g : Heap}, PySem.W.KeepsBut h1.objs.size (h1.push (seqObj "list" acc.toList.toArray 0)) g → ∀ b o, h1.get? b = some o → g.get? b = some o := fun {g} kp b o e =>
      kp b o (Nat.ne_of_lt (Heap.lt_size e)) (Heap.get?_push_of_some _ e)
    have up : ∀ {g : Heap}, PySem.W.KeepsBut h1.objs.size (h1.push (seqObj "list" acc.toList.toArray 0)) g → ∀ b o, s.heap.get? b = some o → g.get? b = some o := fun {g} kp b o e => up1 kp b o (k1 b o e)
    refine PySem.W.keyH_tree (kz := (List.range n).map k) (s := { s with heap := h1.push (seqObj "list" acc.toList.toArray 0), toks := tk1 }) (vs := acc.toList) (n := 0) (Heap.get?_push_size _ rfl) (by rw [List.length_map, List.length_range, Array.length_toList, it.1]) hz hal hk ?_
      (PySem.W.keyH_turns (s := { s with heap := h1.push (seqObj "list" acc.toList.toArray 0), toks := tk1 }) e0 fun v x hR hx h tk kp => ?_) fun h' tk out c kp hD ko => ⟨_, rfl, wpAny_pure ⟨_, rfl, ?_⟩⟩
    · intro d hd
      obtain ⟨i, hi, rfl⟩ := List.mem_map.mp hd
      have := hu i (List.mem_range.mp hi)
      show A.units + 1 + 1 + (k i).depth < cLine
      omega
    · obtain ⟨t, rfl⟩ := hR
      exact turn x t (List.mem_range.mp hx) h tk (up kp)
    · exact h h1 out c h' tk k1 (up1 kp) hD (PySem.W.keyedOut_each k ko e0)
end

/-! ### lambda k: x[k] -/
abbrev lamP (k : Str) (kp : Pos) : Arguments := ⟨[], [⟨k, none, kp⟩], none, [], [], none, []⟩
abbrev lamB (a k : Str) (pb pc pd : Pos) : Expr := .Subscript (.Name a pb) (.Name k pc) pd
theorem lam_bind {q : Str} {kp : Pos} {body : Expr} {scope : Scope} {cl : List (Str × Addr)} {pm cv ctv v : Value} : bindArgs (PySem.W.kla_fn "<lambda>" q (lamP "k" kp) body scope cl pm cv ctv) ⟨[v], []⟩ = pure [(("k" : Str), v)] := rfl
theorem plain_sub (k : Str) (pc : Pos) {o i : Value} : subscripted (.Name k pc) false o i = operate [o, i] (getItem o i) := rfl
section
variable {prog : Program} {w : World} {A : Around} {s : Shared}
theorem lam_turn {f c' c tp : Addr} {q a : Str} {kp pb pc pd : Pos} {scope : Scope} {cl : List (Str × Addr)} {pm ctv : Value} {its : List Value} {i : Nat} {u : Value} {d : PyData} {t : Tok}
    (ho : s.heap.get? f = some (PySem.W.kla_obj "<lambda>" q (lamP "k" kp) (lamB a "k" pb pc pd) scope cl pm c' ctv)) (hcd : s.heap.CodeRec (.ref c') q) (hkind : scope.kind = .function) (hco : scope.isCoroutine = false) (hgen : scope.isGenerator = false)
    (hcell : ∀ x ∈ scope.names, x.2 ≠ .cell) (hk : scope.names.lookup ("k" : Str) = some .local) (ha : scope.names.lookup a = some .free) (na : (a == ("__debug__" : Str)) = false) (na2 : (a == ("__classdict__" : Str)) = false)
    (hcl : cl.lookup a = some c) (hc : s.heap.IsCell c (some (.ref tp))) (ht : IsTup s.heap tp its.toArray) (hi : its[i]? = some u) (hr : Reads s.heap u d []) (hz : its.length ≤ sizeLine) (lim : s.heap.NoLimit) (hroom : A.depth < recursionLimit)
    (h : Heap) (tk : Nat) (kp' : ∀ b o, s.heap.get? b = some o → h.get? b = some o) :
    wpAny (model prog w) A (call (.ref f) [.int (i : Int) t]) (PySem.W.KeyPure d { s with heap := h, toks := tk }) (fun _ _ => False) { s with heap := h, toks := tk } := by
  have hcd' : h.CodeRec (.ref c') q := by
    obtain ⟨c0, oc, vs, tq, e1, e2, e3, e4⟩ := hcd
    exact ⟨c0, oc, vs, tq, e1, kp' _ _ e2, e3, e4⟩
  refine wpAny_call (codeAny_mono (PySem.W.kla_callFunE (R := fun r s' => ∃ h' tk', r = .ok (.ret u) ∧ s' = { s with heap := h', toks := tk' } ∧ ∀ b o, h.get? b = some o → h'.get? b = some o) (s := { s with heap := h, toks := tk }) (args := ⟨[.int (i : Int) t], []⟩) hroom (kp' _ _ ho) rfl hco hgen rfl hcd' ?_) fun r s' hq => ?_)
  · rw [lam_bind]
    refine wpAny_pure (wpAny_newFunctionEnv hcell (fun y hy => by rw [List.mem_singleton.mp hy]; exact hk) (fun h₁ hns hsb => ⟨(lim.keeps kp').fresh _ hsb, ?_⟩) hkind)
    have kp₁ : ∀ b o, h.get? b = some o → h₁.get? b = some o := fun b o e => hsb.extBut b o (Nat.ne_of_lt (Heap.lt_size e)) (Heap.get?_push_of_some _ e)
    have kp2 : ∀ b o, s.heap.get? b = some o → h₁.get? b = some o := fun b o e => kp₁ b o (kp' b o e)
    refine PySem.W.kla_codeExpr (Subscript_ (wpAny_Name (wpAny_loadName_free (c := c) (v := .ref tp) hkind ha hcl ?_ (wpAny_Name (wpAny_loadName_local hkind hk hns (v := .int (i : Int) t) ?_ ?_) (by decide)) na2) na))
    · obtain ⟨o, h1, h2⟩ := hc
      exact ⟨o, kp2 _ _ h1, h2⟩
    · show List.lookup ("k" : Str) [(("k" : Str), Value.int (i : Int) t)] = _
      simp [List.lookup_cons]
    · have ht2 : IsTup h₁ tp its.toArray := by
        obtain ⟨o, e1, e2, n, e3⟩ := ht
        exact ⟨o, kp2 _ _ e1, e2, n, e3⟩
      have hil : i < its.length := (List.getElem?_eq_some_iff.mp hi).1
      have hl := line63
      refine subscriptTail_builtinR (x := u) ht2.typeIs slot_tuple_getitem.lookup (getItem_tuple (j := i) ht2 (by omega) (by omega) ?_ (by simpa using hi) ⟨rfl, ?_⟩) (plain_sub "k" pc)
      · simp [seqIndex?, hil]
        omega
      · exact ⟨h₁, _, rfl, rfl, kp₁⟩
  · obtain ⟨h', tk', rfl, rfl, kp3⟩ := hq
    exact ⟨h', tk', rfl, kp3, PyProof.Rows.Reads.keeps (fun b o e => kp3 b o (kp' b o e)) hr⟩
end

/-! ### plain data bears no list -/
section
variable {h : Heap}
mutual
theorem reads_flat : ∀ (k : Nat) (d : D) (u : Value) (as : List Addr), D.flat k d = true → Reads h u (D.toPy d) as → as = []
  | k, .non, u, as, _, r => by rw [D.toPy] at r; cases r; rfl
  | k, .bl b, u, as, _, r => by rw [D.toPy] at r; cases r; rfl
  | k, .int b, u, as, _, r => by rw [D.toPy] at r; cases r; rfl
  | k, .str b, u, as, _, r => by rw [D.toPy] at r; cases r; rfl
  | 0, .tup ds, u, as, z, r => by simp [D.flat] at z
  | k + 1, .tup ds, u, as, z, r => by
    rw [D.flat] at z
    rw [D.toPy] at r
    cases r with
    | tuple h1 h2 h3 h4 => exact reads_flatAll k ds _ as z h4
  | k, .rol ds, u, as, z, r => by simp [D.flat] at z
  | k, .ref n, u, as, z, r => by simp [D.flat] at z
theorem reads_flatAll : ∀ (k : Nat) (ds : List D) (us : List Value) (as : List Addr), D.flatAll k ds = true → ReadsAll h us (D.toPys ds) as → as = []
  | k, [], us, as, _, r => by rw [D.toPys] at r; cases r; rfl
  | k, d :: ds, us, as, z, r => by
    rw [D.flatAll, Bool.and_eq_true] at z
    rw [D.toPys] at r
    cases r with
    | cons h1 h2 => rw [reads_flat k d _ _ z.1 h1, reads_flatAll k ds _ _ z.2 h2]; rfl
end
end

/-! ### the tables in the store -/
def tabsOf (K : PySem.W.Frag) (M : Store) : List (Addr × Str) := M.filterMap fun o => match o with
  | .tab q => some ((He.cT K (q, none)).2, q ++ ".<locals>." ++ "<lambda>")
  | _ => none
theorem mem_tabs {K : PySem.W.Frag} {M : Store} {p : Addr × Str} (h : p ∈ tabsOf K M) : ∃ (i : Nat) (q : Str), M[i]? = some (.tab q) ∧ p = ((He.cT K (q, none)).2, q ++ ".<locals>." ++ "<lambda>") := by
  unfold tabsOf at h
  obtain ⟨o, ho, e⟩ := List.mem_filterMap.mp h
  obtain ⟨i, hi⟩ := List.mem_iff_getElem?.mp ho
  cases o with
  | tab q => cases e; exact ⟨i, q, hi, rfl⟩
  | _ => cases e
theorem tabs_mem {K : PySem.W.Frag} {M : Store} {i : Nat} {q : Str} (h : M[i]? = some (.tab q)) : ((He.cT K (q, none)).2, q ++ ".<locals>." ++ "<lambda>") ∈ tabsOf K M :=
  List.mem_filterMap.mpr ⟨_, List.mem_of_getElem? h, rfl⟩
section
variable {K : PySem.W.Frag} {rho : List Addr} {M : Store} {H H1 : Hp}
theorem Rel.addr (R : Rel K rho M H) {i : Nat} {q : Str} (h : M[i]? = some (.tab q)) : rho[i]? = some (He.cT K (q, none)).2 ∧ LamX.TabS H (He.cT K (q, none)).2 (q ++ ".<locals>." ++ "<lambda>") := by
  have hl : i < rho.length := by rw [R.len]; exact (List.getElem?_eq_some_iff.mp h).1
  obtain ⟨e1, e2⟩ := R.ro i _ _ h (List.getElem?_eq_getElem hl)
  rw [e1] at e2
  exact ⟨by rw [List.getElem?_eq_getElem hl, e1], e2⟩
theorem Rel.tabs (R : Rel K rho M H) : LamX.Tabs (tabsOf K M) H := fun p hp => by
  obtain ⟨i, q, e, rfl⟩ := mem_tabs hp
  exact (R.addr e).2
/-- behind a lambda's making -/
theorem Rel.lam (R : Rel K rho M H) (x : LamX.ExtN H H1) (t : LamX.Tabs (tabsOf K M) H1) : Ext rho H rho H1 ∧ Rel K rho M H1 := by
  have X : Ext rho H rho H1 := ⟨List.prefix_refl _, fun b o e _ n => x b o e n, fun _ h => .inl h⟩
  refine ⟨X, R.len, R.nd, fun n o a e1 e2 => ?_⟩
  have r := R.ro n o a e1 e2
  cases o with
  | lst ds =>
    obtain ⟨vs, h1, h2⟩ := r
    exact ⟨vs, x _ _ h1 (by intro _ z; cases z), RDs.ext R X _ _ h2⟩
  | dct _ => exact r.elim
  | ins _ _ => exact r.elim
  | tab q =>
    refine ⟨r.1, ?_⟩
    have := t _ (tabs_mem (K := K) e1)
    rw [r.1]
    exact this
end

/-! ### the rule -/
abbrev rngO (n : Int) (t t0 t1 : Tok) : Obj := { cls := .type "range", data := .fields #[.int 0 t0, .int n t, .int 1 t1] }
section
variable {X : Cx} {W : WX} {cl : Str → Addr} {cal : Callee} {pos p1 p2 p3 p4 p5 p6 kp pb pc pd pl pk : Pos}
theorem small_nat {n : Nat} (h : n ≤ 16777216) : n ≤ 2 ^ 24 := h
theorem de_sortby {i t : Nat} {q a : Str} {sc : Scope} (hS : Gl X "sorted") (mS : X.mg "sorted" = none) (hR : Gl X "range") (mR : X.mg "range" = none) (hL : Gl X "len") (mL : X.mg "len" = none) (hcalm : X.calm = true) (hu : X.A.units + 70 < cLine) (hroom : X.A.depth < recursionLimit)
    (hN : X.N[i]? = some a) (hcellA : X.env.scope.names.lookup a = some .cell) (na : (a == ("__debug__" : Str)) = false) (na2 : (a == ("__classdict__" : Str)) = false)
    (hkind : sc.kind = .function) (hco : sc.isCoroutine = false) (hgen : sc.isGenerator = false) (hcell : ∀ y ∈ sc.names, y.2 ≠ .cell) (hk : sc.names.lookup ("k" : Str) = some .local) (ha : sc.names.lookup a = some .free)
    (hfr : ∀ y ∈ sc.names, y.2 = .free → X.env.scope.names.lookup y.1 = some .cell) (hq : X.env.qual = q ++ ".<locals>.") (hcode : X.env.code = .ref (He.cT X.K (q, none)).1) (TB : LamX.TabB X.base X.mg (He.cT X.K (q, none)).1 (He.cT X.K (q, none)).2) :
    DE X W cl (.Call (.Name "sorted" p1) [.Call (.Name "range" p2) [.Call (.Name "len" p3) [.Name a p4] [] p5] [] p6] [⟨some "key", .Lambda (lamP "k" kp) (lamB a "k" pb pc pd) sc pl, pk⟩] pos) (evE cal (.sortby i t q)) := by
  refine ⟨fun pins s σ H Q I h => ?_⟩
  obtain ⟨rho, env, M, R, E, h⟩ := h
  simp only [evE] at h
  split at h
  case h_2 => exact h.elim
  rename_i xs ex
  split at h
  case isFalse => exact h.elim
  rename_i hc
  simp only [Bool.and_eq_true, decide_eq_true_eq] at hc
  obtain ⟨⟨hord, hM⟩, hsz⟩ := hc
  obtain ⟨v0, es, rv⟩ := E.2 i _ ex
  obtain ⟨tp, vs, rfl, ht, hs⟩ := rd_tup rv
  have hlen := hs.length
  refine wpAny_Call_Name_kw (ld_blt I hS mS boot_sorted ?_)
  refine PyProof.Rows.callWith_kw ?_
  -- range(len(a))
  have hlenE : PE X (.Call (.Name "len" p3) [.Name a p4] [] p5) (tCB (rLenD X.K) (tCons (tVar i) tNil)) := pe_callB call_len hL mL boot_len (pa_cons (pe_var hN (.inr (.inl hcellA)) na na2) pa_nil)
  refine args_cons (Call_ (ld_blt I hR mR boot_range (PyProof.Rows.callWith_type1 (one_arg hlenE I (R := fun x H2 => x = .int (xs.length : Int) ∧ H2 = H) ⟨.ref tp, es, .ref tp, vs.length, rfl, .inr ⟨vs, ht, rfl⟩, by rw [hlen], rfl⟩ (fun v s2 x H2 I2 r q => ?_) rfl) rfl)))
  obtain ⟨rfl, rfl⟩ := q
  obtain ⟨tk, rfl⟩ := r
  refine call_range_1 (args_nil ?_)
  have hfresh : H2 s2.heap.objs.size = none := I2.hok.fresh (Nat.le_refl _)
  have I3 : Inv X ((s2.heap.objs.size, rngO (xs.length : Int) tk s2.toks (s2.toks + 1)) :: pins) σ H2 { s2 with heap := s2.heap.push (rngO (xs.length : Int) tk s2.toks (s2.toks + 1)), toks := s2.toks + 1 + 1 } := by
    have I3 : Inv X pins σ H2 { s2 with heap := s2.heap.push (rngO (xs.length : Int) tk s2.toks (s2.toks + 1)), toks := s2.toks + 1 + 1 } := I2.kept fun b u e => Heap.get?_push_of_some _ e
    refine I3.pins_of fun p hp => ?_
    rcases List.mem_cons.mp hp with e | hp
    · rw [e]
      exact ⟨Heap.get?_push_size _ rfl, hfresh, fun z => Nat.lt_irrefl _ (by have := I2.lt; rw [← z] at this; exact this), I2.nofs (Nat.le_refl _), fun v z => by cases z⟩
    · exact I3.pin p (List.mem_append_right _ hp)
  refine PyProof.Rows.kwAll_cons ?_
  refine LamX.lam_make2 (T := tabsOf X.K M) I3 TB hcode (by rw [hq]; exact tabs_mem hM) (fun p hp e => ?_) R.tabs rfl (fun y hy e => I3.ok.has _ (.inl (hfr y hy e))) fun f c' pm ctv H1 s' I1 hE hT1 ho hfn hfrs hco' => ?_
  · obtain ⟨j, q', e1, rfl⟩ := mem_tabs hp
    have a1 := (R.addr e1).1
    have a2 := (R.addr hM).1
    rw [show (He.cT X.K (q', none)).2 = (He.cT X.K (q, none)).2 from e] at a1
    have := nodup_get R.nd a1 a2
    subst this
    rw [hM] at e1
    cases e1
    rw [hq]
  refine PyProof.Rows.kwAll_nil ?_
  show wpAny _ _ (call (.builtin "sorted") [.ref s2.heap.objs.size] [(Str.ofString "key", .ref f)]) _ _ _
  obtain ⟨x1, R1⟩ := R.lam hE hT1
  have ht1 := SqT.ext R x1 ht
  have hs1 := RDs.ext R x1 _ _ hs
  obtain ⟨its, rits, pits, zits⟩ := I1.tuple ht1
  have lits := rits.length
  unfold ordOk at hord
  rw [Bool.and_eq_true, Bool.and_eq_true] at hord
  obtain ⟨⟨z1, z2⟩, z3⟩ := hord
  have hpin := I1.pin (s2.heap.objs.size, rngO (xs.length : Int) tk s2.toks (s2.toks + 1)) (List.mem_append_right _ List.mem_cons_self)
  -- the cell of a
  obtain ⟨m, hn, hl⟩ := I1.loc
  obtain ⟨ua, ra, la⟩ := hl i a (.ref tp) hN es (.inr (.inl hcellA))
  obtain rfl : ua = Value.ref tp := ra
  rcases la with ⟨k', _⟩ | ⟨_, c, hcc, hcv⟩
  · have k' : X.env.scope.names.lookup a = some .local := k'
    rw [hcellA] at k'
    cases k'
  have hclo : (cloFrom X.env.cells sc.names []).lookup a = some c := by
    obtain ⟨c2, h2⟩ := mem_lookup (cloFrom_has (cells := X.env.cells) (acc := []) (PySem.mem_of_lookup ha))
    rcases cloFrom_mem (PySem.mem_of_lookup h2) with hm | ⟨_, h4⟩
    · cases hm
    · rw [h2, h4, hcc]
      rfl
  have hrec : s'.heap.CodeRec (.ref c') (X.env.qual ++ "<lambda>") := by
    obtain ⟨⟨oc, us, tq, e1, e2, e3⟩, _, _⟩ := I1.hok c' _ hco'
    exact ⟨c', oc, us, tq, rfl, e1, e2, e3⟩
  have get : ∀ j, j < xs.length → ∃ u d, its[j]? = some u ∧ xs.getD j .non = d ∧ Reads s'.heap u (D.toPy d) [] ∧ (D.toPy d).depth ≤ 8 := fun j hj => by
    obtain ⟨w, e1, r1⟩ := hs1.get (List.getElem?_eq_getElem hj)
    obtain ⟨u, e2, r2⟩ := rits.get e1
    have zf := okAll_mem z1 _ (List.getElem_mem hj)
    obtain ⟨as, e3⟩ := Dp.reads I1 _ _ _ (RD.dp 8 _ _ zf r1) r2
    have := reads_flat 8 _ _ _ zf e3
    subst this
    refine ⟨u, xs[j], e2, by rw [List.getD_eq_getElem?_getD, List.getElem?_eq_getElem hj]; rfl, e3, (D.flat_py 8 _ zf).2⟩
  have ek : (List.range xs.length).map (fun j => D.toPy (xs.getD j .non)) = xs.map D.toPy := by
    refine List.ext_getElem? fun j => ?_
    rw [List.getElem?_map, List.getElem?_map]
    by_cases hj : j < xs.length
    · rw [List.getElem?_range hj, List.getElem?_eq_getElem hj]
      simp [List.getD_eq_getElem?_getD, List.getElem?_eq_getElem hj]
    · rw [List.getElem?_eq_none (by rw [List.length_range]; omega), List.getElem?_eq_none (by omega)]
      rfl
  refine sorted_rng_key (n := xs.length) (k := fun j => D.toPy (xs.getD j .non)) (I1.ok.hd hcalm) hpin.1 (small_nat hsz) (by rw [ek]; exact alike_of z2) (by rw [ek]; exact sortable_of z3) (fun j hj => ?_) (fun j tj hj hh tkk kpp => ?_) fun h1 out cc h' tkk k1 k2 hout hes => ?_
  · obtain ⟨u, d, _, e2, _, e4⟩ := get j hj
    show X.A.units + 2 + (D.toPy (xs.getD j .non)).depth < cLine
    rw [e2]
    omega
  · obtain ⟨u, d, e1, e2, e3, _⟩ := get j hj
    show wpAny _ _ _ (PySem.W.KeyPure (D.toPy (xs.getD j .non)) _) _ _
    rw [e2]
    exact lam_turn (A := X.A.in1.in1) ho hrec hkind hco hgen hcell hk ha na na2 hclo hcv pits e1 e3 (by rw [← lits]; exact zits) I1.nolimit hroom hh tkk kpp
  · have I4 : Inv X pins σ H1 { s' with heap := h1, toks := s'.toks } := (I1.pins_of (pins' := pins) fun p hp => I1.pin p (List.mem_append_right _ (List.mem_cons_of_mem _ hp))).kept k1
    have hl0 : H1 h1.objs.size = none := I4.hok.fresh (Nat.le_refl _)
    have ev : ∀ {l : List Nat} {o : List Value}, EachIs IntIs o l → Vals (l.map fun (j : Nat) => V.int (j : Int)) o := fun {l o} e => by
      induction e with
      | nil => exact .nil
      | cons h t ih => exact .cons h ih
    have er : ∀ l : List Nat, RDs X.K rho H1 (l.map fun (j : Nat) => D.int (j : Int)) (l.map fun (j : Nat) => V.int (j : Int)) := fun l => by
      induction l with
      | nil => rw [List.map_nil, List.map_nil, RDs]
      | cons j l ih => rw [List.map_cons, List.map_cons, RDs]; exact ⟨_, _, rfl, by rw [RD], ih⟩
    have I5 : Inv X pins σ (upd H1 h1.objs.size (.lst (((List.range xs.length).mergeSort fun a b => dle (xs.getD a .non) (xs.getD b .non)).map fun (j : Nat) => V.int (j : Int)))) { s' with heap := h', toks := tkk } := by
      refine I4.laid (t' := tkk) k2 (Nat.le_refl _) ⟨?_, out, cc, ev hes, hout⟩
      rw [List.length_map, List.length_mergeSort, List.length_range, sizeLine_eq]
      exact hsz
    obtain ⟨x2, R2, r2⟩ := R1.lstNew hl0 (er ((List.range xs.length).mergeSort fun a b => dle (xs.getD a .non) (xs.getD b .non)))
    exact ⟨.ref h1.objs.size, _, I5, rfl, h.okTo (x1.trans x2) R2 r2⟩
end
end DV

/-! DvCmp: from a def's text to the code of DvSem, and that it means the same. -/
namespace DV
open PySem PySem.Spec PyProof.Rows L2

/-! ### shapes of texts -/
def notStar : Expr → Bool
  | .Starred .. => false
  | _ => true
def notSet : Expr → Bool
  | .Set .. => false
  | _ => true
def notComp : Expr → Bool
  | .ListComp .. => false
  | .SetComp .. => false
  | .DictComp .. => false
  | _ => true
def plainO : Expr → Bool
  | .Call _ [] [] _ => false
  | _ => true
def isTup : Expr → Bool
  | .Tuple .. => true
  | _ => false
def notSlice : Expr → Bool
  | .Slice .. => false
  | _ => true
def notIte : Expr → Bool
  | .IfExp .. => false
  | _ => true
/-- as a test it is read by its value -/
def byVal : Expr → Bool
  | .UnaryOp .Not _ _ => false
  | .BoolOp .. => false
  | .IfExp .. => false
  | .Compare .. => false
  | _ => true
theorem star_cons {e : Expr} {es : List Expr} {env : PySem.Env} (h : notStar e = true) : starEach (e :: es) env = (false, eval e env) :: starEach es env := by
  cases e <;> first | rfl | cases h
theorem star_plain {pos : Pos} {env : PySem.Env} : ∀ {es : List Expr}, es.all notStar = true → (backTo pos (starEach es env)).any (·.1) = false
  | [], _ => rfl
  | e :: es, h => by
    rw [List.all_cons, Bool.and_eq_true] at h
    rw [star_cons h.1]
    exact star_plain (es := es) h.2
theorem asg_cons {e : Expr} {es : List Expr} {env : PySem.Env} (h : notStar e = true) : assignEach (e :: es) env = (false, assign e env) :: assignEach es env := by
  cases e <;> first | rfl | cases h
theorem asg_len {env : PySem.Env} : ∀ {es : List Expr}, es.all notStar = true → (assignEach es env).length = es.length ∧ (assignEach es env).findIdx? (·.1) = none
  | [], _ => ⟨rfl, rfl⟩
  | e :: es, h => by
    rw [List.all_cons, Bool.and_eq_true] at h
    rw [asg_cons h.1]
    obtain ⟨h1, h2⟩ := asg_len (env := env) (es := es) h.2
    refine ⟨by rw [List.length_cons, List.length_cons, h1], ?_⟩
    rw [List.findIdx?_cons]
    simp [h2]
theorem fsi {e : Expr} {env : PySem.Env} (h : notSet e = true) (x : Value) : foldedSetIterable e env x = pure x := by
  cases e <;> first | rfl | cases h
theorem sw_none {e : Expr} {t : Option Expr} {l : Nat} {env : PySem.Env} (h : notComp e = true) : swapsWith e t l env = pure false := by
  cases e <;> first | rfl | cases h
theorem byVal_eq {e : Expr} {env : PySem.Env} (h : byVal e = true) (whole : Sem Value) : isTrue e env whole = (do let v ← whole; standAt e.pos; holding [v] (truthy v)) := by
  cases e with
  | UnaryOp op a p => cases op <;> first | rfl | cases h
  | BoolOp _ _ _ => cases h
  | IfExp _ _ _ _ => cases h
  | Compare _ _ _ _ => cases h
  | _ => rfl
theorem plainIx {b : Expr} (h : notSlice b = true) : PlainIx b := by
  intro o i
  cases b <;> first | rfl | cases h
theorem base_of {o : Expr} {m : Str} {env : PySem.Env} (h : plainO o = true) : attributeBase o m env (eval o env) = eval o env := by
  cases o with
  | Call f es ks p =>
    cases es with
    | nil =>
      cases ks with
      | nil => cases h
      | cons k ks => cases f <;> rfl
    | cons e es => cases f <;> rfl
  | _ => rfl

/-! ### what is known where code stands -/
structure GI where
  /-- the defs, with their numbers of parameters -/
  defs : List (Str × Nat)
  /-- built-in names that the text leaves alone -/
  free : List Str
  consts : List (Str × D)
  /-- defs that make lambdas: where the table stands in the store -/
  lams : List (Str × Nat)
structure CI where
  g : GI
  N : List Str
  sc : Scope
  own : Str → Bool
  /-- the def's name, where its own table stands -/
  lam : Option (Str × Nat)
structure CxOk (X : Cx) (W : WX) (cl : Str → Addr) (cal : Callee) (ci : CI) : Prop where
  hN : X.N = ci.N
  nd : X.N.Nodup
  sc : X.env.scope = ci.sc
  kind : X.env.scope.kind = .function
  calm : X.calm = true
  own : ∀ x, ci.own x = true → X.fn x = true
  units : X.A.units + 70 < cLine
  room : X.A.depth < recursionLimit
  lam : ∀ p, ci.lam = some p → X.env.qual = p.1 ++ ".<locals>." ∧ X.env.code = .ref (He.cT X.K (p.1, none)).1 ∧ LamX.TabB X.base X.mg (He.cT X.K (p.1, none)).1 (He.cT X.K (p.1, none)).2
  free : ∀ x ∈ ci.g.free, X.mg x = none
  cons : ∀ p ∈ ci.g.consts, ∃ v u, X.mg p.1 = some u ∧ RelV v u ∧ ∀ rho H, RD X.K rho H p.2 v
  defs : ∀ (j : Nat) (p : Str × Nat), ci.g.defs[j]? = some p → ∃ k f fd ps, FnOk X.prog X.w X.K X.mg X.base (L2.CX X.prog X.w) k f fd ps (spC X.K cl p.2 (cal j)) ∧ Room k X.A ∧ X.mg p.1 = some (.ref f) ∧ PySem.W.keepIn X.K (.ref f) = true ∧ Binds X.K fd ps []
  tk : Takes X W

/-- fine as a name -/
def nameOk (x : Str) : Bool := !(x == ("__debug__" : Str)) && !(x == ("__classdict__" : Str)) && !(x == ("__name__" : Str))
def kVis : Option NameKind → Bool
  | some .local => true
  | some .cell => true
  | some .free => true
  | _ => false
def kPut (b : Bool) : Option NameKind → Bool
  | some .local => true
  | some .cell => b
  | _ => false
def CI.slot (ci : CI) (x : Str) : Option Nat := match ci.N.idxOf? x with
  | some i => if nameOk x && decide (ci.N[i]? = some x) && kVis (ci.sc.names.lookup x) then some i else none
  | none => none
def CI.glob (ci : CI) (x : Str) : Bool := nameOk x && decide (ci.sc.names.lookup x = some .globalImplicit)
/-- a slot that may be stored to -/
def CI.put (ci : CI) (x : Str) : Option Nat := match ci.N.idxOf? x with
  | some i => if decide (ci.N[i]? = some x) && kPut (ci.own x) (ci.sc.names.lookup x) then some i else none
  | none => none
def CI.def_ (ci : CI) (x : Str) : Option (Nat × Nat) := match ci.g.defs.findIdx? (·.1 == x) with
  | some j => (match ci.g.defs[j]? with
    | some p => if p.1 = x then some (j, p.2) else none
    | none => none)
  | none => none
def CI.isFree (ci : CI) (x : Str) : Bool := ci.glob x && decide (x ∈ ci.g.free)

def cMap (f : Expr → Option IE) : List Expr → Option (List IE)
  | [] => some []
  | e :: es => (f e).bind fun i => (cMap f es).bind fun is => some (i :: is)
def bopOf : Operator → Option BOp
  | .Add => some .add
  | .Sub => some .sub
  | .Mult => some .mul
  | .FloorDiv => some .fdiv
  | .Mod => some .mod
  | .Pow => some .pow
  | _ => none
def copOf : CmpOp → Option COp
  | .Eq => some .eq
  | .NotEq => some .ne
  | .Lt => some .lt
  | .LtE => some .le
  | .Gt => some .gt
  | .GtE => some .ge
  | .Is => some .is
  | .IsNot => some .isnot
  | _ => none
def conOf : Const → Option D
  | .none => some .non
  | .bool b => some (.bl b)
  | .int i => some (.int i)
  | .str s => some (.str s)
  | _ => none
def bltOf (x : Str) : Option Blt :=
  if x = "len" then some .len else if x = "all" then some .all else if x = "any" then some .any else if x = "sum" then some .sum else if x = "abs" then some .abs else
  if x = "max" then some .max2 else if x = "min" then some .min2 else if x = "tuple" then some .tuple else if x = "list" then some .list else if x = "sorted" then some .sorted else none
def tyOf (x : Str) : Option Ty :=
  if x = "int" then some .int else if x = "bool" then some .bool else if x = "str" then some .str else if x = "tuple" then some .tuple else none
def cT : Nat → CI → Expr → Option Tg
  | 0, _, _ => none
  | g + 1, ci, e => match e with
    | .Name x _ => (ci.put x).map .nm
    | .Tuple es _ _ => if es.all notStar then (go g ci es).map .tup else none
    | _ => none
where go (g : Nat) (ci : CI) : List Expr → Option (List Tg)
  | [] => some []
  | e :: es => (cT g ci e).bind fun t => (go g ci es).bind fun ts => some (t :: ts)
/-- a comprehension's own names -/
def ownOf (ci : CI) (scope : Scope) : List (Str × Nat) := (scope.names.filter fun y => (decide (y.2 = .local) || decide (y.2 = .cell)) && decide (y.1 ∈ ci.N)).map fun y => (y.1, ci.N.idxOf y.1)
def CI.blk (ci : CI) (scope : Scope) : CI := { ci with sc := relS scope ci.sc, own := fun x => scope.names.lookup x == some .cell, lam := none }

/-- how a built-in name is called -/
inductive Fn where
  | rng | tup (e : Expr) | isi (e : Expr) (t : Ty) | plain
def cF (ci : CI) (x : Str) (a : Expr) (es : List Expr) : Fn :=
  if x = "isinstance" then (match es with
    | [.Name y _] => if ci.isFree y then (match tyOf y with
      | some t => .isi a t
      | none => .rng) else .rng
    | _ => .rng) else
  if x = "tuple" then (match a, es with
    | .Call (.Name y _) [b] [] _, [] => if ci.isFree y && decide (y = "range") && notStar b then .tup b else .plain
    | _, _ => .plain) else .plain

/-- sorted(range(len(a)), key=lambda k: a[k]) -/
def lamOk (ci : CI) (x y z kw k k2 a a2 : Str) (sc : Scope) : Bool :=
  decide (x = "sorted") && decide (y = "range") && decide (z = "len") && decide (kw = "key") && decide (k = "k") && decide (k2 = "k") && decide (a2 = a) && ci.isFree x && ci.isFree y && ci.isFree z && decide (ci.sc.names.lookup a = some .cell) && nameOk a &&
    decide (sc.kind = .function) && !sc.isCoroutine && !sc.isGenerator && (sc.names.all fun y => !decide (y.2 = .cell)) && decide (sc.names.lookup ("k" : Str) = some .local) && decide (sc.names.lookup a = some .free) &&
    (sc.names.all fun y => !decide (y.2 = .free) || decide (ci.sc.names.lookup y.1 = some .cell))
def cL (ci : CI) : Expr → Option IE
  | .Call (.Name x _) [.Call (.Name y _) [.Call (.Name z _) [.Name a _] [] _] [] _] [⟨some kw, .Lambda ⟨[], [⟨k, none, _⟩], none, [], [], none, []⟩ (.Subscript (.Name a2 _) (.Name k2 _) _) sc _, _⟩] _ =>
    (match ci.lam, ci.N.idxOf? a with
    | some p, some i => if lamOk ci x y z kw k k2 a a2 sc && decide (ci.N[i]? = some a) then some (.sortby i p.2 p.1) else none
    | _, _ => none)
  | _ => none
mutual
def cE : Nat → CI → Expr → Option IE
  | 0, _, _ => none
  | g + 1, ci, e => match e with
    | .Name x _ => (match ci.slot x with
      | some i => some (.var i)
      | none => if ci.glob x then (ci.g.consts.lookup x).map .lit else none)
    | .Constant c _ _ => (conOf c).map .lit
    | .Tuple es _ _ => if es.all notStar && decide (es.length ≤ 1000) then (cMap (cE g ci) es).map .tup else none
    | .List es _ => if es.all notStar && decide (es.length ≤ 1000) then (cMap (cE g ci) es).map .lst else none
    | .BinOp a op b _ => (bopOf op).bind fun o => (cE g ci a).bind fun i => (cE g ci b).bind fun j => some (.bin o i j)
    | .UnaryOp .USub a _ => (cE g ci a).map .neg
    | .UnaryOp .Not a _ => if notIte a then (cE g ci a).map .nott else none
    | .BoolOp .And (a :: es) _ => if (a :: es).all notIte then (cMap (cE g ci) (a :: es)).map .and else none
    | .BoolOp .Or (a :: es) _ => if (a :: es).all notIte then (cMap (cE g ci) (a :: es)).map .or else none
    | .Compare a [op] [b] _ => (copOf op).bind fun o => (cE g ci a).bind fun i => (cE g ci b).bind fun j => if behindInMarks op b then none else some (.cmp o i j)
    | .Compare a [op, op'] [b, c] _ => (copOf op).bind fun o => (copOf op').bind fun o' => (cE g ci a).bind fun i => (cE g ci b).bind fun j => (cE g ci c).bind fun k =>
        if behindInMarks op b || behindInMarks op' c then none else some (.chain o o' i j k)
    | .IfExp c a b _ => if !notIte c then none else (cE g ci c).bind fun k => (cE g ci a).bind fun i => (cE g ci b).bind fun j => some (.ite k i j)
    | .Subscript a (.Slice lo hi none _) _ => (cE g ci a).bind fun i => (cO g ci lo).bind fun l => (cO g ci hi).bind fun h => some (.slc i l h)
    | .Subscript a b _ => if notSlice b then (cE g ci a).bind fun i => (cE g ci b).bind fun j => some (.idx i j) else none
    | .Call (.Name x _) (a :: es) [] _ => if ci.glob x && (a :: es).all notStar then
        (match ci.def_ x with
        | some (j, n) => (cMap (cE g ci) (a :: es)).bind fun is => if is.length = n then some (.call j is) else none
        | none => if ci.isFree x then
            (match cF ci x a es with
            | .isi e t => (cE g ci e).map fun i => .isi i t
            | .tup e => (cE g ci e).map fun i => .blt .tupleRange [i]
            | .rng => none
            | .plain => (bltOf x).bind fun b => (cMap (cE g ci) (a :: es)).map (.blt b)) else none) else none
    | .Call f es [k] p => cL ci (.Call f es [k] p)
    | .Call (.Attribute o m apos) [a] [] cpos => if plainO o && notStar a && (apos.endLine == cpos.line) then
        (cE g ci o).bind fun i => (cE g ci a).bind fun j => if m = "append" then some (.meth .append i [j]) else if m = "extend" then some (.meth .extend i [j]) else none else none
    | .ListComp elt [⟨tg, iter, ifs, 0⟩] scope _ => if blkC ci.N ci.sc scope (ownOf ci scope) && notSet iter then
        (cT g (ci.blk scope) tg).bind fun t => (cI g ci iter).bind fun ks => (match ifs with
          | [] => some []
          | [c] => if notIte c then (cE g (ci.blk scope) c).map fun i => [i] else none
          | _ => none).bind fun tests => (cE g (ci.blk scope) elt).bind fun i =>
          if t.slots.all (fun n => ((ownOf ci scope).map (fun p : Str × Nat => p.2)).contains n) then some (.comp i t ((ownOf ci scope).map (fun p : Str × Nat => p.2)) ks.1 ks.2 tests) else none else none
    | _ => none
def cO : Nat → CI → Option Expr → Option (List IE)
  | 0, _, _ => none
  | _ + 1, _, none => some []
  | g + 1, ci, some e => (cE g ci e).map fun i => [i]
/-- what is walked -/
def cI : Nat → CI → Expr → Option (SrcK × List IE)
  | 0, _, _ => none
  | g + 1, ci, e => match e with
    | .Call (.Name x p) [a] [] pos => if ci.isFree x && notStar a && decide (x = "range") then (cE g ci a).map fun i => (.rng1, [i]) else (cE g ci (.Call (.Name x p) [a] [] pos)).map fun i => (.val, [i])
    | .Call (.Name x p) [a, b] [] pos => if ci.isFree x && notStar a && notStar b && decide (x = "range") then (cE g ci a).bind fun i => (cE g ci b).bind fun j => some (.rng2, [i, j]) else (cE g ci (.Call (.Name x p) [a, b] [] pos)).map fun i => (.val, [i])
    | e => (cE g ci e).map fun i => (.val, [i])
end
end DV

/-! DvSnd: what cE makes of a text means the same. -/
namespace DV
open PySem PySem.Spec PyProof.Rows L2

section
variable {X : Cx} {W : WX} {cl : Str → Addr} {cal : Callee} {ci : CI}
theorem CI.slot_ok {x : Str} {i : Nat} (h : ci.slot x = some i) : ci.N[i]? = some x ∧ Vis ci.sc x ∧ (x == ("__debug__" : Str)) = false ∧ (x == ("__classdict__" : Str)) = false := by
  unfold CI.slot at h
  split at h
  · split at h
    · rename_i hc
      cases h
      simp only [Bool.and_eq_true, decide_eq_true_eq, nameOk, Bool.not_eq_true'] at hc
      obtain ⟨⟨⟨⟨h1, h2⟩, h3⟩, h4⟩, h5⟩ := hc
      refine ⟨h4, ?_, h1, h2⟩
      unfold kVis at h5
      split at h5
      · exact .inl (by assumption)
      · exact .inr (.inl (by assumption))
      · exact .inr (.inr (by assumption))
      · cases h5
    · cases h
  · cases h
theorem CI.glob_ok {x : Str} (h : ci.glob x = true) : ci.sc.names.lookup x = some .globalImplicit ∧ (x == ("__debug__" : Str)) = false ∧ x ≠ "__name__" := by
  simp only [CI.glob, Bool.and_eq_true, decide_eq_true_eq, nameOk, Bool.not_eq_true'] at h
  obtain ⟨⟨⟨h1, h2⟩, h3⟩, h4⟩ := h
  exact ⟨h4, h1, by simpa using h3⟩
theorem CI.put_ok {x : Str} {i : Nat} (h : ci.put x = some i) : ci.N[i]? = some x ∧ (ci.sc.names.lookup x = some .local ∨ (ci.sc.names.lookup x = some .cell ∧ ci.own x = true)) := by
  unfold CI.put at h
  split at h
  · split at h
    · rename_i hc
      cases h
      simp only [Bool.and_eq_true, decide_eq_true_eq] at hc
      refine ⟨hc.1, ?_⟩
      have h5 := hc.2
      unfold kPut at h5
      split at h5
      · exact .inl (by assumption)
      · exact .inr ⟨by assumption, h5⟩
      · cases h5
    · cases h
  · cases h
theorem CI.def_ok {x : Str} {j n : Nat} (h : ci.def_ x = some (j, n)) : ci.g.defs[j]? = some (x, n) := by
  unfold CI.def_ at h
  split at h
  · split at h
    · rename_i p e
      split at h
      · rename_i ex
        cases h
        rw [e, ← ex]
      · cases h
    · cases h
  · cases h
theorem CI.free_ok {x : Str} (h : ci.isFree x = true) : ci.glob x = true ∧ x ∈ ci.g.free := by
  simp only [CI.isFree, Bool.and_eq_true, decide_eq_true_eq] at h
  exact h
theorem CxOk.gl (C : CxOk X W cl cal ci) {x : Str} (h : ci.glob x = true) : Gl X x := by
  show X.env.scope.names.lookup x = some .globalImplicit
  rw [C.sc]
  exact (CI.glob_ok h).1
theorem CxOk.vis (C : CxOk X W cl cal ci) {x : Str} (h : Vis ci.sc x) : Vis X.env.scope x := by rw [C.sc]; exact h
theorem CxOk.noteI (C : CxOk X W cl cal ci) {x : Str} (h : ci.isFree x = true) : Gl X x ∧ X.mg x = none := ⟨C.gl (CI.free_ok h).1, C.free _ (CI.free_ok h).2⟩
theorem CxOk.pg (C : CxOk X W cl cal ci) {x : Str} {i : Nat} {pos : Pos} (h : ci.put x = some i) : PG X (.Name x pos) (gName i) := by
  obtain ⟨h1, h2⟩ := CI.put_ok h
  have hx : Loc X.env.scope x := by rw [C.sc]; exact h2.elim .inl fun z => .inr z.1
  exact pg_name C.nd (by rw [C.hN]; exact h1) hx (h2.elim (fun z => .inr (by rw [C.sc]; exact z)) fun z => .inl (C.own x z.2))
/-- a comprehension's block -/
theorem CxOk.blk (C : CxOk X W cl cal ci) {scope : Scope} (hk : scope.kind = .function) (s : Shared) (H : Hp) (A : Addr) (c : List (Str × Addr)) (fp : List Addr) :
    CxOk (X.blk s H scope (compEnvC scope c A X.env) fp) W0 cl cal (ci.blk scope) where
  hN := C.hN
  nd := C.nd
  sc := by
    show relS scope X.env.scope = relS scope ci.sc
    rw [C.sc]
  kind := hk
  calm := C.calm
  own := fun x h => h
  units := C.units
  room := C.room
  lam := fun p e => by cases e
  free := C.free
  cons := C.cons
  defs := C.defs
  tk := LamX.takes0

theorem cMap_ok {f : Expr → Option IE} : ∀ {es : List Expr} {is : List IE}, (∀ e ∈ es, ∀ i, f e = some i → DE X W cl e (evE cal i)) → es.all notStar = true → cMap f es = some is → DA X W cl es (evEs cal is) ∧ is.length = es.length
  | [], is, _, _, h => by
    simp only [cMap, Option.some.injEq] at h
    subst h
    exact ⟨da_nil, rfl⟩
  | e :: es, is, hf, hs, h => by
    simp only [cMap, Option.bind_eq_some_iff] at h
    obtain ⟨i, h1, is', h2, h3⟩ := h
    cases h3
    rw [List.all_cons, Bool.and_eq_true] at hs
    obtain ⟨q1, q2⟩ := cMap_ok (fun e he => hf e (List.mem_cons_of_mem _ he)) hs.2 h2
    exact ⟨da_cons (hf e List.mem_cons_self i h1) q1 (star_cons hs.1), by rw [List.length_cons, List.length_cons, q2]⟩
/-- a test's reading, as one of the value -/
theorem t_of {i : IE} {σ : L2.St} {H : Hp} {Q : Bool → Hp → Prop} (h : tT X.K W cl (evT cal i) σ H Q) : tD X.K W cl (evE cal i) σ H (fun x H' => ∃ k, x = .bl k ∧ Q k H') := by
  obtain ⟨rho, env, M, R, E, h⟩ := h
  rw [evT_eq] at h
  exact ⟨rho, env, M, R, E, h.bind fun d M1 rho1 H1 v x1 R1 r1 h1 => by
    cases d with
    | bl b => cases rd_bl r1; exact ⟨b, rfl, h1.ok R1 rfl⟩
    | _ => exact h1.elim⟩
theorem dt_by {e : Expr} {i : IE} (h : DE X W cl e (evE cal i)) (hb : byVal e = true) : DT X W cl e (evT cal i) := dt_val h (byVal_eq hb)

/-! ### and, or -/
theorem cAnd_ok {f : Expr → Option IE} {pos : Pos} : ∀ {es : List Expr} {a : Expr} {is : List IE}, (∀ e ∈ a :: es, ∀ i, f e = some i → DE X W cl e (evE cal i)) → cMap f (a :: es) = some is → DE X W cl (.BoolOp .And (a :: es) pos) (fun env M => evAnd cal is env M)
  | [], a, is, hf, h => by
    simp only [cMap, Option.bind_eq_some_iff] at h
    obtain ⟨i, h1, is', h2, h3⟩ := h
    cases h2; cases h3
    exact de_and1 (hf a List.mem_cons_self i h1)
  | b :: es, a, is, hf, h => by
    rw [cMap, Option.bind_eq_some_iff] at h
    obtain ⟨i, h1, h⟩ := h
    rw [Option.bind_eq_some_iff] at h
    obtain ⟨is', h2, h3⟩ := h
    cases h3
    have q := cAnd_ok (pos := pos) (fun e he => hf e (List.mem_cons_of_mem _ he)) h2
    rw [cMap, Option.bind_eq_some_iff] at h2
    obtain ⟨j, h4, h2⟩ := h2
    rw [Option.bind_eq_some_iff] at h2
    obtain ⟨js, h5, h6⟩ := h2
    cases h6
    exact de_and (hf a List.mem_cons_self i h1) q
theorem cOr_ok {f : Expr → Option IE} {pos : Pos} : ∀ {es : List Expr} {a : Expr} {is : List IE}, (∀ e ∈ a :: es, ∀ i, f e = some i → DE X W cl e (evE cal i)) → cMap f (a :: es) = some is → DE X W cl (.BoolOp .Or (a :: es) pos) (fun env M => evOr cal is env M)
  | [], a, is, hf, h => by
    simp only [cMap, Option.bind_eq_some_iff] at h
    obtain ⟨i, h1, is', h2, h3⟩ := h
    cases h2; cases h3
    exact de_or1 (hf a List.mem_cons_self i h1)
  | b :: es, a, is, hf, h => by
    rw [cMap, Option.bind_eq_some_iff] at h
    obtain ⟨i, h1, h⟩ := h
    rw [Option.bind_eq_some_iff] at h
    obtain ⟨is', h2, h3⟩ := h
    cases h3
    have q := cOr_ok (pos := pos) (fun e he => hf e (List.mem_cons_of_mem _ he)) h2
    rw [cMap, Option.bind_eq_some_iff] at h2
    obtain ⟨j, h4, h2⟩ := h2
    rw [Option.bind_eq_some_iff] at h2
    obtain ⟨js, h5, h6⟩ := h2
    cases h6
    exact de_or (hf a List.mem_cons_self i h1) q
theorem tAnd_ok {f : Expr → Option IE} {pos : Pos} : ∀ {es : List Expr} {a : Expr} {is : List IE}, (∀ e ∈ a :: es, ∀ i, f e = some i → DT X W cl e (evT cal i)) → cMap f (a :: es) = some is → DW X W cl (.BoolOp .And (a :: es) pos) (fun env M => (evAnd cal is env M).bind toB)
  | [], a, is, hf, h => by
    simp only [cMap, Option.bind_eq_some_iff] at h
    obtain ⟨i, h1, is', h2, h3⟩ := h
    cases h2; cases h3
    exact dw_and1 (hf a List.mem_cons_self i h1)
  | b :: es, a, is, hf, h => by
    rw [cMap, Option.bind_eq_some_iff] at h
    obtain ⟨i, h1, h⟩ := h
    rw [Option.bind_eq_some_iff] at h
    obtain ⟨is', h2, h3⟩ := h
    cases h3
    have q := tAnd_ok (pos := pos) (fun e he => hf e (List.mem_cons_of_mem _ he)) h2
    rw [cMap, Option.bind_eq_some_iff] at h2
    obtain ⟨j, h4, h2⟩ := h2
    rw [Option.bind_eq_some_iff] at h2
    obtain ⟨js, h5, h6⟩ := h2
    cases h6
    exact dw_and (hf a List.mem_cons_self i h1) q
theorem tOr_ok {f : Expr → Option IE} {pos : Pos} : ∀ {es : List Expr} {a : Expr} {is : List IE}, (∀ e ∈ a :: es, ∀ i, f e = some i → DT X W cl e (evT cal i)) → cMap f (a :: es) = some is → DW X W cl (.BoolOp .Or (a :: es) pos) (fun env M => (evOr cal is env M).bind toB)
  | [], a, is, hf, h => by
    simp only [cMap, Option.bind_eq_some_iff] at h
    obtain ⟨i, h1, is', h2, h3⟩ := h
    cases h2; cases h3
    exact dw_or1 (hf a List.mem_cons_self i h1)
  | b :: es, a, is, hf, h => by
    rw [cMap, Option.bind_eq_some_iff] at h
    obtain ⟨i, h1, h⟩ := h
    rw [Option.bind_eq_some_iff] at h
    obtain ⟨is', h2, h3⟩ := h
    cases h3
    have q := tOr_ok (pos := pos) (fun e he => hf e (List.mem_cons_of_mem _ he)) h2
    rw [cMap, Option.bind_eq_some_iff] at h2
    obtain ⟨j, h4, h2⟩ := h2
    rw [Option.bind_eq_some_iff] at h2
    obtain ⟨js, h5, h6⟩ := h2
    cases h6
    exact dw_or (hf a List.mem_cons_self i h1) q

/-! ### operators -/
theorem bop_ok {op : Operator} {o : BOp} (h : bopOf op = some o) : ∃ r, OpR X (binaryOp op) r ∧ HopOk X W cl r (binOp o) := by
  cases op <;> simp only [bopOf, Option.some.injEq, reduceCtorEq] at h <;> subst h
  · exact ⟨_, op_addD, hop_add⟩
  · exact ⟨_, op_sub, hop_sub⟩
  · exact ⟨_, op_mulD, hop_mul⟩
  · exact ⟨_, op_mod, hop_mod⟩
  · exact ⟨_, op_pow, hop_pow⟩
  · exact ⟨_, op_fdiv, hop_fdiv⟩
theorem cop_ok {op : CmpOp} {o : COp} (hu : X.A.units + 70 < cLine) (h : copOf op = some o) : ∃ r, OpR X (compareOp op) r ∧ HopOk X W cl r (cmpOp o) := by
  cases op <;> simp only [copOf, Option.some.injEq, reduceCtorEq] at h <;> subst h
  · exact ⟨_, op_eqS (by omega), hop_eq⟩
  · exact ⟨_, op_neS (by omega), hop_ne⟩
  · exact ⟨_, op_lt, hop_lt⟩
  · exact ⟨_, op_le, hop_le⟩
  · exact ⟨_, op_gt, hop_gt⟩
  · exact ⟨_, op_ge, hop_ge⟩
  · exact ⟨_, op_isN, hop_is⟩
  · exact ⟨_, op_notN, hop_isnot⟩

/-! ### chains -/
theorem chain_read {r r' : R2} {o o' : COp} {i j k : IE} {σ : L2.St} {H : Hp} {Q : VK} (hop : HopOk X W cl r (cmpOp o)) (hop' : HopOk X W cl r' (cmpOp o')) (h : tD X.K W cl (evE cal (.chain o o' i j k)) σ H Q) :
    tChain r r' (tD X.K W cl (evE cal i)) (tD X.K W cl (evE cal j)) (tD X.K W cl (evE cal k)) σ H Q := by
  obtain ⟨rho, env, M, R, E, h⟩ := h
  simp only [evE] at h
  refine ⟨rho, env, M, R, E, h.bind fun d M1 rho1 H1 v x1 R1 r1 h1 => ?_⟩
  refine ⟨rho1, env, M1, R1, E.ext R x1, h1.bind fun d2 M2 rho2 H2 v2 x2 R2 r2 h2 => ?_⟩
  refine hop _ _ _ _ _ _ _ _ _ R2 (RD.ext R1 x2 _ _ r1) r2 (h2.bind fun t M3 rho3 H3 v3 x3 R3 r3 h3 => ?_)
  cases t with
  | bl n =>
    cases rd_bl r3
    refine ⟨n, rfl, ?_⟩
    cases n with
    | true =>
      rw [if_pos rfl]
      refine ⟨rho3, env, M3, R3, ((E.ext R x1).ext R1 x2).ext R2 x3, h3.bind fun d4 M4 rho4 H4 v4 x4 R4 r4 h4 => ?_⟩
      exact hop' _ _ _ _ _ _ _ _ _ R4 (RD.ext R3 x4 _ _ (RD.ext R2 x3 _ _ r2)) r4 h4
    | false => rw [if_neg Bool.false_ne_true]; exact h3.ok R3 (by rw [RD])
  | _ => exact h3.elim
theorem lastM {op op' : CmpOp} {b c : Expr} (h : behindInMarks op' c = false) : lastMarks [op, op'] [b, c] = false := h

/-! ### built-ins -/
theorem blt_ok {x : Str} {b : Blt} {a : Expr} {es : List Expr} {is : List IE} {p pos : Pos} (hc : X.calm = true) (hu : X.A.units + 70 < cLine) (h : bltOf x = some b) (hg : Gl X x) (hm : X.mg x = none) (ha : DA X W cl (a :: es) (evEs cal is)) (hs : (a :: es).all notStar = true) :
    DE X W cl (.Call (.Name x p) (a :: es) [] pos) (evE cal (.blt b is)) := by
  have h1 := star_cons (es := es) (env := X.env) (List.all_eq_true.mp hs a List.mem_cons_self)
  have h2 : (backTo pos (starEach es X.env)).any (·.1) = false := star_plain (by rw [List.all_cons, Bool.and_eq_true] at hs; exact hs.2)
  have eb : ∀ b, evE cal (.blt b is) = fun env M => (evEs cal is env M).bind fun ds M1 => bltOp b ds M1 := fun b => by funext env M; simp only [evE]
  unfold bltOf at h
  split at h
  · rename_i e; subst e; cases h; rw [eb]; exact de_args (es := a :: es) (pe_callB call_len hg hm boot_len ha (by decide) (by decide) h1 h2) hc_len
  split at h
  · rename_i e; subst e; cases h; rw [eb]; exact de_args (es := a :: es) (pe_callB (cr_all hc) hg hm boot_all ha (by decide) (by decide) h1 h2) hc_all
  split at h
  · rename_i e; subst e; cases h; rw [eb]; exact de_args (es := a :: es) (pe_callB (cr_any hc) hg hm boot_any ha (by decide) (by decide) h1 h2) hc_any
  split at h
  · rename_i e; subst e; cases h; rw [eb]; exact de_args (es := a :: es) (pe_callB (cr_sum hc) hg hm boot_sum ha (by decide) (by decide) h1 h2) hc_sum
  split at h
  · rename_i e; subst e; cases h; rw [eb]; exact de_args (es := a :: es) (pe_callB call_abs hg hm boot_abs ha (by decide) (by decide) h1 h2) hc_abs
  split at h
  · rename_i e; subst e; cases h; rw [eb]; exact de_args (es := a :: es) (pe_callB (call_max2 hc) hg hm boot_max ha (by decide) (by decide) h1 h2) hc_max2
  split at h
  · rename_i e; subst e; cases h; rw [eb]; exact de_args (es := a :: es) (pe_callB (call_min2 hc) hg hm boot_min ha (by decide) (by decide) h1 h2) hc_min2
  split at h
  · rename_i e; subst e; cases h; rw [eb]; exact de_args (es := a :: es) (pe_callTy call_tuple_of hg hm boot_tuple ha (by decide) (by decide) h1 h2) hc_tuple
  split at h
  · rename_i e; subst e; cases h; rw [eb]; exact de_args (es := a :: es) (pe_callTy call_list_of hg hm boot_list ha (by decide) (by decide) h1 h2) hc_list
  split at h
  · rename_i e; subst e; cases h; rw [eb]; exact de_args (es := a :: es) (pe_callB (call_sortD (X := X) hu) hg hm boot_sorted ha (by decide) (by decide) h1 h2) hc_sorted
  · cases h
/-- tuple(range(e)) -/
theorem tupR_ok {e : Expr} {i : IE} {p p2 pos pos2 : Pos} (hc : X.calm = true) (hg : Gl X "tuple") (hm : X.mg "tuple" = none) (hg2 : Gl X "range") (hm2 : X.mg "range" = none) (he : DE X W cl e (evE cal i)) (hs : notStar e = true) :
    DE X W cl (.Call (.Name "tuple" p) [.Call (.Name "range" p2) [e] [] pos2] [] pos) (evE cal (.blt .tupleRange [i])) := by
  refine peImp (pe_tupRg hc hg hm (prg_1 hg2 hm2 he (star_cons hs)) (star_cons rfl)) fun σ H Q => ?_
  rintro ⟨rho, env, M, R, E, h⟩
  simp only [evE, evEs] at h
  refine ⟨rho, env, M, R, E, ?_⟩
  cases e : evE cal i env M with
  | ok d m =>
    rw [e] at h
    replace h : Post X.K W cl (RD X.K) σ rho H (bltOp .tupleRange [d] m) Q := h
    intro rho1 H1 v x1 R1 r1
    unfold bltOp at h
    split at h <;> first | contradiction | skip
    · rename_i n _ ee
      cases ee
      cases rd_int r1
      split at h
      · rename_i hz
        have hz2 : n ≤ 16777216 ∧ -(2 ^ 62) ≤ n := hz
        refine ⟨n, rfl, ⟨by omega, by omega, by omega, by omega, by omega⟩, fun q hq => ?_⟩
        have rr : RDs X.K rho1 H1 ((List.range n.toNat).map fun (k : Nat) => D.int k) (rgV 0 n) := by
          unfold rgV
          rw [Int.sub_zero]
          generalize List.range n.toNat = l
          induction l with
          | nil => rw [List.map_nil, List.map_nil, RDs]
          | cons k l ih => rw [List.map_cons, List.map_cons, RDs]; exact ⟨_, _, rfl, by rw [RD, Int.zero_add], ih⟩
        obtain ⟨x2, R2, r2⟩ := R1.tupNew hq rr
        exact h.okTo (x1.trans x2) R2 r2
      · exact h.elim
  | exc c m => rw [e] at h; exact h
  | bad => rw [e] at h; exact h.elim

theorem hkS : ∀ (k : SrcK) (ds : List D) (m : Store) (q : List D × Option (Nat × MO)), srcItems k ds m = some q → kept q.2 m = true := by
  intro k ds m q h
  unfold srcItems at h
  split at h <;> first | contradiction | skip
  · cases h; rfl
  · cases h; rfl
  · split at h
    · rename_i e; cases h; simp only [kept, decide_eq_true_eq]; exact e
    · rename_i e; cases h; simp only [kept, decide_eq_true_eq]; exact e
    · cases h
  · split at h
    · cases h; rfl
    · cases h
  · split at h
    · cases h; rfl
    · cases h

/-! ### the lambda -/
theorem cL_ok {e : Expr} {i : IE} (C : CxOk X W cl cal ci) (h : cL ci e = some i) : DE X W cl e (evE cal i) := by
  unfold cL at h
  split at h
  case h_2 => cases h
  rename_i x p1 y p2 z p3 a p4 p5 p6 kw k kp a2 pb k2 pc pd sc pl pk pos
  split at h
  case h_2 => cases h
  rename_i p j el ej
  split at h
  case isFalse => cases h
  rename_i hc
  cases h
  simp only [lamOk, Bool.and_eq_true, Bool.or_eq_true, decide_eq_true_eq, Bool.not_eq_true', List.all_eq_true, decide_eq_false_iff_not, nameOk] at hc
  obtain ⟨⟨⟨⟨⟨⟨⟨⟨⟨⟨⟨⟨⟨⟨⟨⟨⟨⟨⟨ex, ey⟩, ez⟩, ew⟩, ek⟩, ek2⟩, ea⟩, fx⟩, fy⟩, fz⟩, hcell⟩, na⟩, k1⟩, k2'⟩, k3⟩, k4⟩, k5⟩, k6⟩, k7⟩, hN⟩ := hc
  subst ex; subst ey; subst ez; subst ew; subst ek; subst ek2; subst ea
  obtain ⟨l1, l2, l3⟩ := C.lam p el
  refine de_sortby (C.noteI fx).1 (C.noteI fx).2 (C.noteI fy).1 (C.noteI fy).2 (C.noteI fz).1 (C.noteI fz).2 C.calm C.units C.room (by rw [C.hN]; exact hN) (by rw [C.sc]; exact hcell) na.1.1 na.1.2 k1 k2' k3 k4 k5 k6 (fun y hy e => ?_) l1 l2 l3
  rw [C.sc]
  exact (k7 y hy).resolve_left fun z => z e
end
end DV

/-! DvAll: every expression that cE takes. -/
namespace DV
open PySem PySem.Spec PyProof.Rows L2

section
variable {cl : Str → Addr} {cal : Callee}
def SndE (cl : Str → Addr) (cal : Callee) (g : Nat) : Prop := ∀ (X : Cx) (W : WX) (ci : CI) (e : Expr) (i : IE), CxOk X W cl cal ci → cE g ci e = some i → DE X W cl e (evE cal i) ∧ (notIte e = true → DT X W cl e (evT cal i))
def SndO (cl : Str → Addr) (cal : Callee) (g : Nat) : Prop := ∀ (X : Cx) (W : WX) (ci : CI) (e : Option Expr) (is : List IE), CxOk X W cl cal ci → cO g ci e = some is → PO X e (tP X.K W cl (evEs cal is))
def SndI (cl : Str → Addr) (cal : Callee) (g : Nat) : Prop := ∀ (X : Cx) (W : WX) (ci : CI) (tg e : Expr) (k : SrcK) (is : List IE), CxOk X W cl cal ci → cI g ci e = some (k, is) → DI X W cl tg e k (evEs cal is)

theorem sndT : ∀ (g : Nat) {X : Cx} {W : WX} {ci : CI} (e : Expr) (t : Tg), CxOk X W cl cal ci → cT g ci e = some t → PG X e (tG X.K t) := by
  intro g
  induction g with
  | zero => intro X W ci e t C h; simp [cT] at h
  | succ g ih =>
    intro X W ci e t C h
    have go : ∀ (es : List Expr) (ts : List Tg), es.all notStar = true → cT.go g ci es = some ts → PGs X es (tGs X.K ts) ∧ ts.length = es.length := by
      intro es
      induction es with
      | nil => intro ts _ h; simp only [cT.go, Option.some.injEq] at h; subst h; exact ⟨dgs_nil, rfl⟩
      | cons a es ihe =>
        intro ts hs h
        simp only [cT.go, Option.bind_eq_some_iff] at h
        obtain ⟨t1, h1, ts1, h2, h3⟩ := h
        cases h3
        rw [List.all_cons, Bool.and_eq_true] at hs
        obtain ⟨q1, q2⟩ := ihe ts1 hs.2 h2
        exact ⟨dgs_cons (ih a t1 C h1) q1 (by rw [asg_cons hs.1]; rfl), by rw [List.length_cons, List.length_cons, q2]⟩
    cases e with
    | Name x pos =>
      simp only [cT, Option.map_eq_some_iff] at h
      obtain ⟨i, h1, rfl⟩ := h
      exact dg_name (C.pg h1)
    | Tuple es k pos =>
      simp only [cT] at h
      split at h
      · rename_i hs
        rw [Option.map_eq_some_iff] at h
        obtain ⟨ts, h1, rfl⟩ := h
        obtain ⟨q1, q2⟩ := go es ts hs h1
        obtain ⟨l1, l2⟩ := asg_len (env := X.env) hs
        exact dg_tup C.calm q1 (by rw [l1, q2]) l2
      · cases h
    | _ => simp [cT] at h

theorem snd_list {g : Nat} (ih : SndE cl cal g) {X : Cx} {W : WX} {ci : CI} {es : List Expr} {is : List IE} (C : CxOk X W cl cal ci) (hs : es.all notStar = true) (h : cMap (cE g ci) es = some is) : DA X W cl es (evEs cal is) ∧ is.length = es.length :=
  cMap_ok (fun e _ i hi => (ih X W ci e i C hi).1) hs h

theorem snd_call {g : Nat} (ih : SndE cl cal g) {X : Cx} {W : WX} {ci : CI} {x : Str} {p pos : Pos} {a : Expr} {es : List Expr} {i : IE} (C : CxOk X W cl cal ci) (h : cE (g + 1) ci (.Call (.Name x p) (a :: es) [] pos) = some i) :
    DE X W cl (.Call (.Name x p) (a :: es) [] pos) (evE cal i) := by
  simp only [cE] at h
  split at h
  · rename_i hc
    rw [Bool.and_eq_true] at hc
    obtain ⟨h1, h2⟩ := hc
    have ha : notStar a = true := List.all_eq_true.mp h2 a List.mem_cons_self
    have he : es.all notStar = true := by rw [List.all_cons, Bool.and_eq_true] at h2; exact h2.2
    split at h
    · rename_i j n ed
      rw [Option.bind_eq_some_iff] at h
      obtain ⟨is, h3, h4⟩ := h
      split at h4
      · rename_i hl
        cases h4
        obtain ⟨k, f, fd, ps, F, hr, hm, hk, hb⟩ := C.defs j (x, n) (CI.def_ok ed)
        subst hl
        exact de_call (np := 0) F hr (C.gl h1) hm hk hb C.tk (snd_list ih C h2 h3).1 (CI.glob_ok h1).2.1 (star_cons ha) (star_plain he)
      · cases h4
    · split at h
      · rename_i hf
        split at h
        · rename_i e t ec
          rw [Option.map_eq_some_iff] at h
          obtain ⟨i1, h3, rfl⟩ := h
          unfold cF at ec
          split at ec
          · rename_i ex
            subst ex
            split at ec
            · rename_i y py
              split at ec
              · rename_i fy
                split at ec
                · rename_i t2 et
                  cases ec
                  obtain ⟨g1, g2⟩ := C.noteI hf
                  obtain ⟨g3, g4⟩ := C.noteI fy
                  refine de_isi g1 g2 (ih X W ci _ _ C h3).1 ?_ (star_cons ha)
                  unfold tyOf at et
                  split at et
                  · rename_i e; subst e; cases et; exact pe_bltn g3 g4 boot_int rfl
                  split at et
                  · rename_i e; subst e; cases et; exact pe_bltn g3 g4 boot_bool rfl
                  split at et
                  · rename_i e; subst e; cases et; exact pe_bltn g3 g4 boot_str rfl
                  split at et
                  · rename_i e; subst e; cases et; exact pe_bltn g3 g4 boot_tuple rfl
                  · cases et
                · cases ec
              · cases ec
            · cases ec
          · split at ec
            · split at ec
              · split at ec <;> cases ec
              · cases ec
            · cases ec
        · rename_i e ec
          rw [Option.map_eq_some_iff] at h
          obtain ⟨i1, h3, rfl⟩ := h
          unfold cF at ec
          split at ec
          · split at ec
            · split at ec
              · split at ec <;> cases ec
              · cases ec
            · cases ec
          · split at ec
            · rename_i ex
              subst ex
              split at ec
              · rename_i y py b pb
                split at ec
                · rename_i hh
                  simp only [Bool.and_eq_true, decide_eq_true_eq] at hh
                  obtain ⟨⟨h4, h5⟩, h6⟩ := hh
                  subst h5
                  cases ec
                  exact tupR_ok C.calm (C.noteI hf).1 (C.noteI hf).2 (C.noteI h4).1 (C.noteI h4).2 (ih X W ci _ _ C h3).1 h6
                · cases ec
              · cases ec
            · cases ec
        · cases h
        · rw [Option.bind_eq_some_iff] at h
          obtain ⟨b, h3, h4⟩ := h
          rw [Option.map_eq_some_iff] at h4
          obtain ⟨is, h5, rfl⟩ := h4
          exact blt_ok C.calm C.units h3 (C.noteI hf).1 (C.noteI hf).2 (snd_list ih C h2 h5).1 h2
      · cases h
  · cases h
theorem all_mem {es : List Expr} {f : Expr → Bool} (h : es.all f = true) {e : Expr} (he : e ∈ es) : f e = true := List.all_eq_true.mp h e he
theorem snd : ∀ g : Nat, SndE cl cal g ∧ SndO cl cal g ∧ SndI cl cal g := by
  intro g
  induction g with
  | zero =>
    refine ⟨fun X W ci e i C h => ?_, fun X W ci e is C h => ?_, fun X W ci tg e k is C h => ?_⟩
    · simp [cE] at h
    · simp [cO] at h
    · simp [cI] at h
  | succ g ih =>
    obtain ⟨ihE, ihO, ihI⟩ := ih
    refine ⟨fun X W ci e i C h => ?_, fun X W ci e is C h => ?_, fun X W ci tg e k is C h => ?_⟩
    · have dt : DE X W cl e (evE cal i) → byVal e = true → DE X W cl e (evE cal i) ∧ (notIte e = true → DT X W cl e (evT cal i)) := fun h b => ⟨h, fun _ => dt_by h b⟩
      cases e with
      | Name x pos =>
        refine dt ?_ rfl
        simp only [cE] at h
        split at h
        · rename_i j hj
          cases h
          obtain ⟨h1, h2, h3, h4⟩ := CI.slot_ok hj
          exact de_var (by rw [C.hN]; exact h1) (C.vis h2) h3 h4
        · split at h
          · rename_i hgl
            rw [Option.map_eq_some_iff] at h
            obtain ⟨d, h1, rfl⟩ := h
            obtain ⟨v, u, h2, h3, h4⟩ := C.cons (x, d) (PySem.mem_of_lookup h1)
            exact de_lit (pe_glob (C.gl hgl) h2 h3 (CI.glob_ok hgl).2.1) h4
          · cases h
      | Constant c k pos =>
        refine dt ?_ rfl
        simp only [cE, Option.map_eq_some_iff] at h
        obtain ⟨d, h1, rfl⟩ := h
        cases c <;> simp only [conOf, Option.some.injEq, reduceCtorEq] at h1 <;> subst h1
        · exact de_lit pe_non fun _ _ => by rw [RD]
        · exact de_lit pe_bl fun _ _ => by rw [RD]
        · exact de_lit pe_int fun _ _ => by rw [RD]
        · exact de_lit pe_str fun _ _ => by rw [RD]
      | Tuple es k pos =>
        refine dt ?_ rfl
        simp only [cE] at h
        split at h
        · rename_i hs
          rw [Bool.and_eq_true, decide_eq_true_eq] at hs
          rw [Option.map_eq_some_iff] at h
          obtain ⟨is, h1, rfl⟩ := h
          obtain ⟨q1, q2⟩ := snd_list ihE C hs.1 h1
          exact de_tup q1 (by omega)
        · cases h
      | List es pos =>
        refine dt ?_ rfl
        simp only [cE] at h
        split at h
        · rename_i hs
          rw [Bool.and_eq_true, decide_eq_true_eq] at hs
          rw [Option.map_eq_some_iff] at h
          obtain ⟨is, h1, rfl⟩ := h
          obtain ⟨q1, q2⟩ := snd_list ihE C hs.1 h1
          exact de_lst q1 (by omega)
        · cases h
      | BinOp a op b pos =>
        refine dt ?_ rfl
        simp only [cE, Option.bind_eq_some_iff] at h
        obtain ⟨o, h1, i1, h2, j1, h3, h4⟩ := h
        cases h4
        obtain ⟨r, r1, r2⟩ := bop_ok (X := X) (W := W) (cl := cl) h1
        have := de_two (a := a) (b := b) (pe_op (pos := pos) r1 (ihE X W ci a i1 C h2).1 (ihE X W ci b j1 C h3).1) r2
        have e : evE cal (.bin o i1 j1) = fun env M => (evE cal i1 env M).bind fun x M1 => (evE cal j1 env M1).bind fun y M2 => binOp o x y M2 := by funext env M; simp only [evE]
        rw [e]
        exact this
      | UnaryOp op a pos =>
        cases op with
        | USub =>
          refine dt ?_ rfl
          simp only [cE, Option.map_eq_some_iff] at h
          obtain ⟨j, h1, rfl⟩ := h
          exact de_neg (ihE X W ci a j C h1).1
        | Not =>
          simp only [cE] at h
          split at h
          · rename_i hn
            rw [Option.map_eq_some_iff] at h
            obtain ⟨j, h1, rfl⟩ := h
            exact ⟨de_not (ihE X W ci a j C h1).1, fun _ => dt_not ((ihE X W ci a j C h1).2 hn)⟩
          · cases h
        | Invert => simp [cE] at h
        | UAdd => simp [cE] at h
      | BoolOp op es pos =>
        cases es with
        | nil => cases op <;> simp [cE] at h
        | cons a es =>
          cases op with
          | And =>
            simp only [cE] at h
            split at h
            · rename_i hn
              rw [Option.map_eq_some_iff] at h
              obtain ⟨is, h1, rfl⟩ := h
              have e : evE cal (.and is) = fun env M => evAnd cal is env M := by funext env M; simp only [evE]
              have e2 : evT cal (.and is) = fun env M => (evAnd cal is env M).bind toB := by funext env M; rw [evT_eq, e]
              rw [e, e2]
              exact ⟨cAnd_ok (fun e _ i hi => (ihE X W ci e i C hi).1) h1, fun _ => (tAnd_ok (fun e he i hi => (ihE X W ci e i C hi).2 (all_mem hn he)) h1).pt⟩
            · cases h
          | Or =>
            simp only [cE] at h
            split at h
            · rename_i hn
              rw [Option.map_eq_some_iff] at h
              obtain ⟨is, h1, rfl⟩ := h
              have e : evE cal (.or is) = fun env M => evOr cal is env M := by funext env M; simp only [evE]
              have e2 : evT cal (.or is) = fun env M => (evOr cal is env M).bind toB := by funext env M; rw [evT_eq, e]
              rw [e, e2]
              exact ⟨cOr_ok (fun e _ i hi => (ihE X W ci e i C hi).1) h1, fun _ => (tOr_ok (fun e he i hi => (ihE X W ci e i C hi).2 (all_mem hn he)) h1).pt⟩
            · cases h
      | Compare a ops bs pos =>
        unfold cE at h
        split at h <;> first | contradiction | skip
        · rename_i a1 op b p1 ee
          cases ee
          simp only [Option.bind_eq_some_iff] at h
          obtain ⟨o, h1, i1, h2, j1, h3, h4⟩ := h
          split at h4
          · cases h4
          · rename_i hm
            cases h4
            obtain ⟨r, r1, r2⟩ := cop_ok (X := X) (W := W) (cl := cl) C.units h1
            have hm : behindInMarks op b = false := by simpa using hm
            have e : evE cal (.cmp o i1 j1) = fun env M => (evE cal i1 env M).bind fun x M1 => (evE cal j1 env M1).bind fun y M2 => cmpOp o x y M2 := by funext env M; simp only [evE]
            have e2 : evT cal (.cmp o i1 j1) = fun env M => ((evE cal i1 env M).bind fun x M1 => (evE cal j1 env M1).bind fun y M2 => cmpOp o x y M2).bind toB := by funext env M; rw [evT_eq, e]
            rw [e, e2]
            exact ⟨de_two (a := a) (b := b) (pe_cmpR (pos := pos) r1 (ihE X W ci a i1 C h2).1 (ihE X W ci b j1 C h3).1 hm) r2, fun _ => dt_two (pt_cmpR (pos := pos) r1 (ihE X W ci a i1 C h2).1 (ihE X W ci b j1 C h3).1 hm) r2⟩
        · rename_i a1 op op' b c p1 ee
          cases ee
          simp only [Option.bind_eq_some_iff] at h
          obtain ⟨o, h1, o', h1', i1, h2, j1, h3, k1, h3', h4⟩ := h
          split at h4
          · cases h4
          · rename_i hm
            cases h4
            obtain ⟨r, r1, r2⟩ := cop_ok (X := X) (W := W) (cl := cl) C.units h1
            obtain ⟨r', r1', r2'⟩ := cop_ok (X := X) (W := W) (cl := cl) C.units h1'
            rw [Bool.or_eq_true, not_or] at hm
            have hm : behindInMarks op' c = false := by simpa using hm.2
            exact ⟨peImp (pe_chain (pos := pos) r1 r1' (ihE X W ci a i1 C h2).1 (ihE X W ci b j1 C h3).1 (ihE X W ci c k1 C h3').1 (lastM hm)) fun σ H Q q => chain_read r2 r2' q,
              fun _ => ptImp (pt_chain (pos := pos) r1 r1' (ihE X W ci a i1 C h2).1 (ihE X W ci b j1 C h3).1 (ihE X W ci c k1 C h3').1 (lastM hm)) fun σ H Q q => chain_read r2 r2' (t_of q)⟩
      | IfExp c a b pos =>
        simp only [cE] at h
        split at h
        · cases h
        · rename_i hn
          simp only [Option.bind_eq_some_iff] at h
          obtain ⟨k1, h1, i1, h2, j1, h3, h4⟩ := h
          cases h4
          exact ⟨de_ite ((ihE X W ci c k1 C h1).2 (by simpa using hn)) (ihE X W ci a i1 C h2).1 (ihE X W ci b j1 C h3).1, fun z => by cases z⟩
      | Subscript a b pos =>
        refine dt ?_ rfl
        unfold cE at h
        split at h <;> first | contradiction | skip
        · rename_i a1 lo hi p1 p2 ee
          cases ee
          simp only [Option.bind_eq_some_iff] at h
          obtain ⟨i1, h1, l1, h2, l2, h3, h4⟩ := h
          cases h4
          exact de_slc (ihE X W ci a i1 C h1).1 (ihO X W ci lo l1 C h2) (ihO X W ci hi l2 C h3)
        · rename_i a1 b1 p1 _ ee
          cases ee
          split at h
          · rename_i hs
            simp only [Option.bind_eq_some_iff] at h
            obtain ⟨i1, h1, j1, h2, h3⟩ := h
            cases h3
            have := de_two (a := a) (b := b) (pe_ix (pos := pos) (ix_D (X := X)) (ihE X W ci a i1 C h1).1 (ihE X W ci b j1 C h2).1 (plainIx hs)) (hop_idx (X := X) (W := W) (cl := cl))
            have e : evE cal (.idx i1 j1) = fun env M => (evE cal i1 env M).bind fun x M1 => (evE cal j1 env M1).bind fun y M2 => idxOp x y M2 := by funext env M; simp only [evE]
            rw [e]
            exact this
          · cases h
      | Call f es ks pos =>
        refine dt ?_ rfl
        unfold cE at h
        split at h <;> first | contradiction | skip
        · rename_i x p1 a es1 p2 ee
          cases ee
          refine snd_call (g := g) ihE C ?_
          simp only [cE]
          exact h
        · rename_i ee
          cases ee
          exact cL_ok C h
        · rename_i o m apos a p2 ee
          cases ee
          split at h
          · rename_i hh
            simp only [Bool.and_eq_true] at hh
            obtain ⟨⟨h1, h2⟩, h3⟩ := hh
            simp only [Option.bind_eq_some_iff] at h
            obtain ⟨i1, h4, j1, h5, h6⟩ := h
            have hA : DA X W cl [a] (evEs cal [j1]) := da_cons (ihE X W ci a j1 C h5).1 da_nil (star_cons h2)
            have few : ((backTo pos (starEach [a] X.env)).all (fun x => !x.1) && (backToKw pos (keywordEach [] X.env)).all (fun x => x.1.isSome)
                && decide ([a].length + ([] : List Keyword).length + (if ([] : List Keyword).isEmpty then 0 else 1) < 30)) = true := by rw [star_cons h2]; rfl
            split at h6
            · rename_i em
              subst em
              cases h6
              exact de_append (pe_bm PySem.F.plainAttrs_list PySem.F.slot_list_append PySem.F.type_list_append mt_append (ihE X W ci o i1 C h4).1 hA (base_of h1) few h3 (star_cons h2) rfl)
            · split at h6
              · rename_i em
                subst em
                cases h6
                exact de_extend (pe_bm PySem.F.plainAttrs_list PySem.F.slot_list_extend PySem.F.type_list_extend mt_extend (ihE X W ci o i1 C h4).1 hA (base_of h1) few h3 (star_cons h2) rfl)
              · cases h6
          · cases h
      | ListComp elt gens scope pos =>
        refine dt ?_ rfl
        unfold cE at h
        split at h <;> first | contradiction | skip
        · rename_i elt1 tg iter ifs scope1 p1 ee
          cases ee
          split at h
          · rename_i hb
            rw [Bool.and_eq_true] at hb
            obtain ⟨hb, hset⟩ := hb
            have bk := blkOk_by hb
            simp only [Option.bind_eq_some_iff] at h
            obtain ⟨t, h1, ks, h2, tests, h3, i1, h4, h5⟩ := h
            split at h5
            · rename_i hown
              cases h5
              have CB := fun s H A c fp => C.blk bk.kind s H A c fp
              refine de_comp C.calm C.nd (ihI X W ci tg iter ks.1 ks.2 C h2) (by rw [C.hN, C.sc]; exact bk) (fun s H A c fp => sndT g tg t (CB s H A c fp) h1) (fun s H A c fp => ?_) (fun s H A c fp => (ihE _ W0 _ elt i1 (CB s H A c fp) h4).1) (fsi hset) ?_ (hkS ks.1)
              · split at h3
                · cases h3
                  exact dts_nil
                · rename_i c1
                  split at h3
                  · rename_i hn
                    rw [Option.map_eq_some_iff] at h3
                    obtain ⟨j1, h6, rfl⟩ := h3
                    exact dts_one ((ihE _ W0 _ c1 j1 (CB s H A c fp) h6).2 hn)
                  · cases h3
                · cases h3
              · intro n hn
                have := List.all_eq_true.mp hown n hn
                rw [List.contains_eq_mem, decide_eq_true_eq] at this
                exact this
            · cases h5
          · cases h
      | _ => simp [cE] at h
    · cases e with
      | none =>
        simp only [cO, Option.some.injEq] at h
        subst h
        exact dp_none
      | some e =>
        simp only [cO, Option.map_eq_some_iff] at h
        obtain ⟨j, h1, rfl⟩ := h
        exact dp_some (ihE X W ci e j C h1).1
    · have val : ∀ i, cE g ci e = some i → DI X W cl tg e .val (evEs cal [i]) := fun i hi => di_val (ihE X W ci e i C hi).1
      unfold cI at h
      split at h
      · rename_i x p a pos
        split at h
        · rename_i hh
          simp only [Bool.and_eq_true, decide_eq_true_eq] at hh
          obtain ⟨⟨h1, h2⟩, h3⟩ := hh
          subst h3
          rw [Option.map_eq_some_iff] at h
          obtain ⟨i, h4, h5⟩ := h
          cases h5
          exact di_rng1 (C.noteI h1).1 (C.noteI h1).2 (da_cons (ihE X W ci a i C h4).1 da_nil (star_cons h2)) (star_cons h2)
        · rw [Option.map_eq_some_iff] at h
          obtain ⟨i, h4, h5⟩ := h
          cases h5
          exact val i h4
      · rename_i x p a b pos
        split at h
        · rename_i hh
          simp only [Bool.and_eq_true, decide_eq_true_eq] at hh
          obtain ⟨⟨⟨h1, h2⟩, h2'⟩, h3⟩ := hh
          subst h3
          simp only [Option.bind_eq_some_iff] at h
          obtain ⟨i, h4, j, h4', h5⟩ := h
          cases h5
          exact di_rng2 (C.noteI h1).1 (C.noteI h1).2 (da_cons (ihE X W ci a i C h4).1 (da_cons (ihE X W ci b j C h4').1 da_nil (star_cons h2')) (star_cons h2)) (by rw [star_cons h2, star_cons h2']; rfl) (star_cons h2')
        · rw [Option.map_eq_some_iff] at h
          obtain ⟨i, h4, h5⟩ := h
          cases h5
          exact val i h4
      · rw [Option.map_eq_some_iff] at h
        obtain ⟨i, h4, h5⟩ := h
        cases h5
        exact val i h4
end
end DV

/-! DvStm: statements, defs. -/
namespace DV
open PySem PySem.Spec PyProof.Rows L2

/-- name = [..]: the new list is stored while it is made -/
def swB (ci : CI) (y : Str) (py pos : Pos) (scope : Scope) : Bool := decide (ci.sc.names.lookup y = some .local) && (py.line == pos.line) && !(scope.names.any fun (n, k) => n == y && (k == .local || k == .cell))
def isName : Expr → Bool
  | .Name .. => true
  | _ => false
def notLst : Expr → Bool
  | .List .. => false
  | _ => true
mutual
def cS : Nat → CI → Stmt → Option IS
  | 0, _, _ => none
  | g + 1, ci, s => match s with
    | .Pass _ => some .pass
    | .Break _ => some .brk
    | .Continue _ => some .cont
    | .Expr e _ => if notComp e then (cE g ci e).map .expr else none
    | .Return (some e) _ => (cE g ci e).map .ret
    | .Return none _ => some .retN
    | .If c a b _ => if notIte c then (cE g ci c).bind fun i => (cSs g ci a).bind fun is => (cSs g ci b).map fun js => .iff i is js else none
    | .For tg iter body [] _ => if notSet iter then (cT g ci tg).bind fun t => (cI g ci iter).bind fun ks => (cSs g ci body).map fun is => .forr t ks.1 ks.2 is else none
    | .While c body [] _ => if notIte c then (cE g ci c).bind fun i => (cSs g ci body).map fun is => .whil i is else none
    | .Assign [.Subscript o k _] e _ => if notSlice k then (cE g ci e).bind fun i => (cE g ci o).bind fun j => (cE g ci k).map fun l => .asgSub j l i else none
    | .Assign [tg] e _ => if notStar tg && !(isTup tg && isTup e) then (cE g ci e).bind fun i => (cT g ci tg).map fun t => .asg t i else none
    | .AugAssign (.Name x _) .Add e _ => (ci.put x).bind fun i => (cE g ci e).map fun j => .aug i j
    | _ => none
def cSs : Nat → CI → List Stmt → Option (List IS)
  | 0, _, _ => none
  | _ + 1, _, [] => some []
  | g + 1, ci, s :: ss => (cS g ci s).bind fun i => (cSs g ci ss).map fun is => i :: is
end

section
variable {X : Cx} {W : WX} {cl : Str → Addr} {cal : Callee} {ci : CI} {fl : Nat}
theorem sw_sole {t e : Expr} {l : Nat} {env : PySem.Env} (h : isName t = false ∨ notComp e = true) : swapsWithSole [t] e l env = pure false := by
  by_cases hn : notComp e = true
  · exact sw_none hn
  · have h2 : isName t = false := h.resolve_right hn
    clear h
    show swapsWith e (some t) l env = pure false
    cases e with
    | ListComp a b c d =>
      cases t with
      | Name x p => cases h2
      | _ => rfl
    | SetComp a b c d =>
      cases t with
      | Name x p => cases h2
      | _ => rfl
    | DictComp a b c d f =>
      cases t with
      | Name x p => cases h2
      | _ => rfl
    | _ => exact absurd rfl hn
theorem sw_off {elt : Expr} {gs : List Comprehension} {scope : Scope} {pos py : Pos} {y : Str} {l : Nat} {env : PySem.Env} (h : env.scope.names.lookup y ≠ some .local ∨ (py.line == pos.line) = false ∨ (scope.names.any fun (n, k) => n == y && (k == .local || k == .cell)) = true) :
    swapsWith (.ListComp elt gs scope pos) (some (.Name y py)) l env = pure false := by
  unfold swapsWith
  dsimp only
  rcases h with h | h | h
  · have : (env.kindOf y == some NameKind.local) = false := by
      have h : ¬ env.kindOf y = some NameKind.local := h
      simpa using h
    rw [this, Bool.and_false, Bool.false_and, Bool.false_and]
  · rw [show (py.line == (Expr.ListComp elt gs scope pos).pos.line) = false from h, Bool.and_false, Bool.false_and]
  · rw [h]
    simp
theorem swapped_none {t e : Expr} {env : PySem.Env} (h : (isTup t && isTup e) = false) (hl : notLst t = true) : swappedStores [t] e env = pure none := by
  cases t with
  | List a b => cases hl
  | Tuple a b c =>
    cases e with
    | Tuple d f g => cases h
    | _ => rfl
  | _ => rfl
theorem cT_notList {g : Nat} {t : Expr} {tg : Tg} (h : cT g ci t = some tg) : notLst t = true := by
  cases g with
  | zero => simp [cT] at h
  | succ g => cases t <;> first | rfl | simp [cT] at h
theorem asg_one {t : Expr} {env : PySem.Env} (h : notStar t = true) : (assignEach [t] env).map (·.2) = [assign t env] := by rw [asg_cons h]; rfl

theorem snd_asg {g : Nat} {tg e : Expr} {pos : Pos} {i : IE} {t : Tg} (C : CxOk X W cl cal ci) (h1 : notStar tg = true) (h2 : (isTup tg && isTup e) = false) (he : cE g ci e = some i) (ht : cT g ci tg = some t) : DS X W cl (.Assign [tg] e pos) (evS cal fl (.asg t i)) := by
  have hE := (snd g).1 X W ci e i C he
  have hT := sndT g tg t C ht
  have plain : isName tg = false ∨ notComp e = true → DS X W cl (.Assign [tg] e pos) (evS cal fl (.asg t i)) := fun z => ds_asg hE.1 hT (sw_sole z) (swapped_none h2 (cT_notList ht)) (asg_one h1)
  cases tg with
  | Name y py =>
    cases e with
    | ListComp elt gens scope p =>
      cases hsw : swB ci y py p scope with
      | false =>
        refine ds_asg hE.1 hT ?_ rfl (asg_one h1)
        refine sw_off (l := pos.line) ?_
        rw [C.sc]
        unfold swB at hsw
        simp only [Bool.and_eq_false_iff, decide_eq_false_iff_not, Bool.not_eq_false'] at hsw
        rcases hsw with (z | z) | z
        · exact .inl z
        · exact .inr (.inl z)
        · exact .inr (.inr z)
      | true =>
        unfold swB at hsw
        simp only [Bool.and_eq_true, decide_eq_true_eq, Bool.not_eq_true'] at hsw
        obtain ⟨⟨s1, s2⟩, s3⟩ := hsw
        cases g with
        | zero => simp [cE] at he
        | succ g =>
          simp only [cT, Option.map_eq_some_iff] at ht
          obtain ⟨yi, hy, rfl⟩ := ht
          unfold cE at he
          split at he <;> first | contradiction | skip
          · rename_i elt1 tg iter ifs scope1 p1 ee
            cases ee
            split at he
            · rename_i hb
              rw [Bool.and_eq_true] at hb
              obtain ⟨hb, hset⟩ := hb
              have bk := blkOk_by hb
              simp only [Option.bind_eq_some_iff] at he
              obtain ⟨t, h1, ks, h2, tests, h3, i1, h4, h5⟩ := he
              split at h5
              · rename_i hown
                cases h5
                have CB := fun s H A c fp => C.blk bk.kind s H A c fp
                have ihE := (snd (cl := cl) (cal := cal) g).1
                have s1' : X.env.scope.names.lookup y = some .local := by rw [C.sc]; exact s1
                refine ds_setComp C.calm C.nd (by rw [C.hN]; exact (CI.put_ok hy).1) s1' (sw_true C.kind s1' s2 s3) ((snd g).2.2 X W ci tg iter ks.1 ks.2 C h2) (by rw [C.hN, C.sc]; exact bk) (fun s H A c fp => sndT g tg t (CB s H A c fp) h1) (fun s H A c fp => ?_) (fun s H A c fp => (ihE _ W0 _ elt i1 (CB s H A c fp) h4).1) (fsi hset) ?_ (hkS ks.1)
                · split at h3
                  · cases h3
                    exact dts_nil
                  · rename_i c1
                    split at h3
                    · rename_i hn
                      rw [Option.map_eq_some_iff] at h3
                      obtain ⟨j1, h6, rfl⟩ := h3
                      exact dts_one ((ihE _ W0 _ c1 j1 (CB s H A c fp) h6).2 hn)
                    · cases h3
                  · cases h3
                · intro n hn
                  have := List.all_eq_true.mp hown n hn
                  rw [List.contains_eq_mem, decide_eq_true_eq] at this
                  exact this
              · cases h5
            · cases he
    | SetComp _ _ _ _ => cases g <;> simp [cE] at he
    | DictComp _ _ _ _ _ => cases g <;> simp [cE] at he
    | _ => exact plain (.inr rfl)
  | _ => exact plain (.inl rfl)
theorem sub_assign {o k : Expr} {p2 : Pos} {env : PySem.Env} (h : notSlice k = true) (v : Value) : assign (.Subscript o k p2) env v = (do
      let ov ← holding [v] (eval o env)
      let iv ← holding [v, ov] (eval k env)
      standAt p2
      holding [v, ov, iv] (setItem ov iv v)
      release [v, ov, iv] []) := by cases k <;> first | rfl | cases h

def SndS (cl : Str → Addr) (cal : Callee) (fl g : Nat) : Prop := ∀ (X : Cx) (W : WX) (ci : CI) (s : Stmt) (i : IS), CxOk X W cl cal ci → PassesOwn (model X.prog X.w) X.A X.env X.xe → cS g ci s = some i → DS X W cl s (evS cal fl i)
def SndSs (cl : Str → Addr) (cal : Callee) (fl g : Nat) : Prop := ∀ (X : Cx) (W : WX) (ci : CI) (s : List Stmt) (i : List IS), CxOk X W cl cal ci → PassesOwn (model X.prog X.w) X.A X.env X.xe → cSs g ci s = some i → DSs X W cl s (evSs cal fl i)
theorem sndS : ∀ g : Nat, SndS cl cal fl g ∧ SndSs cl cal fl g := by
  intro g
  induction g with
  | zero =>
    refine ⟨fun X W ci s i C hp h => ?_, fun X W ci s i C hp h => ?_⟩
    · simp [cS] at h
    · simp [cSs] at h
  | succ g ih =>
    obtain ⟨ihS, ihSs⟩ := ih
    have ihE := (snd (cl := cl) (cal := cal) g).1
    have ihI := (snd (cl := cl) (cal := cal) g).2.2
    refine ⟨fun X W ci s i C hp h => ?_, fun X W ci s i C hp h => ?_⟩
    · unfold cS at h
      split at h <;> first | contradiction | skip
      · cases h; exact ds_pass
      · cases h; exact ds_brk
      · cases h; exact ds_cont
      · split at h
        · rename_i hn
          rw [Option.map_eq_some_iff] at h
          obtain ⟨j, h1, rfl⟩ := h
          exact ds_expr (ihE X W ci _ j C h1).1 (sw_none hn)
        · cases h
      · rw [Option.map_eq_some_iff] at h
        obtain ⟨j, h1, rfl⟩ := h
        exact ds_ret (ihE X W ci _ j C h1).1
      · cases h; exact ds_retN
      · split at h
        · rename_i hn
          simp only [Option.bind_eq_some_iff, Option.map_eq_some_iff] at h
          obtain ⟨j, h1, is, h2, js, h3, rfl⟩ := h
          exact ds_if ((ihE X W ci _ j C h1).2 hn) (ihSs X W ci _ is C hp h2) (ihSs X W ci _ js C hp h3)
        · cases h
      · split at h
        · rename_i hn
          simp only [Option.bind_eq_some_iff, Option.map_eq_some_iff] at h
          obtain ⟨t, h1, ks, h2, is, h3, rfl⟩ := h
          exact ds_for hp C.calm (ihI X W ci _ _ ks.1 ks.2 C h2) (sndT g _ t C h1) (ihSs X W ci _ is C hp h3) (fsi hn) (hkS ks.1)
        · cases h
      · split at h
        · rename_i hn
          simp only [Option.bind_eq_some_iff, Option.map_eq_some_iff] at h
          obtain ⟨j, h1, is, h2, rfl⟩ := h
          exact ds_while hp ((ihE X W ci _ j C h1).2 hn) (ihSs X W ci _ is C hp h2)
        · cases h
      · rename_i o k p2 e pos
        split at h
        · rename_i hn
          simp only [Option.bind_eq_some_iff, Option.map_eq_some_iff] at h
          obtain ⟨i1, h1, j1, h2, l1, h3, rfl⟩ := h
          have he := (ihE X W ci _ i1 C h1).1
          have ho := (ihE X W ci _ j1 C h2).1
          have hk := (ihE X W ci _ l1 C h3).1
          exact ds_sub he ho hk (ps_asg he (pg_sub ho hk set_list (sub_assign hn)) (sw_sole (.inl rfl)) (swapped_none rfl rfl) (asg_one rfl))
        · cases h
      · rename_i tg e pos _
        split at h
        · rename_i hn
          rw [Bool.and_eq_true, Bool.not_eq_true'] at hn
          simp only [Option.bind_eq_some_iff, Option.map_eq_some_iff] at h
          obtain ⟨i1, h1, t, h2, rfl⟩ := h
          exact snd_asg C hn.1 hn.2 h1 h2
        · cases h
      · simp only [Option.bind_eq_some_iff, Option.map_eq_some_iff] at h
        obtain ⟨i1, h1, j1, h2, rfl⟩ := h
        obtain ⟨q1, q2⟩ := CI.put_ok h1
        refine ds_aug (ps_aug C.nd (by rw [C.hN]; exact q1) (by rw [C.sc]; exact q2.elim .inl fun z => .inr z.1) (ihE X W ci _ j1 C h2).1 ip_add (q2.elim (fun z => .inr (by rw [C.sc]; exact z)) fun z => .inl (C.own _ z.2)))
    · cases s with
      | nil =>
        simp only [cSs, Option.some.injEq] at h
        subst h
        exact dss_nil
      | cons s ss =>
        simp only [cSs, Option.bind_eq_some_iff, Option.map_eq_some_iff] at h
        obtain ⟨j, h1, is, h2, rfl⟩ := h
        exact dss_cons (ihS X W ci s j C hp h1) (ihSs X W ci ss is C hp h2)
end
end DV

/-! DvDef: all defs of a text, by the depth of calls. -/
namespace DV
open PySem PySem.Spec PyProof.Rows L2

/-- a def: where it stands, its parameters, all its names, its code -/
structure DefI where
  d : He.DefD
  ps : List Str
  N : List Str
  ir : List IS
def DefI.fd (i : DefI) : FD := ⟨i.ps.length, i.N.length, i.ir⟩
/-- the code of defs -/
def tabI (ds : List DefI) : Tab := ds.map DefI.fd

theorem start_re {K : PySem.W.Frag} {rho : List Addr} {H : Hp} {N : List Str} : ∀ {ds : List D} {vs : List V} (k : Nat), RDs K rho H ds vs → RE K rho H (ds.map some ++ List.replicate k none) (vs.map some ++ List.replicate k none) := by
  intro ds vs k h
  refine ⟨by rw [List.length_append, List.length_append, List.length_map, List.length_map, h.length, List.length_replicate, List.length_replicate], fun i d e => ?_⟩
  by_cases hi : i < ds.length
  · rw [List.getElem?_append_left (by rw [List.length_map]; exact hi), List.getElem?_map, Option.map_eq_some_iff] at e
    obtain ⟨d', e1, e2⟩ := e
    cases e2
    obtain ⟨v, e3, r⟩ := h.get e1
    refine ⟨v, ?_, r⟩
    rw [List.getElem?_append_left (by rw [List.length_map, h.length]; exact hi), List.getElem?_map, e3]
    rfl
  · rw [List.getElem?_append_right (by rw [List.length_map]; omega), List.getElem?_replicate] at e
    split at e <;> cases e

section
variable {P : Program} {w : World} {K : PySem.W.Frag} {mg : Str → Option Value} {base : Heap} {cl : Str → Addr}
/-- what is known of a def's object -/
def Stands (K : PySem.W.Frag) (mg : Str → Option Value) (i : DefI) (f : Addr) (fd : FuncData) : Prop :=
  FunD K i.d.name i.d.qual i.d.params i.d.body i.d.scope [] [] f fd ∧ mg i.d.name = some (.ref f) ∧ Binds K fd i.ps [] ∧ f = He.fAd K i.d.at_
structure Text (K : PySem.W.Frag) (mg : Str → Option Value) (gi : GI) (ds : List DefI) (g : Nat) : Prop where
  defs : gi.defs = ds.map fun i => (i.d.name, i.ps.length)
  stands : ∀ i ∈ ds, ∃ f fd, Stands K mg i f fd
  scope : ∀ i ∈ ds, FnScope i.N i.ps i.d.scope
  code : ∀ i ∈ ds, cSs g ⟨gi, i.N, i.d.scope, fun _ => true, (gi.lams.find? (·.1 == i.d.qual))⟩ i.d.body = some i.ir
  free : ∀ x ∈ gi.free, mg x = none
  cons : ∀ p ∈ gi.consts, ∃ v u, mg p.1 = some u ∧ RelV v u ∧ ∀ rho H, RD K rho H p.2 v
theorem all_ok {gi : GI} {ds : List DefI} {fl g : Nat} (T : Text K mg gi ds g) (TB : ∀ i ∈ ds, ∀ p, gi.lams.find? (·.1 == i.d.qual) = some p → i.d.at_ = (p.1, none) ∧ LamX.TabB base mg (He.cT K (p.1, none)).1 (He.cT K (p.1, none)).2) : ∀ (n j : Nat) (i : DefI), ds[j]? = some i →
    ∃ f fd, Stands K mg i f fd ∧ FnOk P w K mg base (L2.CX P w) n f fd i.ps (spC K cl i.ps.length (evC (tabI ds) fl n j)) := by
  intro n
  induction n with
  | zero =>
    intro j i hj
    obtain ⟨f, fd, h⟩ := T.stands i (List.mem_of_getElem? hj)
    refine ⟨f, fd, h, ⟨fun vs H Q E z => z.1, fun A outer s H args us vs Q E hr e0 hb hv z => ?_⟩⟩
    obtain ⟨_, rho, dd, M, _, _, z⟩ := z
    exact z.elim
  | succ n ih =>
    intro j i hj
    have hi := List.mem_of_getElem? hj
    obtain ⟨f, fd, h⟩ := T.stands i hi
    have S := T.scope i hi
    have h0 := h
    obtain ⟨⟨⟨oc, od, dV, kV, doc, pm, an, cdv, ct, osl, rfl, lk, hcd, _, _⟩, kp⟩, hmg, hbd, hf⟩ := h
    refine ⟨f, _, h0, fn_of lk hcd S (fun vs H Q E z => z.1) fun A outer s H vs Q E hr z => ?_⟩
    obtain ⟨hl, rho, dd, M, R, rs, z⟩ := z
    have C : CxOk (cxOf (L2.CX P w) P w K mg base i.N i.d.qual i.d.scope f cdv A outer s H E) (wE E) cl (evC (tabI ds) fl n) ⟨gi, i.N, i.d.scope, fun _ => true, (gi.lams.find? (·.1 == i.d.qual))⟩ :=
      { hN := rfl, nd := S.nd, sc := rfl, kind := S.kind, calm := rfl, own := fun _ _ => rfl
        units := by have := hr.un; show (A.deeper _).units + 70 < cLine; omega
        free := T.free, cons := T.cons, room := hr.depth
        lam := fun p e => by
          obtain ⟨e1, e2⟩ := TB i hi p e
          have e3 : p.1 = i.d.qual := by
            have := List.find?_some e
            simpa using this
          obtain ⟨c, ec⟩ := He.codeIn_ref hcd
          have e4 : cdv = .ref (He.cT K (p.1, none)).1 := by
            rw [ec]
            refine congrArg Value.ref (Eq.symm (He.codeOf_eq (K := K) (p := (p.1, none)) (fd := PySem.W.fnOf i.d.name i.d.qual i.d.params i.d.body i.d.scope dV kV doc pm an cdv ct) (oc := oc) (od := od) (osl := osl) ?_ ec))
            rw [← e1, ← hf]
            exact lk
          exact ⟨show i.d.qual ++ ".<locals>." = p.1 ++ ".<locals>." by rw [e3], e4, e2⟩
        defs := fun j' p e => by
          have e : gi.defs[j']? = some p := e
          rw [T.defs, List.getElem?_map, Option.map_eq_some_iff] at e
          obtain ⟨i', e1, rfl⟩ := e
          obtain ⟨f', fd', h', F'⟩ := ih j' i' e1
          exact ⟨n, f', fd', i'.ps, F', hr, h'.2.1, h'.1.kp, h'.2.2.1⟩
        tk := takes_of rfl rfl rfl rfl }
    refine ⟨_, (sndS (fl := fl) g).2 _ _ _ _ _ C (passes_of rfl) (T.code i hi), rho, dd.map some ++ List.replicate (i.N.length - i.ps.length) none, M, R, ?_, ?_⟩
    · have e : L2.start i.N vs = vs.map some ++ List.replicate (i.N.length - i.ps.length) none := by
        unfold L2.start
        rw [← hl]
      rw [e]
      exact start_re (N := i.N) _ rs
    · have e : evC (tabI ds) fl (n + 1) j dd M = runD (evC (tabI ds) fl n) fl i.fd dd M := by
        show (match (tabI ds)[j]? with
          | some d => runD (evC (tabI ds) fl n) fl d dd M
          | none => .bad) = _
        have : (tabI ds)[j]? = some i.fd := by unfold tabI; rw [List.getElem?_map, hj]; rfl
        rw [this]
      rw [e] at z
      exact call_end (np := 0) R z
end
end DV

/-! DvEnd: from what the code comes to, to the law. -/
namespace DV
open PySem PySem.Spec PyProof.Rows L2

/-- a script, as data -/
abbrev intsD (ns : List Int) : List D := ns.map D.int
def tabs0 (gi : GI) : Store := gi.lams.map fun p => MO.tab p.1
/-- where a script may stand -/
def Starts (gi : GI) (ns : List Int) (sc : D) (m : Store) : Prop := (m = tabs0 gi ∧ sc = .rol (intsD ns)) ∨ (m = tabs0 gi ++ [.lst (intsD ns)] ∧ sc = .ref (tabs0 gi).length)
theorem ints_rd {K : PySem.W.Frag} {rho : List Addr} {H : Hp} : ∀ ns : List Int, RDs K rho H (intsD ns) (ns.map V.int)
  | [] => by show RDs K rho H [] []; rw [RDs]
  | n :: ns => by show RDs K rho H (D.int n :: intsD ns) (V.int n :: ns.map V.int); rw [RDs]; exact ⟨_, _, rfl, by rw [RD], ints_rd ns⟩

def tfOf (gi : GI) : List He.Defn := gi.lams.map fun p => (p.1, none)
/-- the tables differ -/
def apart (gi : GI) (K : PySem.W.Frag) : Bool := decide (((tfOf gi).map fun p => (He.cT K p).2).Nodup)
theorem stands_one {K : PySem.W.Frag} {mg : Str → Option Value} {i : DefI} {f f' : Addr} {fd fd' : FuncData} (h : Stands K mg i f fd) (h' : Stands K mg i f' fd') : f = f' ∧ fd = fd' := by
  obtain ⟨⟨⟨oc, od, dV, kV, doc, pm, an, cdv, ct, osl, e, lk, _⟩, _⟩, m, _⟩ := h
  obtain ⟨⟨⟨oc', od', dV', kV', doc', pm', an', cdv', ct', osl', e', lk', _⟩, _⟩, m', _⟩ := h'
  rw [m] at m'
  cases m'
  rw [lk] at lk'
  cases lk'
  exact ⟨rfl, rfl⟩
theorem ends {l : PySem.W.OpenLaw} {n : Nat} {q : Program} {loose : List Str} {XP : (Str → Option Value) → Heap → Prop} {d : DefRec} {x : Str} {fa : List He.Fa} {fn : List He.DefD} {gi : GI} {ds : List DefI} {g fl k j N : Nat} {i : DefI}
    (hn : l.most = some n) (hn2 : n ≤ sizeLine) (hdf : d.params.defaults = []) (hr : Room k callerA)
    (ht : ∀ (K : PySem.W.Frag) (h : Heap) (mg : Str → Option Value), K.In h → h.Ns mainGlobals mg → He.SaysD fa fn K → Text K mg gi ds g)
    (hl : ∀ i ∈ ds, ∀ p, gi.lams.find? (·.1 == i.d.qual) = some p → i.d.at_ = (p.1, none))
    (hj : ds[j]? = some i) (hd : i.d.name = d.name) (hps : i.ps = [x])
    (hb : ∀ (K : PySem.W.Frag) (f : Addr) (fd : FuncData), FunD K i.d.name i.d.qual i.d.params i.d.body i.d.scope [] [] f fd → ∀ (s : Shared) (u : Value), BindsTo s fd ⟨[u], []⟩ [(x, u)])
    (pure : ∀ (ns : List Int) (sc : D) (m : Store), ns.length ≤ n → (∀ z ∈ ns, Builtin.Int.intBits z ≤ 1048576) → Starts gi ns sc m → ∃ m', evC (tabI ds) fl k j [sc] m = .ok (.bl true) m') :
    PySem.W.WalkO q loose XP (He.hookX N fa fn [] (tfOf gi) (apart gi)).says l.row.toRowW d [] (fun f vs => PySem.call f vs) := by
  refine LamX.walk_ofTsE (n := n) (k := k) (x := x) (CX := fun w => L2.CX l.prog w) hn hn2 hdf hr (fun w mg f h Y G hm => ?_) fun w H s e s' z => ?_
  · obtain ⟨K, KX, c⟩ := Y
    have cd : He.SaysD fa fn K := congrArg Prod.fst (show He.obsT fa fn [] K = He.valT fn [] w from c.t)
    have T := ht K h mg KX G cd
    obtain ⟨f0, fd0, hs0⟩ := T.stands i (List.mem_of_getElem? hj)
    have hf : f0 = f := by
      have := hs0.2.1
      rw [hd, hm] at this
      cases this
      rfl
    refine ⟨K, KX, fd0, (tfOf gi).map (He.cT K), spC K (fun _ => 0) 1 (evC (tabI ds) fl k j), fun p hp => ?_, fun p hp => ?_, fun p hp => ?_, fun s u => ?_, fun H a ns hlen hbits hT hS => ?_, fun base KB GB hTB => ?_⟩
    · obtain ⟨p', hp', rfl⟩ := List.mem_map.mp hp
      exact c.empty p' hp'
    · obtain ⟨p', hp', rfl⟩ := List.mem_map.mp hp
      exact c.out p' hp'
    · obtain ⟨p', hp', rfl⟩ := List.mem_map.mp hp
      exact PySem.W.codeHd_of_K KX (c.hd p' hp')
    · exact hb K f0 fd0 hs0.1 s u
    · refine ⟨rfl, ?_⟩
      have hnd : ((tfOf gi).map fun p => (He.cT K p).2).Nodup := of_decide_eq_true c.more
      let rho := (tfOf gi).map fun p => (He.cT K p).2
      have R : Rel K rho (tabs0 gi) H := by
        refine ⟨by simp [rho, tabs0, tfOf], hnd, fun n o b e1 e2 => ?_⟩
        unfold tabs0 at e1
        rw [List.getElem?_map, Option.map_eq_some_iff] at e1
        obtain ⟨p, e3, rfl⟩ := e1
        have e4 : rho[n]? = some (He.cT K (p.1, none)).2 := by simp [rho, tfOf, e3]
        rw [e4] at e2
        cases e2
        exact ⟨rfl, .nil (hT _ (List.mem_map.mpr ⟨(p.1, none), List.mem_map.mpr ⟨p, List.mem_of_getElem? e3, rfl⟩, rfl⟩))⟩
      have fin : ∀ {rho' : List Addr} {sc : D} {m : Store}, Rel K rho' m H → RD K rho' H sc (.ref a) → Starts gi ns sc m → ∃ rho ds0 M, Rel K rho M H ∧ RDs K rho H ds0 [V.ref a] ∧ Post K (wE fun _ _ _ => False) (fun _ => 0) (RD K) [] rho H (evC (tabI ds) fl k j ds0 M) (fun v _ => v = .bl true) := fun {rho' sc m} R' r' st => by
        obtain ⟨m', e⟩ := pure ns sc m hlen hbits st
        refine ⟨rho', [sc], m, R', by rw [RDs]; exact ⟨_, _, rfl, r', by rw [RDs]⟩, ?_⟩
        rw [e]
        exact fun rho1 H1 b x1 R1 r1 => by rw [RD] at r1; exact r1
      rcases hS with (h1 | ⟨o, h1⟩) | h1
      · have hna : a ∉ rho := fun z => by
          obtain ⟨p, hp, rfl⟩ := List.mem_map.mp z
          rw [hT _ (List.mem_map.mpr ⟨p, hp, rfl⟩)] at h1
          cases h1
        have R2 := R.join hna h1 (ints_rd ns)
        refine fin R2 ?_ (.inr ⟨rfl, rfl⟩)
        rw [RD]
        exact ⟨a, by rw [← R.len]; simp, rfl⟩
      · refine fin R ?_ (.inl ⟨rfl, rfl⟩)
        rw [RD]
        exact ⟨a, _, rfl, .inl ⟨o, h1⟩, ints_rd ns⟩
      · refine fin R ?_ (.inl ⟨rfl, rfl⟩)
        rw [RD]
        exact ⟨a, _, rfl, .inr h1, ints_rd ns⟩
    · obtain ⟨f1, fd1, hs1, F1⟩ := all_ok (P := l.prog) (w := w) (base := base) (cl := fun _ => 0) (fl := fl) T (fun i' hi' p hp => ⟨hl i' hi' p hp, hTB _ (List.mem_map.mpr ⟨(p.1, none), List.mem_map.mpr ⟨p, List.mem_of_find?_eq_some hp, rfl⟩, rfl⟩)⟩) k j i hj
      obtain ⟨e1, e2⟩ := stands_one hs1 hs0
      rw [e1, e2, hf, hps] at F1
      exact F1
  · obtain ⟨_, _, _, _, _, _, _, _, _, _, _, _, z⟩ := z
    exact z
end DV

/-! DvFold: sorting places by what stands there, sorting pairs: the same. -/
namespace DV
open PySem PySem.Spec PyProof.Rows L2

abbrev hAt (hs : List D) (k : Nat) : D := hs.getD k .non
/-- the places of hs, in order, like ones by their places -/
def idx (hs : List D) : List Nat := (List.range hs.length).mergeSort fun a b => dle (hAt hs a) (hAt hs b)
abbrev pairD (hs : List D) (k : Nat) : D := .tup [hAt hs k, .int (k : Int)]
abbrev le1 (hs : List D) (a b : Nat) : Bool := dle (hAt hs a) (hAt hs b)
abbrev le2 (hs : List D) (a b : Nat) : Bool := dle (pairD hs a) (pairD hs b)
theorem le1_total (hs : List D) : PySem.W.TotalLe (le1 hs) := PySem.W.sortLe_total (PyProof.Rows.listOrd PyProof.Rows.itemOrd) false fun k => PySem.W.keyToks (D.toPy (hAt hs k))
theorem le2_total (hs : List D) : PySem.W.TotalLe (le2 hs) := PySem.W.sortLe_total (PyProof.Rows.listOrd PyProof.Rows.itemOrd) false fun k => PySem.W.keyToks (D.toPy (pairD hs k))
theorem dle_lt (a b : D) : dle a b = !PySem.W.dataLt (D.toPy b) (D.toPy a) := rfl
theorem toks_of {a b : D} (h1 : dle a b = true) (h2 : dle b a = true) : PySem.W.keyToks (D.toPy a) = PySem.W.keyToks (D.toPy b) := by
  rw [dle_lt, Bool.not_eq_true'] at h1 h2
  exact PyProof.Rows.lex_total _ _ h2 h1
theorem dle_of {a b : D} (h : PySem.W.keyToks (D.toPy a) = PySem.W.keyToks (D.toPy b)) : dle a b = true := by
  rw [dle_lt]
  unfold PySem.W.dataLt
  rw [h, PyProof.Rows.lex_irrefl]
  rfl
theorem pair_toks (a : D) (k : Int) : PySem.W.keyToks (D.toPy (.tup [a, .int k])) = .inl 1 :: (PySem.W.keyToks (D.toPy a) ++ [.inl 1, .inl k, .inl 0]) := by
  rw [D.toPy, D.toPys, D.toPys, D.toPys, D.toPy, PySem.W.keyToks, PySem.W.keyToksAll, PySem.W.keyToksAll, PySem.W.keyToksAll, PySem.W.keyToks]
  rfl
theorem rank2 {hs : List D} {a b : Nat} (h : PySem.W.sameRank (le2 hs) a b = true) : PySem.W.sameRank (le1 hs) a b = true := by
  unfold PySem.W.sameRank at h ⊢
  rw [Bool.and_eq_true] at h
  have e := toks_of h.1 h.2
  rw [pair_toks, pair_toks] at e
  have e2 := (List.append_inj' (List.cons.inj e).2 rfl).1
  rw [show le1 hs a b = true from dle_of e2, show le1 hs b a = true from dle_of e2.symm]
  rfl
theorem pw_ranks {α : Type} {p : α → α → Bool} {r : α → α → Prop} : ∀ {l : List α}, (∀ c, (l.filter (p c)).Pairwise r) → l.Pairwise fun i j => p i i = true → p i j = true → r i j
  | [], _ => .nil
  | a :: l, h => by
    refine List.pairwise_cons.mpr ⟨fun j hj p1 p2 => ?_, pw_ranks fun c => (h c).sublist ((List.sublist_cons_self a l).filter _)⟩
    have := h a
    rw [List.filter_cons_of_pos p1] at this
    exact (List.pairwise_cons.mp this).1 j (List.mem_filter.mpr ⟨hj, p2⟩)
theorem idx_perm (hs : List D) : (idx hs).Perm (List.range hs.length) := List.mergeSort_perm _ _
theorem mem_idx {hs : List D} {k : Nat} (h : k ∈ idx hs) : k < hs.length := List.mem_range.mp ((idx_perm hs).mem_iff.mp h)
theorem alike_at {hs : List D} (h : alikeAll hs = true) {a b : Nat} (ha : a < hs.length) (hb : b < hs.length) : PySem.W.alike (D.toPy (hAt hs a)) (D.toPy (hAt hs b)) = true := by
  unfold alikeAll at h
  have e : ∀ {k : Nat}, k < hs.length → hAt hs k ∈ hs := fun {k} hk => by
    unfold hAt
    rw [List.getD_eq_getElem?_getD, List.getElem?_eq_getElem hk]
    exact List.getElem_mem hk
  exact List.all_eq_true.mp (List.all_eq_true.mp h _ (e ha)) _ (e hb)
theorem idx_sorted {hs : List D} (hal : alikeAll hs = true) : (idx hs).Pairwise fun a b => le2 hs a b = true := by
  have s1 : (idx hs).Pairwise fun a b => le1 hs a b = true := PySem.W.sort_pairwise (le1_total hs) (List.range hs.length)
  have s2 : (idx hs).Pairwise fun i j => PySem.W.sameRank (le1 hs) i i = true → PySem.W.sameRank (le1 hs) i j = true → i < j := pw_ranks fun c => by
    have e : (idx hs).filter (PySem.W.sameRank (le1 hs) c) = (List.range hs.length).filter (PySem.W.sameRank (le1 hs) c) := PySem.W.sort_stable (le1_total hs) _ c
    rw [e]
    exact List.pairwise_lt_range.sublist List.filter_sublist
  have s3 : (idx hs).Pairwise fun a b => a < hs.length ∧ b < hs.length := List.pairwise_iff_forall_sublist.mpr fun {a b} h => ⟨mem_idx (h.subset List.mem_cons_self), mem_idx (h.subset (List.mem_cons_of_mem _ List.mem_cons_self))⟩
  refine ((s1.and s2).and s3).imp fun {a b} q => ?_
  obtain ⟨⟨q1, q2⟩, q3, q4⟩ := q
  show dle (pairD hs a) (pairD hs b) = true
  have q1 : dle (hAt hs a) (hAt hs b) = true := q1
  rw [dle_lt] at q1 ⊢
  rw [Bool.not_eq_true'] at q1 ⊢
  have al := alike_at hal q4 q3
  show PySem.W.dataLt (D.toPy (.tup [hAt hs b, .int b])) (D.toPy (.tup [hAt hs a, .int a])) = false
  rw [D.toPy, D.toPys, D.toPys, D.toPys, D.toPy, D.toPy, D.toPys, D.toPys, D.toPys, D.toPy, PySem.W.dataLt_pair al (by simp [PySem.W.alike])]
  split
  · rename_i ev
    have et := (PySem.W.toks_eqv _ _ al).1 ev
    have rk : PySem.W.sameRank (le1 hs) a b = true := by
      unfold PySem.W.sameRank
      rw [show le1 hs a b = true from dle_of et.symm, show le1 hs b a = true from dle_of et]
      rfl
    have lt := q2 (by unfold PySem.W.sameRank; rw [show le1 hs a a = true from dle_of rfl]; rfl) rk
    split
    · rfl
    · rw [PySem.W.dataLt_int]
      exact decide_eq_false (by omega)
  · exact q1
theorem idx_le2 {hs : List D} (hal : alikeAll hs = true) : idx hs = (List.range hs.length).mergeSort (le2 hs) := by
  refine PySem.W.sort_unique (le2_total hs) (idx_sorted hal) fun c => ?_
  have e : (idx hs).filter (PySem.W.sameRank (le1 hs) c) = (List.range hs.length).filter (PySem.W.sameRank (le1 hs) c) := PySem.W.sort_stable (le1_total hs) _ c
  have k : ∀ l : List Nat, l.filter (PySem.W.sameRank (le2 hs) c) = (l.filter (PySem.W.sameRank (le1 hs) c)).filter (PySem.W.sameRank (le2 hs) c) := fun l => by
    rw [List.filter_filter]
    refine List.filter_congr fun x _ => ?_
    cases q : PySem.W.sameRank (le2 hs) c x with
    | false => rfl
    | true => rw [rank2 q]; rfl
  rw [k (idx hs), e, ← k]
/-- sorted([(hs[k], k) ..]) -/
theorem sort_pairs {hs : List D} (hal : alikeAll hs = true) : sortD ((List.range hs.length).map (pairD hs)) = (idx hs).map (pairD hs) := by
  rw [idx_le2 hal]
  unfold sortD
  exact (List.map_mergeSort (r := le2 hs) (s := dle) (f := pairD hs) fun a _ b _ => rfl).symm
end DV

/-! DvLaw: what the laws' own small defs come to. -/
namespace DV
open PySem

/-! ### cutting -/
theorem oldOk_app (m t : Store) : oldOk m (m ++ t) = true := by
  unfold oldOk
  rw [List.all_eq_true]
  intro i hi
  rw [List.mem_range] at hi
  rw [Bool.or_eq_true]
  left
  rw [decide_eq_true_eq, List.getElem?_append_left hi]
theorem cutS_le {env0 env : Env} {m0 m : Store} (h : m.length ≤ m0.length) : cutS env0 m0 env m = m := if_pos h
theorem cutC_le {d : D} {m0 m : Store} (h : m.length ≤ m0.length) : cutC m0 d m = (d, m) := if_pos h
theorem cutE_le {d : D} {m0 m : Store} (h : m.length ≤ m0.length) : cutE m0 d m = m := if_pos h
theorem cutS_refl {env0 env : Env} {m : Store} : cutS env0 m env m = m := if_pos (Nat.le_refl _)
theorem cutC_refl {d : D} {m : Store} : cutC m d m = (d, m) := if_pos (Nat.le_refl _)
theorem cutE_refl {d : D} {m : Store} : cutE m d m = m := if_pos (Nat.le_refl _)
theorem cutS_app {env0 env : Env} {m t : Store} (h : envOk m.length env0 env = true) : cutS env0 m env (m ++ t) = m := by
  unfold cutS
  split
  · rename_i z
    rw [List.length_append] at z
    have : t = [] := List.eq_nil_of_length_eq_zero (by omega)
    rw [this, List.append_nil]
  · rw [oldOk_app, h]
    simp
theorem cutC_app {d : D} {m t : Store} (h : D.bnd m.length d = true) : cutC m d (m ++ t) = (d, m) := by
  unfold cutC
  split
  · rename_i z
    rw [List.length_append] at z
    have : t = [] := List.eq_nil_of_length_eq_zero (by omega)
    rw [this, List.append_nil]
  · rw [oldOk_app]
    simp [h]
/-- a new list is handed back -/
theorem cutC_new {m t : Store} {o : MO} {n : Nat} (hn : m.length ≤ n) (e : (m ++ t)[n]? = some o) (ho : o.bnd m.length = true) : cutC m (.ref n) (m ++ t) = (.ref m.length, m ++ [o]) := by
  have hl : n < (m ++ t).length := (List.getElem?_eq_some_iff.mp e).1
  unfold cutC
  rw [if_neg (by omega), oldOk_app, if_pos rfl, if_neg (by rw [D.bnd, decide_eq_true_eq]; omega)]
  simp only [e, ho, if_true]
  rw [List.take_left']
  rfl
theorem cutE_app {d : D} {m t : Store} (h : D.bnd m.length d = true) : cutE m d (m ++ t) = m := by
  unfold cutE
  split
  · rename_i z
    rw [List.length_append] at z
    have : t = [] := List.eq_nil_of_length_eq_zero (by omega)
    rw [this, List.append_nil]
  · rw [oldOk_app, h]
    simp

/-! ### steps -/
section
variable {α β : Type} {m : Store} {env : Env} {a : α}
theorem thn_ok (f : α → Store → SRes) : (Res.ok a m).thn env f = f a m := rfl
theorem thn_bad (f : α → Store → SRes) : (Res.bad : Res α).thn env f = .bad := rfl
theorem thn_exc {c : Str} (f : α → Store → SRes) : (Res.exc c m : Res α).thn env f = .exc c env m := rfl
theorem sthn_nx (f : Env → Store → SRes) : (SRes.nx env m).thn f = f env m := rfl
theorem sthn_rt {d : D} (f : Env → Store → SRes) : (SRes.rt d m).thn f = .rt d m := rfl
theorem sthn_bk (f : Env → Store → SRes) : (SRes.bk env m).thn f = .bk env m := rfl
theorem sthn_ct (f : Env → Store → SRes) : (SRes.ct env m).thn f = .ct env m := rfl
theorem scut_nx {e0 : Env} {m0 : Store} : (SRes.nx env m).cut e0 m0 = .nx env (cutS e0 m0 env m) := rfl
theorem scut_rt {d : D} {e0 : Env} {m0 : Store} : (SRes.rt d m).cut e0 m0 = .rt d m := rfl
theorem scut_exc {c : Str} {e0 : Env} {m0 : Store} : (SRes.exc c env m).cut e0 m0 = .exc c env m := rfl
theorem b_add (i j : Int) : binOp .add (.int i) (.int j) m = .ok (.int (i + j)) m := rfl
theorem b_sub (i j : Int) : binOp .sub (.int i) (.int j) m = .ok (.int (i - j)) m := rfl
theorem b_mulL {i j : Int} (h : -(2 ^ 64) < i ∧ i < 2 ^ 64) : binOp .mul (.int i) (.int j) m = .ok (.int (i * j)) m := if_pos (.inl h)
theorem b_mulR {i j : Int} (h : -(2 ^ 64) < j ∧ j < 2 ^ 64) : binOp .mul (.int i) (.int j) m = .ok (.int (i * j)) m := if_pos (.inr h)
theorem b_fdiv {i j : Int} (h : 0 < j ∧ j < 1073741824) : binOp .fdiv (.int i) (.int j) m = .ok (.int (i / j)) m := if_pos h
theorem b_mod {i j : Int} (h : 0 < j) : binOp .mod (.int i) (.int j) m = .ok (.int (i % j)) m := if_pos h
theorem b_pow {i j : Int} (h : 0 ≤ j ∧ j ≤ 1000000 ∧ i.natAbs < 2 ^ 64) : binOp .pow (.int i) (.int j) m = .ok (.int (i ^ j.toNat)) m := if_pos h
theorem c_lt (i j : Int) : cmpOp .lt (.int i) (.int j) m = .ok (.bl (decide (i < j))) m := rfl
theorem c_le (i j : Int) : cmpOp .le (.int i) (.int j) m = .ok (.bl (decide (i ≤ j))) m := rfl
theorem c_gt (i j : Int) : cmpOp .gt (.int i) (.int j) m = .ok (.bl (decide (j < i))) m := rfl
theorem c_ge (i j : Int) : cmpOp .ge (.int i) (.int j) m = .ok (.bl (decide (j ≤ i))) m := rfl
theorem c_eqI (i j : Int) : cmpOp .eq (.int i) (.int j) m = .ok (.bl (decide (i = j))) m := rfl
theorem c_eqS (i j : Str) : cmpOp .eq (.str i) (.str j) m = .ok (.bl (decide (i = j))) m := rfl
theorem c_neI (i j : Int) : cmpOp .ne (.int i) (.int j) m = .ok (.bl (!decide (i = j))) m := rfl
theorem c_neS (i j : Str) : cmpOp .ne (.str i) (.str j) m = .ok (.bl (!decide (i = j))) m := rfl
theorem l_tup (xs : List D) : bltOp .len [.tup xs] m = .ok (.int xs.length) m := rfl
theorem l_ref {n : Nat} {xs : List D} (h : m[n]? = some (.lst xs)) : bltOp .len [.ref n] m = .ok (.int xs.length) m := by simp only [bltOp, h]
theorem i_tup {xs : List D} {k : Nat} {d : D} (h : xs[k]? = some d) : idxOp (.tup xs) (.int (k : Int)) m = .ok d m := by
  have hl : k < xs.length := (List.getElem?_eq_some_iff.mp h).1
  have : L2.ixN xs.length (k : Int) = some k := by
    unfold L2.ixN
    rw [if_pos (by omega), if_pos (by omega)]
    rfl
  simp only [idxOp, this, h]
theorem i_ref {n k : Nat} {xs : List D} {d : D} (hn : m[n]? = some (.lst xs)) (h : xs[k]? = some d) : idxOp (.ref n) (.int (k : Int)) m = .ok d m := by
  have hl : k < xs.length := (List.getElem?_eq_some_iff.mp h).1
  have : L2.ixN xs.length (k : Int) = some k := by
    unfold L2.ixN
    rw [if_pos (by omega), if_pos (by omega)]
    rfl
  simp only [idxOp, hn, this, h]
end

/-! ### the script -/
def Scr (sc : D) (m : Store) (ns : List Int) : Prop := sc = .rol (intsD ns) ∨ ∃ n, sc = .ref n ∧ m[n]? = some (.lst (intsD ns))
theorem Scr.len {sc : D} {m : Store} {ns : List Int} (h : Scr sc m ns) : bltOp .len [sc] m = .ok (.int ns.length) m := by
  rcases h with rfl | ⟨n, rfl, e⟩
  · simp [bltOp, intsD]
  · simp [bltOp, e, intsD]
theorem Scr.app {sc : D} {m : Store} {ns : List Int} (h : Scr sc m ns) (t : Store) : Scr sc (m ++ t) ns := by
  rcases h with rfl | ⟨n, rfl, e⟩
  · exact .inl rfl
  · exact .inr ⟨n, rfl, by rw [List.getElem?_append_left (List.getElem?_eq_some_iff.mp e).1]; exact e⟩
theorem ixN_nat {n k : Nat} (h : k < n) : L2.ixN n (k : Int) = some k := by
  unfold L2.ixN
  rw [if_pos (by omega), if_pos (by omega)]
  rfl
theorem Scr.idx {sc : D} {m : Store} {ns : List Int} (h : Scr sc m ns) {k : Nat} (hk : k < ns.length) : idxOp sc (.int k) m = .ok (.int (ns.getD k 0)) m := by
  have e : (intsD ns)[k]? = some (.int (ns.getD k 0)) := by
    rw [List.getElem?_map, List.getElem?_eq_getElem hk]
    simp [List.getD_eq_getElem?_getD, List.getElem?_eq_getElem hk]
  have hl : (intsD ns).length = ns.length := by simp [intsD]
  rcases h with rfl | ⟨n, rfl, e2⟩
  · simp only [idxOp]
    rw [hl, ixN_nat hk]
    simp only [e]
  · simp only [idxOp, e2]
    rw [hl, ixN_nat hk]
    simp only [e]
/-- the cell at k, or nought -/
def cellAt (ns : List Int) (k : Nat) : Int := if k < ns.length then ns.getD k 0 else 0
def cCell : List IS := [.iff (.cmp .lt (.var 1) (.blt .len [(.var 0)])) [.ret (.idx (.var 0) (.var 1))] [], .ret (.lit (.int 0))]
theorem run_cell {cal : Callee} {fl : Nat} {sc : D} {m : Store} {ns : List Int} (h : Scr sc m ns) (k : Nat) : runD cal fl ⟨2, 2, cCell⟩ [sc, .int k] m = .ok (.int (cellAt ns k)) m := by
  unfold cellAt
  by_cases hk : k < ns.length
  · have : decide ((k : Int) < (ns.length : Int)) = true := decide_eq_true (by omega)
    simp [cCell, runD, evSs, evS, evE, evEs, evT, Res.bind_ok, thn_ok, sthn_nx, sthn_rt, scut_nx, scut_rt, cutC_refl, cutS_refl, h.len, c_lt, this, h.idx hk, hk]
  · have : decide ((k : Int) < (ns.length : Int)) = false := decide_eq_false (by omega)
    simp [cCell, runD, evSs, evS, evE, evEs, evT, Res.bind_ok, thn_ok, sthn_nx, sthn_rt, scut_nx, scut_rt, cutC_refl, cutS_refl, h.len, c_lt, this, hk]

/-! ### numbers mixed of a cell -/
abbrev bigP : Int := 2305843009213693951
def mixA (cell k : Int) : Int := (cell % bigP + 31 * k + 7) * 48271 % bigP
def mixB (cell k : Int) : Int := mixA cell k * mixA cell k % bigP * 69621 % bigP
def mixedI (cell k : Int) : Int := mixB cell k / 7
def cMixed : List IS := [.asg (.nm 2) (.lit (.int 2305843009213693951)), .asg (.nm 3) (.bin .mod (.bin .mul (.bin .add (.bin .add (.bin .mod (.var 0) (.var 2)) (.bin .mul (.lit (.int 31)) (.var 1))) (.lit (.int 7))) (.lit (.int 48271))) (.var 2)), .asg (.nm 3) (.bin .mod (.bin .mul (.bin .mod (.bin .mul (.var 3) (.var 3)) (.var 2)) (.lit (.int 69621))) (.var 2)), .ret (.bin .fdiv (.var 3) (.lit (.int 7)))]
theorem mixA_b (c k : Int) : 0 ≤ mixA c k ∧ mixA c k < bigP := ⟨Int.emod_nonneg _ (by decide), Int.emod_lt_of_pos _ (by decide)⟩
theorem mixB_b (c k : Int) : 0 ≤ mixB c k ∧ mixB c k < bigP := ⟨Int.emod_nonneg _ (by decide), Int.emod_lt_of_pos _ (by decide)⟩
theorem mixedI_b (c k : Int) : 0 ≤ mixedI c k ∧ mixedI c k < 2 ^ 61 := by
  obtain ⟨h1, h2⟩ := mixB_b c k
  unfold mixedI
  constructor
  · omega
  · have : bigP ≤ 2 ^ 61 := by decide
    omega
theorem run_mixed {cal : Callee} {fl : Nat} {m : Store} (cell k : Int) : runD cal fl ⟨2, 4, cMixed⟩ [.int cell, .int k] m = .ok (.int (mixedI cell k)) m := by
  have h : (-(2 ^ 64) < mixA cell k ∧ mixA cell k < 2 ^ 64) := by
    have := mixA_b cell k
    have : bigP ≤ 2 ^ 64 := by decide
    omega
  have e1 : ((cell % 2305843009213693951 + 31 * k + 7) * 48271 % 2305843009213693951) = mixA cell k := rfl
  have e2 : mixA cell k * mixA cell k % 2305843009213693951 * 69621 % 2305843009213693951 = mixB cell k := rfl
  simp [cMixed, runD, evSs, evS, evE, evEs, evT, Res.bind_ok, thn_ok, sthn_nx, sthn_rt, scut_nx, scut_rt, cutC_refl, cutS_refl, bind, b_add, b_mod, b_fdiv, b_mulL h, b_mulL (show -(2 ^ 64) < (31 : Int) ∧ (31 : Int) < 2 ^ 64 by decide), b_mulR (show -(2 ^ 64) < (48271 : Int) ∧ (48271 : Int) < 2 ^ 64 by decide), b_mulR (show -(2 ^ 64) < (69621 : Int) ∧ (69621 : Int) < 2 ^ 64 by decide), e1, e2, mixedI]
/-- a cell's own digits, or numbers mixed of it -/
def srcI (cell k : Int) : Int := if cell ≥ 10 ^ 18 then cell else mixedI cell k + mixedI cell (k + 100) * 10 ^ 17 + mixedI cell (k + 200) * 10 ^ 34
def cSource (a b : Nat) : List IS := [.asg (.nm 2) (.call a [(.var 0), (.var 1)]), .iff (.cmp .ge (.var 2) (.bin .pow (.lit (.int 10)) (.lit (.int 18)))) [.ret (.lst [(.var 2)])] [], .ret (.lst [(.bin .add (.bin .add (.call b [(.var 2), (.var 1)]) (.bin .mul (.call b [(.var 2), (.bin .add (.var 1) (.lit (.int 100)))]) (.bin .pow (.lit (.int 10)) (.lit (.int 17))))) (.bin .mul (.call b [(.var 2), (.bin .add (.var 1) (.lit (.int 200)))]) (.bin .pow (.lit (.int 10)) (.lit (.int 34)))))])]
theorem run_source {cal : Callee} {fl a b : Nat} {sc : D} {m : Store} {ns : List Int} (k : Nat) (ha : cal a [sc, .int k] m = .ok (.int (cellAt ns k)) m) (hb : ∀ c i, cal b [.int c, .int i] m = .ok (.int (mixedI c i)) m) :
    runD cal fl ⟨2, 3, cSource a b⟩ [sc, .int k] m = .ok (.ref m.length) (m ++ [.lst [.int (srcI (cellAt ns k) k)]]) := by
  have hc : ∀ z : Int, cutC m (.ref m.length) (m ++ [.lst [.int z]]) = (.ref m.length, m ++ [.lst [.int z]]) := fun z => cutC_new (Nat.le_refl _) (by simp) (by simp [MO.bnd, D.bndAll, D.bnd])
  unfold srcI
  by_cases h : cellAt ns k ≥ 10 ^ 18
  · have h1 : decide ((1000000000000000000 : Int) ≤ cellAt ns k) = true := decide_eq_true h
    simp [cSource, runD, evSs, evS, evE, evEs, evT, Res.bind_ok, thn_ok, sthn_nx, sthn_rt, scut_nx, scut_rt, cutC_refl, cutS_refl, bind, b_pow, ha, c_ge, h1, hc, h]
    intro z
    omega
  · have h1 : decide ((1000000000000000000 : Int) ≤ cellAt ns k) = false := decide_eq_false h
    have h2 : ∀ c i : Int, -(18446744073709551616) < mixedI c i ∧ mixedI c i < 18446744073709551616 := fun c i => by
      have := mixedI_b c i
      omega
    simp [cSource, runD, evSs, evS, evE, evEs, evT, Res.bind_ok, thn_ok, sthn_nx, sthn_rt, scut_nx, scut_rt, cutC_refl, cutS_refl, bind, b_pow, b_add, ha, hb, c_ge, h1, hc, h, b_mulL (h2 _ _)]
    intro z
    omega
/-! ### digits -/
def cNext : List IS := [.asg (.nm 2) (.bin .mod (.idx (.var 0) (.lit (.int 0))) (.var 1)), .asgSub (.var 0) (.lit (.int 0)) (.bin .fdiv (.idx (.var 0) (.lit (.int 0))) (.var 1)), .ret (.var 2)]
theorem run_next {cal : Callee} {fl n : Nat} {m : Store} {x b : Int} (h : m[n]? = some (.lst [.int x])) (hb : 0 < b ∧ b < 1073741824) : runD cal fl ⟨2, 3, cNext⟩ [.ref n, .int b] m = .ok (.int (x % b)) (m.set n (.lst [.int (x / b)])) := by
  have e : L2.ixN 1 (0 : Int) = some 0 := by decide
  have hc : ∀ d : D, cutC m d (m.set n (.lst [.int (x / b)])) = (d, m.set n (.lst [.int (x / b)])) := fun d => cutC_le (by rw [List.length_set]; exact Nat.le_refl _)
  have hs : ∀ env0 env : Env, cutS env0 m env (m.set n (.lst [.int (x / b)])) = m.set n (.lst [.int (x / b)]) := fun _ _ => cutS_le (by rw [List.length_set]; exact Nat.le_refl _)
  simp [cNext, runD, evSs, evS, evE, evEs, evT, Res.bind_ok, thn_ok, sthn_nx, sthn_rt, scut_nx, scut_rt, cutC_refl, cutS_refl, bind, b_mod hb.1, b_fdiv hb, idxOp, h, e, setOp, hc, hs]
end DV

/-! DvLaw2: comprehensions' turns; data told to be the same. -/
namespace DV
open PySem

theorem compGo_map {bnd : D → Option Env} {tests : Env → Store → Res Bool} {elt : Env → Store → Res D} {w : Option (Nat × MO)} {m : Store} (f : D → D) (kw : kept w m = true) : ∀ (xs acc : List D),
    (∀ d ∈ xs, ∃ env, bnd d = some env ∧ tests env m = .ok true m ∧ elt env m = .ok (f d) m) → acc.length + xs.length ≤ line → compGo bnd tests elt w xs acc m = .ok (acc ++ xs.map f) m
  | [], acc, _, _ => by rw [compGo]; simp
  | x :: xs, acc, h, hl => by
    obtain ⟨env, e1, e2, e3⟩ := h x List.mem_cons_self
    have ih := compGo_map f kw xs (acc ++ [f x]) (fun d hd => h d (List.mem_cons_of_mem _ hd)) (by rw [List.length_append, List.length_cons] at *; simp at *; omega)
    have hlt : acc.length < line := by rw [List.length_cons] at hl; omega
    rw [compGo]
    simp only [e1, e2, e3, cutE_refl, kw, hlt, decide_true, Bool.and_true, if_true]
    rw [ih]
    simp
/-- an element's turn changes the store -/
theorem compGo_inv {bnd : D → Option Env} {tests : Env → Store → Res Bool} {elt : Env → Store → Res D} {w : Option (Nat × MO)} (P : Nat → List D → Store → Prop) (N : Nat) : ∀ (xs : List D) (i : Nat) (acc : List D) (m : Store), P i acc m → i + xs.length = N →
    (∀ (j : Nat) (d : D) (acc : List D) (m : Store), d ∈ xs → j < N → P j acc m → acc.length < line ∧ ∃ env x m', bnd d = some env ∧ tests env m = .ok true m ∧ elt env m = .ok x m' ∧ m'.length ≤ m.length ∧ kept w m' = true ∧ P (j + 1) (acc ++ [x]) m') →
    ∃ acc' m', compGo bnd tests elt w xs acc m = .ok acc' m' ∧ P N acc' m'
  | [], i, acc, m, p, hn, _ => by
    rw [List.length_nil, Nat.add_zero] at hn
    subst hn
    exact ⟨acc, m, by rw [compGo], p⟩
  | x :: xs, i, acc, m, p, hn, h => by
    rw [List.length_cons] at hn
    obtain ⟨hl, env, y, m', e1, e2, e3, e4, e5, e6⟩ := h i x acc m List.mem_cons_self (by omega) p
    obtain ⟨acc', m2, e7, e8⟩ := compGo_inv P N xs (i + 1) (acc ++ [y]) m' e6 (by omega) fun j d acc m hd => h j d acc m (List.mem_cons_of_mem _ hd)
    refine ⟨acc', m2, ?_, e8⟩
    rw [compGo]
    simp only [e1, e2, e3, cutE_le e4, e5, hl, decide_true, Bool.and_true, if_true]
    exact e7

theorem hkS0 {k : SrcK} {ds : List D} {m : Store} {xs : List D} {w : Option (Nat × MO)} (h : srcItems k ds m = some (xs, w)) : kept w m = true := hkS k ds m (xs, w) h

/-! ### told to be the same -/
/-- texts, whole numbers, tuples of them, so deep at most -/
def plainD : Nat → D → Bool
  | _, .int _ => true
  | _, .str _ => true
  | 0, _ => false
  | k + 1, .tup xs => xs.all (plainD k) && decide (xs.length ≤ 1000)
  | _, _ => false
theorem plainD_up : ∀ {k j : Nat} {d : D}, plainD k d = true → k ≤ j → plainD j d = true
  | k, j, .int _, _, _ => by simp [plainD]
  | k, j, .str _, _, _ => by simp [plainD]
  | 0, j, .tup xs, h, _ => by simp [plainD] at h
  | k + 1, 0, .tup xs, h, hl => by omega
  | k + 1, j + 1, .tup xs, h, hl => by
    simp only [plainD, Bool.and_eq_true, List.all_eq_true] at h ⊢
    exact ⟨fun x hx => plainD_up (h.1 x hx) (by omega), h.2⟩
  | 0, j, .non, h, _ => by simp [plainD] at h
  | k + 1, j, .non, h, _ => by simp [plainD] at h
  | 0, j, .bl _, h, _ => by simp [plainD] at h
  | k + 1, j, .bl _, h, _ => by simp [plainD] at h
  | 0, j, .rol _, h, _ => by simp [plainD] at h
  | k + 1, j, .rol _, h, _ => by simp [plainD] at h
  | 0, j, .ref _, h, _ => by simp [plainD] at h
  | k + 1, j, .ref _, h, _ => by simp [plainD] at h
def cmpSame (f : Nat) : IE := .comp (.call f [(.idx (.var 0) (.var 2)), (.idx (.var 1) (.var 2))]) (.nm 2) [2] .rng1 [(.blt .len [(.var 1)])] []
def cSame (f : Nat) : List IS := [.iff (.isi (.var 1) .tuple) [.iff (.or [(.nott (.isi (.var 0) .tuple)), (.cmp .ne (.blt .len [(.var 0)]) (.blt .len [(.var 1)]))]) [.ret (.lit (.bl false))] [], .ret (.blt .all [cmpSame f])] [], .iff (.isi (.var 1) .str) [.ret (.and [(.isi (.var 0) .str), (.cmp .eq (.var 0) (.var 1))])] [], .ret (.and [(.isi (.var 0) .int), (.nott (.isi (.var 0) .bool)), (.cmp .eq (.var 0) (.var 1))])]
theorem boolsOf_true : ∀ n : Nat, boolsOf (List.replicate n (.bl true)) = some (List.replicate n true)
  | 0 => rfl
  | n + 1 => by rw [List.replicate_succ, boolsOf, boolsOf_true n]; rfl
theorem evC_at {tab : Tab} {fl n f : Nat} {d : FD} (h : tab[f]? = some d) (args : List D) (m : Store) : evC tab fl (n + 1) f args m = runD (evC tab fl n) fl d args m := by
  show (match tab[f]? with
    | some d => runD (evC tab fl n) fl d args m
    | none => .bad) = _
  rw [h]

theorem line_eq0 : line = 16777216 := rfl
abbrev rngD (n : Nat) : List D := (List.range n).map fun (j : Nat) => D.int j
theorem src_rng {n : Nat} {m : Store} (h : n ≤ 1000000) : srcItems .rng1 [.int (n : Int)] m = some (rngD n, none) := by
  have h1 : ((n : Int) < 2 ^ 62 ∧ -(2 ^ 62) ≤ (n : Int)) := ⟨by omega, by omega⟩
  simp only [srcItems]
  rw [if_pos h1, Int.toNat_natCast]
/-- a comprehension that leaves the store as it is -/
theorem ev_comp {cal : Callee} {elt : IE} {tg : Tg} {own : List Nat} {k : SrcK} {srcs : List IE} {env : Env} {m : Store} {ds xs : List D} {w : Option (Nat × MO)} (f : D → D) (h1 : evEs cal srcs env m = .ok ds m) (h2 : srcItems k ds m = some (xs, w)) (hl : xs.length ≤ 1000000)
    (h : ∀ d ∈ xs, ∃ e, bind (wipe env own) tg d = some e ∧ evE cal elt e m = .ok (f d) m) : evE cal (.comp elt tg own k srcs []) env m = .ok (.ref m.length) (m ++ [.lst (xs.map f)]) := by
  have hl2 : ([] : List D).length + xs.length ≤ line := by rw [List.length_nil, line_eq0]; omega
  have := compGo_map (bnd := fun d => bind (wipe env own) tg d) (tests := fun e m => evTests cal [] e m) (elt := fun e m => evE cal elt e m) (w := w) (m := m) f (hkS0 h2) xs [] (fun d hd => by
    obtain ⟨e, e1, e2⟩ := h d hd
    exact ⟨e, e1, by simp only [evTests], e2⟩) hl2
  simp only [evE, h1, Res.bind_ok, h2]
  rw [this]
  simp only [Res.bind_ok, List.nil_append]
theorem all_true {m : Store} {n : Nat} : bltOp .all [.ref m.length] (m ++ [.lst (List.replicate n (.bl true))]) = .ok (.bl true) (m ++ [.lst (List.replicate n (.bl true))]) := by
  have e : (m ++ [MO.lst (List.replicate n (.bl true))])[m.length]? = some (.lst (List.replicate n (.bl true))) := by rw [List.getElem?_append_right (Nat.le_refl _), Nat.sub_self]; rfl
  simp only [bltOp, e, boolsOf_true]
  simp
theorem run_same {tab : Tab} {fl f : Nat} (ht : tab[f]? = some ⟨2, 3, cSame f⟩) : ∀ (k : Nat) (d : D) (m : Store), plainD k d = true → evC tab fl (k + 1) f [d, d] m = .ok (.bl true) m := by
  have atom : ∀ (cal : Callee) (d : D) (m : Store), (∃ i, d = .int i) ∨ (∃ s, d = .str s) → runD cal fl ⟨2, 3, cSame f⟩ [d, d] m = .ok (.bl true) m := fun cal d m h => by
    rcases h with ⟨i, rfl⟩ | ⟨s, rfl⟩
    · simp -implicitDefEqProofs [cSame, runD, evSs, evS, evE, evEs, evT, evAnd, evOr, Res.bind_ok, thn_ok, sthn_nx, sthn_rt, scut_nx, scut_rt, cutC_refl, cutS_refl, isTy, isiOk, c_eqI]
    · simp -implicitDefEqProofs [cSame, runD, evSs, evS, evE, evEs, evT, evAnd, evOr, Res.bind_ok, thn_ok, sthn_nx, sthn_rt, scut_nx, scut_rt, cutC_refl, cutS_refl, isTy, isiOk, c_eqS]
  intro k
  induction k with
  | zero =>
    intro d m h
    rw [evC_at ht]
    cases d with
    | int i => exact atom _ _ _ (.inl ⟨i, rfl⟩)
    | str i => exact atom _ _ _ (.inr ⟨i, rfl⟩)
    | _ => simp [plainD] at h
  | succ k ih =>
    intro d m h
    rw [evC_at ht]
    cases d with
    | int i => exact atom _ _ _ (.inl ⟨i, rfl⟩)
    | str i => exact atom _ _ _ (.inr ⟨i, rfl⟩)
    | tup xs =>
      simp only [plainD, Bool.and_eq_true, List.all_eq_true, decide_eq_true_eq] at h
      obtain ⟨h1, h2⟩ := h
      have e0 : evE (evC tab fl (k + 1)) (cmpSame f) [some (.tup xs), some (.tup xs), none] m = .ok (.ref m.length) (m ++ [.lst (List.replicate xs.length (.bl true))]) := by
        have := ev_comp (cal := evC tab fl (k + 1)) (elt := .call f [(.idx (.var 0) (.var 2)), (.idx (.var 1) (.var 2))]) (tg := .nm 2) (own := [2]) (env := [some (.tup xs), some (.tup xs), none]) (m := m) (srcs := [(.blt .len [(.var 1)])]) (fun _ => .bl true)
          (by simp [evEs, evE, Res.bind_ok, l_tup]) (src_rng (n := xs.length) (by omega)) (by simp; omega) (fun d hd => by
            obtain ⟨j, hj, rfl⟩ := List.mem_map.mp hd
            rw [List.mem_range] at hj
            have hx : xs[j]? = some xs[j] := List.getElem?_eq_getElem hj
            refine ⟨[some (.tup xs), some (.tup xs), some (.int j)], by simp [bind, wipe], ?_⟩
            simp [evE, evEs, Res.bind_ok, i_tup hx, ih xs[j] m (h1 _ (List.getElem_mem hj))])
        have e : (rngD xs.length).map (fun _ => D.bl true) = List.replicate xs.length (.bl true) := by
          rw [List.map_map]
          exact List.eq_replicate_iff.mpr ⟨by simp, fun b hb => by simp at hb; exact hb.2.symm⟩
        rw [e] at this
        exact this
      have hcut : cutC m (.bl true) (m ++ [MO.lst (List.replicate xs.length (.bl true))]) = (.bl true, m) := cutC_app (by simp [D.bnd])
      simp -implicitDefEqProofs [cSame, runD, evSs, evS, evE, evEs, evT, evOr, Res.bind_ok, thn_ok, sthn_nx, sthn_rt, scut_nx, scut_rt, cutS_refl, isTy, isiOk, c_neI, l_tup, e0, all_true, hcut]
    | _ => simp [plainD] at h
end DV

/-! DvLaw3: worlds folded. -/
namespace DV
open PySem

theorem plain_bnd : ∀ (k : Nat) (d : D) (n : Nat), plainD k d = true → D.bnd n d = true
  | k, .int _, n, _ => by simp [D.bnd]
  | k, .str _, n, _ => by simp [D.bnd]
  | 0, .tup xs, n, h => by simp [plainD] at h
  | k + 1, .tup xs, n, h => by
    simp only [plainD, Bool.and_eq_true, List.all_eq_true] at h
    rw [D.bnd]
    have : ∀ ys : List D, (∀ y ∈ ys, plainD k y = true) → D.bndAll n ys = true := fun ys => by
      induction ys with
      | nil => intro _; simp [D.bndAll]
      | cons y ys ih => intro hy; rw [D.bndAll, plain_bnd k y n (hy y List.mem_cons_self), ih fun z hz => hy z (List.mem_cons_of_mem _ hz)]; rfl
    exact this xs h.1
  | 0, .non, n, _ => by simp [D.bnd]
  | k + 1, .non, n, _ => by simp [D.bnd]
  | 0, .bl _, n, _ => by simp [D.bnd]
  | k + 1, .bl _, n, _ => by simp [D.bnd]
  | 0, .rol _, n, h => by simp [plainD] at h
  | k + 1, .rol _, n, h => by simp [plainD] at h
  | 0, .ref _, n, h => by simp [plainD] at h
  | k + 1, .ref _, n, h => by simp [plainD] at h

theorem envOk_no {k : Nat} {env0 env : Env} {d : D} (i : Nat) (h : env[i]? = some (some d)) (hn : env0[i]? ≠ some (some d)) (hb : D.bnd k d = false) : envOk k env0 env = false := by
  unfold envOk
  rw [List.all_eq_false]
  refine ⟨i, List.mem_range.mpr (List.getElem?_eq_some_iff.mp h).1, ?_⟩
  rw [h]
  simp only [hb, Bool.or_false, decide_eq_true_eq]
  exact fun z => hn z.symm
theorem cutS_keep {env0 env : Env} {m t : Store} (h : envOk m.length env0 env = false) : cutS env0 m env (m ++ t) = m ++ t := by
  unfold cutS
  rw [h, Bool.and_false]
  simp
theorem bnd_new (m : Store) : D.bnd m.length (.ref m.length) = false := by simp [D.bnd]

/-- the hands in order, the roads as they were; the places -/
def fHands (hs : List D) : List D := (idx hs).map (hAt hs)
def fRow (hs : List D) : List D := (idx hs).map fun (k : Nat) => D.int k
def foldD (hs : List D) (ld : D) : D := .tup [.tup [.tup (fHands hs), ld], .tup (fRow hs)]
def cmpF : IE := .comp (.idx (.var 2) (.var 4)) (.nm 4) [4] .val [(.var 1)] []
def cFolded (t : Nat) (q : Str) : List IS := [.asg (.tup [(.nm 2), (.nm 3)]) (.var 0), .asg (.nm 1) (.sortby 2 t q), .ret (.tup [(.tup [(.blt .tuple [cmpF]), (.var 3)]), (.blt .tuple [(.var 1)])])]
theorem src_ref {n : Nat} {xs : List D} {m : Store} (h : m[n]? = some (.lst xs)) : srcItems .val [.ref n] m = some (xs, some (n, .lst xs)) := by simp only [srcItems, h]
theorem tuple_ref {n : Nat} {xs : List D} {m : Store} (h : m[n]? = some (.lst xs)) : bltOp .tuple [.ref n] m = .ok (.tup xs) m := by simp only [bltOp, h]
theorem at_new {m : Store} {o : MO} : (m ++ [o])[m.length]? = some o := by rw [List.getElem?_append_right (Nat.le_refl _), Nat.sub_self]; rfl
theorem idx_len (hs : List D) : (idx hs).length = hs.length := by rw [(idx_perm hs).length_eq, List.length_range]
def ofInt (hs : List D) : D → D
  | .int k => hAt hs k.toNat
  | _ => .non
theorem run_folded {cal : Callee} {fl t : Nat} {q : Str} {m : Store} {hs : List D} {ld : D} (hm : m[t]? = some (.tab q)) (ho : ordOk hs = true) (hl : hs.length ≤ 1000) (hb : D.bnd m.length (foldD hs ld) = true) :
    runD cal fl ⟨1, 5, cFolded t q⟩ [.tup [.tup hs, ld]] m = .ok (foldD hs ld) m := by
  have hz : (ordOk hs && decide (m[t]? = some (.tab q)) && decide (hs.length ≤ 16777216)) = true := by
    rw [ho, hm]
    simp
    omega
  have e0 : evE cal (.sortby 2 t q) [some (.tup [.tup hs, ld]), none, some (.tup hs), some ld, none] m = .ok (.ref m.length) (m ++ [.lst (fRow hs)]) := by
    simp -implicitDefEqProofs only [evE, List.getElem?_cons_succ, List.getElem?_cons_zero, hz, if_true]
    rfl
  have hk : cutS [some (.tup [.tup hs, ld]), none, some (.tup hs), some ld, none] m [some (.tup [.tup hs, ld]), some (.ref m.length), some (.tup hs), some ld, none] (m ++ [.lst (fRow hs)]) = m ++ [.lst (fRow hs)] :=
    cutS_keep (envOk_no 1 rfl (by simp) (bnd_new m))
  have e1 : evE cal cmpF [some (.tup [.tup hs, ld]), some (.ref m.length), some (.tup hs), some ld, none] (m ++ [.lst (fRow hs)]) = .ok (.ref (m ++ [MO.lst (fRow hs)]).length) ((m ++ [.lst (fRow hs)]) ++ [.lst (fHands hs)]) := by
    have := ev_comp (cal := cal) (elt := .idx (.var 2) (.var 4)) (tg := .nm 4) (own := [4]) (env := [some (.tup [.tup hs, ld]), some (.ref m.length), some (.tup hs), some ld, none]) (m := m ++ [.lst (fRow hs)]) (srcs := [.var 1]) (ofInt hs)
      (by simp -implicitDefEqProofs [evEs, evE, Res.bind_ok]) (src_ref at_new) (by unfold fRow; rw [List.length_map, idx_len]; omega) (fun d hd => by
        obtain ⟨j, hj, rfl⟩ := List.mem_map.mp hd
        have hj := mem_idx hj
        have hx : hs[j]? = some (hAt hs j) := by unfold hAt; rw [List.getD_eq_getElem?_getD, List.getElem?_eq_getElem hj]; rfl
        refine ⟨[some (.tup [.tup hs, ld]), some (.ref m.length), some (.tup hs), some ld, some (.int j)], by simp [bind, wipe], ?_⟩
        simp -implicitDefEqProofs [evE, Res.bind_ok, i_tup hx, ofInt])
    have e : (fRow hs).map (ofInt hs) = fHands hs := by
      unfold fRow fHands
      rw [List.map_map]
      refine List.map_congr_left fun j _ => ?_
      simp [ofInt]
    rw [e] at this
    exact this
  have e2 := tuple_ref (m := (m ++ [MO.lst (fRow hs)]) ++ [MO.lst (fHands hs)]) (n := (m ++ [MO.lst (fRow hs)]).length) at_new
  have e3 := tuple_ref (m := (m ++ [MO.lst (fRow hs)]) ++ [MO.lst (fHands hs)]) (n := m.length) (xs := fRow hs) (by rw [List.getElem?_append_left (by simp)]; exact at_new)
  have hc : cutC m (foldD hs ld) ((m ++ [MO.lst (fRow hs)]) ++ [MO.lst (fHands hs)]) = (foldD hs ld, m) := by
    rw [List.append_assoc]
    exact cutC_app hb
  have f1 : evE cal (.tup [(.tup [(.blt .tuple [cmpF]), (.var 3)]), (.blt .tuple [(.var 1)])]) [some (.tup [.tup hs, ld]), some (.ref m.length), some (.tup hs), some ld, none] (m ++ [.lst (fRow hs)]) = .ok (foldD hs ld) ((m ++ [MO.lst (fRow hs)]) ++ [MO.lst (fHands hs)]) := by
    simp -implicitDefEqProofs only [evE, evEs, e1, Res.bind_ok, e2, e3, List.getElem?_cons_succ, List.getElem?_cons_zero]
    rfl
  generalize hT : IE.tup [(.tup [(.blt .tuple [cmpF]), (.var 3)]), (.blt .tuple [(.var 1)])] = T at f1
  generalize hS : IE.sortby 2 t q = S at e0
  have s1 : evS cal fl (.asg (.tup [(.nm 2), (.nm 3)]) (.var 0)) [some (.tup [.tup hs, ld]), none, none, none, none] m = .nx [some (.tup [.tup hs, ld]), none, some (.tup hs), some ld, none] m := by
    simp -implicitDefEqProofs [evS, evE, thn_ok, bind, bindAll, scut_nx, cutS_refl]
  have s2 : evS cal fl (.asg (.nm 1) S) [some (.tup [.tup hs, ld]), none, some (.tup hs), some ld, none] m = .nx [some (.tup [.tup hs, ld]), some (.ref m.length), some (.tup hs), some ld, none] (m ++ [.lst (fRow hs)]) := by
    simp -implicitDefEqProofs [evS, e0, thn_ok, bind, scut_nx, hk]
  have s3 : evS cal fl (.ret T) [some (.tup [.tup hs, ld]), some (.ref m.length), some (.tup hs), some ld, none] (m ++ [.lst (fRow hs)]) = .rt (foldD hs ld) ((m ++ [MO.lst (fRow hs)]) ++ [MO.lst (fHands hs)]) := by
    simp -implicitDefEqProofs only [evS, f1, thn_ok]
  unfold runD cFolded
  rw [hT, hS]
  have hlen : ([.tup [.tup hs, ld]] : List D).length = 1 := rfl
  rw [if_pos hlen]
  have hse : ([D.tup [.tup hs, ld]].map some ++ List.replicate (5 - 1) none : Env) = [some (.tup [.tup hs, ld]), none, none, none, none] := rfl
  rw [hse]
  simp -implicitDefEqProofs only [evSs, s1, s2, s3, sthn_nx, sthn_rt, hc]
end DV

/-! DvLaw4: worlds folded by pairs, folded again. -/
namespace DV
open PySem

def cmpP : IE := .comp (.tup [(.idx (.idx (.var 0) (.lit (.int 0))) (.var 2)), (.var 2)]) (.nm 2) [2] .rng1 [(.blt .len [(.idx (.var 0) (.lit (.int 0)))])] []
def cmpA (z : Int) : IE := .comp (.idx (.var 3) (.lit (.int z))) (.nm 3) [3] .val [(.var 1)] []
def cPairs : List IS := [.asg (.nm 1) (.blt .sorted [cmpP]), .ret (.tup [(.tup [(.blt .tuple [cmpA 0]), (.idx (.var 0) (.lit (.int 1)))]), (.blt .tuple [cmpA 1])])]
theorem sorted_new {m : Store} {xs : List D} (h : ordOk xs = true) : bltOp .sorted [.ref m.length] (m ++ [.lst xs]) = .ok (.ref (m ++ [MO.lst xs]).length) ((m ++ [.lst xs]) ++ [.lst (sortD xs)]) := by
  simp only [bltOp, at_new, h, if_true]
theorem i_tup0 {x : D} {xs : List D} {m : Store} : idxOp (.tup (x :: xs)) (.int 0) m = .ok x m := i_tup (k := 0) rfl
theorem i_tup1 {x y : D} {xs : List D} {m : Store} : idxOp (.tup (x :: y :: xs)) (.int 1) m = .ok y m := i_tup (k := 1) rfl
def ofPairK (hs : List D) : D → D
  | .int k => pairD hs k.toNat
  | _ => .non
def fstD : D → D
  | .tup (x :: _) => x
  | _ => .non
def sndD : D → D
  | .tup (_ :: y :: _) => y
  | _ => .non
/-- a def that hands something back -/
theorem runD_rt {cal : Callee} {fl : Nat} {fd : FD} {args : List D} {m m1 m2 : Store} {d d2 : D} {env : Env} (hl : args.length = fd.np) (he : args.map some ++ List.replicate (fd.nn - fd.np) none = env) (h : evSs cal fl fd.body env m = .rt d m1) (hc : cutC m d m1 = (d2, m2)) :
    runD cal fl fd args m = .ok d2 m2 := by
  unfold runD
  rw [if_pos hl, he, h]
  show Res.ok (cutC m d m1).1 (cutC m d m1).2 = _
  rw [hc]
theorem run_pairs {cal : Callee} {fl : Nat} {m : Store} {hs : List D} {ld : D} (hal : alikeAll hs = true) (ho : ordOk ((List.range hs.length).map (pairD hs)) = true) (hl : hs.length ≤ 1000) (hb : D.bnd m.length (foldD hs ld) = true) :
    runD cal fl ⟨1, 4, cPairs⟩ [.tup [.tup hs, ld]] m = .ok (foldD hs ld) m := by
  have hso := sort_pairs hal
  have e0 : evE cal cmpP [some (.tup [.tup hs, ld]), none, none, none] m = .ok (.ref m.length) (m ++ [.lst ((List.range hs.length).map (pairD hs))]) := by
    have := ev_comp (cal := cal) (elt := .tup [(.idx (.idx (.var 0) (.lit (.int 0))) (.var 2)), (.var 2)]) (tg := .nm 2) (own := [2]) (env := [some (.tup [.tup hs, ld]), none, none, none]) (m := m) (srcs := [(.blt .len [(.idx (.var 0) (.lit (.int 0)))])]) (ofPairK hs)
      (by simp -implicitDefEqProofs [evEs, evE, Res.bind_ok, i_tup0, l_tup]) (src_rng (n := hs.length) (by omega)) (by simp; omega) (fun d hd => by
        obtain ⟨j, hj, rfl⟩ := List.mem_map.mp hd
        rw [List.mem_range] at hj
        have hx : hs[j]? = some (hAt hs j) := by unfold hAt; rw [List.getD_eq_getElem?_getD, List.getElem?_eq_getElem hj]; rfl
        refine ⟨[some (.tup [.tup hs, ld]), none, some (.int j), none], by simp [bind, wipe], ?_⟩
        simp -implicitDefEqProofs [evE, evEs, Res.bind_ok, i_tup0, i_tup hx, ofPairK])
    have e : (rngD hs.length).map (ofPairK hs) = (List.range hs.length).map (pairD hs) := by
      rw [List.map_map]
      refine List.map_congr_left fun j _ => ?_
      simp [ofPairK]
    rw [e] at this
    exact this
  obtain ⟨m1, hm1⟩ : ∃ m1 : Store, m1 = m ++ [.lst ((List.range hs.length).map (pairD hs))] := ⟨_, rfl⟩
  obtain ⟨m2, hm2⟩ : ∃ m2 : Store, m2 = m1 ++ [.lst ((idx hs).map (pairD hs))] := ⟨_, rfl⟩
  have l1 : m1.length = m.length + 1 := by rw [hm1, List.length_append]; rfl
  have l2 : m2.length = m1.length + 1 := by rw [hm2, List.length_append]; rfl
  have e1 : evE cal (.blt .sorted [cmpP]) [some (.tup [.tup hs, ld]), none, none, none] m = .ok (.ref m1.length) m2 := by
    simp -implicitDefEqProofs only [evE, evEs, e0, Res.bind_ok, sorted_new ho, hso]
    rw [hm2, hm1]
  have hbm : D.bnd m.length (.ref m1.length) = false := by rw [D.bnd]; exact decide_eq_false (by omega)
  have hk : cutS [some (.tup [.tup hs, ld]), none, none, none] m [some (.tup [.tup hs, ld]), some (.ref m1.length), none, none] m2 = m2 := by
    have e : m2 = m ++ [MO.lst ((List.range hs.length).map (pairD hs)), .lst ((idx hs).map (pairD hs))] := by rw [hm2, hm1, List.append_assoc]; rfl
    rw [e]
    exact cutS_keep (env0 := [some (.tup [.tup hs, ld]), none, none, none]) (env := [some (.tup [.tup hs, ld]), some (.ref m1.length), none, none]) (envOk_no (d := .ref m1.length) 1 rfl (by simp) hbm)
  have cA : ∀ (z : Int) (g : D → D) (m3 : Store), m3[m1.length]? = some (.lst ((idx hs).map (pairD hs))) → (∀ (k : Nat) (m' : Store), idxOp (pairD hs k) (.int z) m' = .ok (g (pairD hs k)) m') →
      evE cal (cmpA z) [some (.tup [.tup hs, ld]), some (.ref m1.length), none, none] m3 = .ok (.ref m3.length) (m3 ++ [.lst (((idx hs).map (pairD hs)).map g)]) := fun z g m3 h3 hg => by
    refine ev_comp (cal := cal) (elt := .idx (.var 3) (.lit (.int z))) (tg := .nm 3) (own := [3]) (env := [some (.tup [.tup hs, ld]), some (.ref m1.length), none, none]) (m := m3) (srcs := [.var 1]) g
      (by simp -implicitDefEqProofs [evEs, evE, Res.bind_ok]) (src_ref h3) (by rw [List.length_map, idx_len]; omega) (fun d hd => ?_)
    obtain ⟨j, hj, rfl⟩ := List.mem_map.mp hd
    refine ⟨[some (.tup [.tup hs, ld]), some (.ref m1.length), none, some (pairD hs j)], by simp [bind, wipe], ?_⟩
    simp -implicitDefEqProofs [evE, Res.bind_ok, hg]
  have g1 : ((idx hs).map (pairD hs)).map fstD = fHands hs := by rw [List.map_map]; rfl
  have g2 : ((idx hs).map (pairD hs)).map sndD = fRow hs := by rw [List.map_map]; rfl
  have n2 : m2[m1.length]? = some (.lst ((idx hs).map (pairD hs))) := by rw [hm2]; exact at_new
  have a1 := cA 0 fstD m2 n2 fun k m' => i_tup0
  rw [g1] at a1
  have a2 := cA 1 sndD (m2 ++ [.lst (fHands hs)]) (by rw [List.getElem?_append_left (by omega)]; exact n2) fun k m' => i_tup1
  rw [g2] at a2
  have t1 := tuple_ref (m := m2 ++ [MO.lst (fHands hs)]) (n := m2.length) at_new
  have t2 := tuple_ref (m := (m2 ++ [MO.lst (fHands hs)]) ++ [MO.lst (fRow hs)]) (n := (m2 ++ [MO.lst (fHands hs)]).length) at_new
  have f1 : evE cal (.tup [(.tup [(.blt .tuple [cmpA 0]), (.idx (.var 0) (.lit (.int 1)))]), (.blt .tuple [cmpA 1])]) [some (.tup [.tup hs, ld]), some (.ref m1.length), none, none] m2 = .ok (foldD hs ld) ((m2 ++ [MO.lst (fHands hs)]) ++ [MO.lst (fRow hs)]) := by
    simp -implicitDefEqProofs only [evE, evEs, a1, a2, Res.bind_ok, t1, t2, i_tup1, List.getElem?_cons_succ, List.getElem?_cons_zero]
    rfl
  have hc : cutC m (foldD hs ld) ((m2 ++ [MO.lst (fHands hs)]) ++ [MO.lst (fRow hs)]) = (foldD hs ld, m) := by
    have e : (m2 ++ [MO.lst (fHands hs)]) ++ [MO.lst (fRow hs)] = m ++ [MO.lst ((List.range hs.length).map (pairD hs)), .lst ((idx hs).map (pairD hs)), MO.lst (fHands hs), MO.lst (fRow hs)] := by rw [hm2, hm1, List.append_assoc, List.append_assoc, List.append_assoc]; rfl
    rw [e]
    exact cutC_app hb
  generalize hT : IE.tup [(.tup [(.blt .tuple [cmpA 0]), (.idx (.var 0) (.lit (.int 1)))]), (.blt .tuple [cmpA 1])] = T at f1
  generalize hS : IE.blt .sorted [cmpP] = S at e1
  have s2 : evS cal fl (.asg (.nm 1) S) [some (.tup [.tup hs, ld]), none, none, none] m = .nx [some (.tup [.tup hs, ld]), some (.ref m1.length), none, none] m2 := by
    simp -implicitDefEqProofs [evS, e1, thn_ok, bind, scut_nx, hk]
  have s3 : evS cal fl (.ret T) [some (.tup [.tup hs, ld]), some (.ref m1.length), none, none] m2 = .rt (foldD hs ld) ((m2 ++ [MO.lst (fHands hs)]) ++ [MO.lst (fRow hs)]) := by
    simp -implicitDefEqProofs only [evS, f1, thn_ok]
  have hss : evSs cal fl [.asg (.nm 1) S, .ret T] [some (.tup [.tup hs, ld]), none, none, none] m = .rt (foldD hs ld) ((m2 ++ [MO.lst (fHands hs)]) ++ [MO.lst (fRow hs)]) := by
    simp -implicitDefEqProofs only [evSs, s2, s3, sthn_nx, sthn_rt]
  refine runD_rt (env := [some (.tup [.tup hs, ld]), none, none, none]) rfl rfl ?_ hc
  show evSs cal fl cPairs _ _ = _
  unfold cPairs
  rw [hT, hS]
  exact hss

/-! ### folded again -/
theorem fHands_at {hs : List D} {j : Nat} (hj : j < hs.length) : hAt (fHands hs) j = hAt hs ((idx hs)[j]'(by rw [idx_len]; exact hj)) := by
  unfold hAt fHands
  rw [List.getD_eq_getElem?_getD, List.getElem?_map, List.getElem?_eq_getElem (by rw [idx_len]; exact hj)]
  rfl
theorem idx_again (hs : List D) : idx (fHands hs) = List.range hs.length := by
  have hl : (fHands hs).length = hs.length := by unfold fHands; rw [List.length_map, idx_len]
  unfold idx
  rw [hl]
  refine List.mergeSort_of_pairwise ?_
  rw [List.pairwise_iff_getElem]
  intro i j hi hj hij
  rw [List.length_range] at hi hj
  rw [List.getElem_range, List.getElem_range, fHands_at hi, fHands_at hj]
  have s1 : (idx hs).Pairwise fun a b => le1 hs a b = true := PySem.W.sort_pairwise (le1_total hs) (List.range hs.length)
  exact (List.pairwise_iff_getElem.mp s1) i j (by rw [idx_len]; exact hi) (by rw [idx_len]; exact hj) hij
theorem fold_again (hs : List D) (ld : D) : foldD (fHands hs) ld = .tup [.tup [.tup (fHands hs), ld], .tup (rngD hs.length)] := by
  have hl : (fHands hs).length = hs.length := by unfold fHands; rw [List.length_map, idx_len]
  have e : fHands (fHands hs) = fHands hs := by
    show (idx (fHands hs)).map (hAt (fHands hs)) = fHands hs
    rw [idx_again]
    refine List.ext_getElem? fun j => ?_
    by_cases hj : j < hs.length
    · rw [List.getElem?_map, List.getElem?_range hj]
      show some (hAt (fHands hs) j) = _
      unfold hAt
      rw [List.getD_eq_getElem?_getD, List.getElem?_eq_getElem (by rw [hl]; exact hj)]
      rfl
    · rw [List.getElem?_eq_none (by rw [List.length_map, List.length_range]; omega), List.getElem?_eq_none (by omega)]
  unfold foldD
  rw [e]
  unfold fRow
  rw [idx_again]
end DV

/-! DvWorld: a world drawn by digits. -/
namespace DV
open PySem

/-! ### a for's turns -/
theorem forGo_inv {bnd : Env → D → Option Env} {body : Env → Store → SRes} {w : Option (Nat × MO)} (P : Nat → Env → Store → Prop) (N : Nat) : ∀ (xs : List D) (i : Nat) (env : Env) (m : Store), P i env m → i + xs.length = N →
    (∀ (j : Nat) (d : D) (env : Env) (m : Store), d ∈ xs → j < N → P j env m → ∃ env1 env2 m2, bnd env d = some env1 ∧ body env1 m = .nx env2 m2 ∧ kept w m2 = true ∧ P (j + 1) env2 m2) →
    ∃ env2 m2, forGo bnd body w xs env m = .nx env2 m2 ∧ P N env2 m2
  | [], i, env, m, p, hn, _ => by
    rw [List.length_nil, Nat.add_zero] at hn
    subst hn
    exact ⟨env, m, by rw [forGo], p⟩
  | x :: xs, i, env, m, p, hn, h => by
    rw [List.length_cons] at hn
    obtain ⟨env1, env2, m2, e1, e2, e3, e4⟩ := h i x env m List.mem_cons_self (by omega) p
    obtain ⟨env3, m3, e5, e6⟩ := forGo_inv P N xs (i + 1) env2 m2 e4 (by omega) fun j d env m hd => h j d env m (List.mem_cons_of_mem _ hd)
    refine ⟨env3, m3, ?_, e6⟩
    rw [forGo]
    simp only [e1, e2, e3, if_true]
    exact e5

/-! ### the store of a drawing: what stood, the number left, the rest -/
abbrev SW (m0 : Store) (x : Int) (r : List MO) : Store := m0 ++ .lst [.int x] :: r
theorem sw_at {m0 : Store} {x : Int} {r : List MO} : (SW m0 x r)[m0.length]? = some (.lst [.int x]) := by rw [List.getElem?_append_right (Nat.le_refl _), Nat.sub_self]; rfl
theorem sw_rest {m0 : Store} {x : Int} {r : List MO} (i : Nat) : (SW m0 x r)[m0.length + 1 + i]? = r[i]? := by
  rw [List.getElem?_append_right (by omega), show m0.length + 1 + i - m0.length = i + 1 by omega, List.getElem?_cons_succ]
theorem sw_set {m0 : Store} {x y : Int} {r : List MO} : (SW m0 x r).set m0.length (.lst [.int y]) = SW m0 y r := by
  rw [List.set_append_right _ _ (Nat.le_refl _), Nat.sub_self]; rfl
theorem sw_setR {m0 : Store} {x : Int} {r : List MO} (i : Nat) (o : MO) : (SW m0 x r).set (m0.length + 1 + i) o = SW m0 x (r.set i o) := by
  rw [List.set_append_right _ _ (by omega), show m0.length + 1 + i - m0.length = i + 1 by omega]; rfl
theorem sw_len {m0 : Store} {x : Int} {r : List MO} : (SW m0 x r).length = m0.length + 1 + r.length := by rw [List.length_append, List.length_cons]; omega
theorem sw_app {m0 : Store} {x : Int} {r t : List MO} : SW m0 x r ++ t = SW m0 x (r ++ t) := by rw [List.append_assoc]; rfl
/-- a digit is taken -/
def Draws (cal : Callee) (f : Nat) : Prop := ∀ (n : Nat) (m : Store) (x b : Int), m[n]? = some (.lst [.int x]) → 0 < b ∧ b < 1073741824 → cal f [.ref n, .int b] m = .ok (.int (x % b)) (m.set n (.lst [.int (x / b)]))
theorem Draws.sw {cal : Callee} {f : Nat} (h : Draws cal f) {m0 : Store} {x b : Int} {r : List MO} (hb : 0 < b ∧ b < 1073741824) : cal f [.ref m0.length, .int b] (SW m0 x r) = .ok (.int (x % b)) (SW m0 (x / b) r) := by
  rw [h _ _ x b sw_at hb, sw_set]

/-- old entries that changed are bounded -/
theorem oldOk_mix {m m1 t : Store} (hl : m1.length = m.length) (h : ∀ (i : Nat) (o : MO), m1[i]? = some o → m[i]? = some o ∨ o.bnd m.length = true) : oldOk m (m1 ++ t) = true := by
  unfold oldOk
  rw [List.all_eq_true]
  intro i hi
  rw [List.mem_range] at hi
  have e : (m1 ++ t)[i]? = some m1[i] := by rw [List.getElem?_append_left (by omega), List.getElem?_eq_getElem (by omega)]
  rw [e, Bool.or_eq_true]
  rcases h i m1[i] (List.getElem?_eq_getElem (by omega)) with z | z
  · left; rw [z]; simp
  · right; exact z
theorem cutS_mix {env0 env : Env} {m m1 t : Store} (hl : m1.length = m.length) (h : oldOk m (m1 ++ t) = true) (he : envOk m.length env0 env = true) : cutS env0 m env (m1 ++ t) = m1 := by
  unfold cutS
  split
  · rename_i z
    rw [List.length_append] at z
    have : t = [] := List.eq_nil_of_length_eq_zero (by omega)
    rw [this, List.append_nil]
  · rw [h, he, ← hl, List.take_left']
    · simp
    · rfl
theorem cutS_stay {env0 env : Env} {m m1 : Store} (he : envOk m.length env0 env = false) : cutS env0 m env m1 = m1 := by
  unfold cutS
  rw [he, Bool.and_false]
  simp
theorem cutC_mix {d : D} {m m1 t : Store} (hl : m1.length = m.length) (h : oldOk m (m1 ++ t) = true) (hd : D.bnd m.length d = true) : cutC m d (m1 ++ t) = (d, m1) := by
  unfold cutC
  split
  · rename_i z
    rw [List.length_append] at z
    have : t = [] := List.eq_nil_of_length_eq_zero (by omega)
    rw [this, List.append_nil]
  · first
      | rw [← hl, List.take_left' rfl]
      | (rw [h, ← hl, List.take_left' rfl, hl]; simp [hd])
theorem cutE_mix {d : D} {m m1 t : Store} (hl : m1.length = m.length) (h : oldOk m (m1 ++ t) = true) (hd : D.bnd m.length d = true) : cutE m d (m1 ++ t) = m1 := by
  unfold cutE
  split
  · rename_i z
    rw [List.length_append] at z
    have : t = [] := List.eq_nil_of_length_eq_zero (by omega)
    rw [this, List.append_nil]
  · rw [h, hd, ← hl, List.take_left']
    · simp
    · rfl
/-- of two drawings' stores: the number, and bounded things, may have changed -/
theorem old_sw {m0 : Store} {x y : Int} {r r1 t : List MO} (hl : r1.length = r.length) (h : ∀ (i : Nat) (o : MO), r1[i]? = some o → r[i]? = some o ∨ o.bnd (SW m0 x r).length = true) : oldOk (SW m0 x r) (SW m0 y (r1 ++ t)) = true := by
  rw [← sw_app]
  refine oldOk_mix (by rw [sw_len, sw_len, hl]) fun i o e => ?_
  by_cases hi : i < m0.length
  · left
    rw [List.getElem?_append_left hi] at e ⊢
    exact e
  · obtain ⟨j, rfl⟩ : ∃ j, i = m0.length + j := ⟨i - m0.length, by omega⟩
    cases j with
    | zero =>
      have := sw_at (m0 := m0) (x := y) (r := r1)
      rw [Nat.add_zero] at e
      rw [this] at e
      cases e
      right
      simp [MO.bnd, D.bndAll, D.bnd]
    | succ j =>
      have e1 := sw_rest (m0 := m0) (x := y) (r := r1) j
      have e2 := sw_rest (m0 := m0) (x := x) (r := r) j
      rw [show m0.length + (j + 1) = m0.length + 1 + j by omega] at e ⊢
      rw [e1] at e
      rw [e2]
      exact h j o e
end DV

/-! DvHands: hands drawn by digits. -/
namespace DV
open PySem

theorem compGo_run {bnd : D → Option Env} {tests : Env → Store → Res Bool} {elt : Env → Store → Res D} {w : Option (Nat × MO)} (P : Nat → List D → Store → Prop) (N : Nat) : ∀ (xs : List D) (i : Nat) (acc : List D) (m : Store), P i acc m → i + xs.length = N →
    (∀ (j : Nat) (d : D) (acc : List D) (m : Store), d ∈ xs → j < N → P j acc m → acc.length < line ∧ ∃ env x m', bnd d = some env ∧ tests env m = .ok true m ∧ elt env m = .ok x m' ∧ kept w (cutE m (.tup (x :: acc)) m') = true ∧ P (j + 1) (acc ++ [x]) (cutE m (.tup (x :: acc)) m')) →
    ∃ acc' m', compGo bnd tests elt w xs acc m = .ok acc' m' ∧ P N acc' m'
  | [], i, acc, m, p, hn, _ => by
    rw [List.length_nil, Nat.add_zero] at hn
    subst hn
    exact ⟨acc, m, by rw [compGo], p⟩
  | x :: xs, i, acc, m, p, hn, h => by
    rw [List.length_cons] at hn
    obtain ⟨hl, env, y, m', e1, e2, e3, e5, e6⟩ := h i x acc m List.mem_cons_self (by omega) p
    obtain ⟨acc', m2, e7, e8⟩ := compGo_run P N xs (i + 1) (acc ++ [y]) _ e6 (by omega) fun j d acc m hd => h j d acc m (List.mem_cons_of_mem _ hd)
    refine ⟨acc', m2, ?_, e8⟩
    rw [compGo]
    simp only [e1, e2, e3, e5, hl, decide_true, Bool.and_true, if_true]
    exact e7
theorem ev_comp_any {cal : Callee} {elt : IE} {tg : Tg} {own : List Nat} {k : SrcK} {srcs tests : List IE} {env : Env} {m m1 m2 : Store} {ds xs acc : List D} {w : Option (Nat × MO)} (h1 : evEs cal srcs env m = .ok ds m1) (h2 : srcItems k ds m1 = some (xs, w))
    (h3 : compGo (fun d => bind (wipe env own) tg d) (fun e m => evTests cal tests e m) (fun e m => evE cal elt e m) w xs [] m1 = .ok acc m2) : evE cal (.comp elt tg own k srcs tests) env m = .ok (.ref m2.length) (m2 ++ [.lst acc]) := by
  simp -implicitDefEqProofs only [evE, h1, Res.bind_ok, h2]
  rw [h3]
  simp -implicitDefEqProofs only [Res.bind_ok]
/-- a comprehension over a range, its turns by an invariant -/
theorem ev_comp_run {cal : Callee} {elt : IE} {tg : Tg} {own : List Nat} {srcs : List IE} {env : Env} {m m1 : Store} {n : Nat} (P : Nat → List D → Store → Prop) (h1 : evEs cal srcs env m = .ok [.int (n : Int)] m1) (hn : n ≤ 1000000) (h0 : P 0 [] m1)
    (h : ∀ (j k : Nat) (acc : List D) (m : Store), j < n → P j acc m → acc.length < line ∧ ∃ e x m', bind (wipe env own) tg (.int (k : Int)) = some e ∧ evE cal elt e m = .ok x m' ∧ P (j + 1) (acc ++ [x]) (cutE m (.tup (x :: acc)) m')) :
    ∃ acc m2, evE cal (.comp elt tg own .rng1 srcs []) env m = .ok (.ref m2.length) (m2 ++ [.lst acc]) ∧ P n acc m2 := by
  obtain ⟨acc, m2, e1, e2⟩ := compGo_run (bnd := fun d => bind (wipe env own) tg d) (tests := fun e m => evTests cal [] e m) (elt := fun e m => evE cal elt e m) (w := none) P n (rngD n) 0 [] m1 h0 (by simp) fun j d acc m hd hj hp => by
    obtain ⟨k, _, rfl⟩ := List.mem_map.mp hd
    obtain ⟨q1, e, x, m', q2, q3, q4⟩ := h j k acc m hj hp
    exact ⟨q1, e, x, m', q2, by simp only [evTests], q3, by simp only [kept], q4⟩
  exact ⟨acc, m2, ev_comp_any h1 (src_rng hn) e1, e2⟩

/-! ### drawn hands -/
def GoodHand (d : D) : Prop := ∃ (r : Str) (s : Int) (rs : List Int), d = .tup [.str r, .int s, .tup (intsD rs)] ∧ (r = "b" ∨ r = "ask") ∧ rs.length ≤ 2
def cmpHeld (f : Nat) : IE := .comp (.call f [(.var 0), (.lit (.int 3))]) (.nm 8) [8] .rng1 [(.idx (.var 1) (.var 5))] []
/-- registers -/
theorem run_held {cal : Callee} {f : Nat} (hd : Draws cal f) {m0 : Store} {x p q : Int} {r : List MO} {a2 a3 a4 a6 a7 a8 : Option D} {z : Int} (hz : z = 0 ∨ z = 1) (hp : 0 ≤ p ∧ p ≤ 2) (hq : 0 ≤ q ∧ q ≤ 2) :
    ∃ (x' : Int) (rs : List Int), evE cal (cmpHeld f) [some (.ref m0.length), some (.ref (m0.length + 1)), a2, a3, a4, some (.int z), a6, a7, a8] (SW m0 x (.lst [.int p, .int q] :: r)) =
      .ok (.ref (SW m0 x (.lst [.int p, .int q] :: r)).length) (SW m0 x' (.lst [.int p, .int q] :: r ++ [.lst (intsD rs)])) ∧ rs.length ≤ 2 := by
  obtain ⟨n, hn, hn2⟩ : ∃ n : Nat, (if z = 0 then p else q) = (n : Int) ∧ n ≤ 2 := by
    rcases hz with rfl | rfl
    · exact ⟨p.toNat, by simp; omega, by omega⟩
    · exact ⟨q.toNat, by simp; omega, by omega⟩
  have hsrc : evEs cal [(.idx (.var 1) (.var 5))] [some (.ref m0.length), some (.ref (m0.length + 1)), a2, a3, a4, some (.int z), a6, a7, a8] (SW m0 x (.lst [.int p, .int q] :: r)) = .ok [.int (n : Int)] (SW m0 x (.lst [.int p, .int q] :: r)) := by
    have e := sw_rest (m0 := m0) (x := x) (r := .lst [.int p, .int q] :: r) 0
    rw [Nat.add_zero] at e
    have hi : idxOp (.ref (m0.length + 1)) (.int z) (SW m0 x (.lst [.int p, .int q] :: r)) = .ok (.int (n : Int)) (SW m0 x (.lst [.int p, .int q] :: r)) := by
      rcases hz with rfl | rfl
      · have := i_ref (k := 0) (d := .int p) e rfl
        rw [← hn]
        exact this
      · have := i_ref (k := 1) (d := .int q) e rfl
        rw [← hn]
        exact this
    simp -implicitDefEqProofs only [evEs, evE, Res.bind_ok, List.getElem?_cons_succ, List.getElem?_cons_zero, hi]
  obtain ⟨acc, m2, e1, x', rs, rfl, rfl, e2⟩ := ev_comp_run (cal := cal) (elt := .call f [(.var 0), (.lit (.int 3))]) (tg := .nm 8) (own := [8]) (fun j acc m => ∃ (y : Int) (rs : List Int), m = SW m0 y (.lst [.int p, .int q] :: r) ∧ acc = intsD rs ∧ rs.length = j) hsrc (by omega) ⟨x, [], rfl, rfl, rfl⟩ fun j k acc m hj hP => by
    obtain ⟨y, rs, rfl, rfl, hl⟩ := hP
    refine ⟨by simp [line_eq0]; omega, [some (.ref m0.length), some (.ref (m0.length + 1)), a2, a3, a4, some (.int z), a6, a7, some (.int (k : Int))], .int (y % 3), SW m0 (y / 3) (.lst [.int p, .int q] :: r), by simp [bind, wipe], ?_, y / 3, rs ++ [y % 3], ?_, by simp, by simp [hl]⟩
    · simp -implicitDefEqProofs only [evE, evEs, Res.bind_ok, List.getElem?_cons_zero, hd.sw (show 0 < (3 : Int) ∧ (3 : Int) < 1073741824 by decide)]
    · exact cutE_le (by rw [sw_len, sw_len]; exact Nat.le_refl _)
  refine ⟨x', rs, ?_, by omega⟩
  unfold cmpHeld
  rw [e1, sw_app, sw_len, sw_len]

/-! ### a hand more -/
theorem m_append {n : Nat} {xs : List D} {m : Store} {d : D} (h : m[n]? = some (.lst xs)) (hl : xs.length < line) : methOp .append (.ref n) [d] m = .ok .non (m.set n (.lst (xs ++ [d]))) := by
  simp only [methOp, h]
  rw [if_pos hl]
theorem mth_ref {t : Mth} {n : Nat} {xs : List D} {m : Store} (h : m[n]? = some (.lst xs)) : mthOk t (.ref n) m = true := by simp only [mthOk, h]
abbrev E9 (m0 : Store) (a3 a4 a5 a6 a7 a8 : Option D) : Env := [some (.ref m0.length), some (.ref (m0.length + 1)), some (.ref (m0.length + 2)), a3, a4, a5, a6, a7, a8]
def wCond (f : Nat) : IE := .and [(.cmp .gt (.blt .len [(.var 2)]) (.lit (.int 0))), (.cmp .eq (.call f [(.var 0), (.lit (.int 3))]) (.lit (.int 0)))]
def wCopy (f : Nat) : IE := .meth .append (.var 2) [(.idx (.var 2) (.call f [(.var 0), (.blt .len [(.var 2)])]))]
def wTup (f : Nat) : IE := .tup [(.idx (.lst [(.lit (.str "b")), (.lit (.str "ask"))]) (.var 5)), (.call f [(.var 0), (.lit (.int 4))]), (.blt .tuple [(.var 7)])]
def sHands (f : Nat) : List IS := [.asg (.nm 5) (.call f [(.var 0), (.lit (.int 2))]), .iff (wCond f) [.expr (wCopy f)] [.asg (.nm 7) (cmpHeld f), .expr (.meth .append (.var 2) [wTup f])]]
section
variable {cal : Callee} {f fl : Nat} {m0 : Store} {x p q : Int} {hs : List D} {g : List MO} {a3 a4 a5 a6 a7 a8 : Option D}
abbrev rH (p q : Int) (hs : List D) (g : List MO) : List MO := .lst [.int p, .int q] :: .lst hs :: g
theorem rH_at : (SW m0 x (rH p q hs g))[m0.length + 2]? = some (.lst hs) := sw_rest (m0 := m0) (x := x) (r := rH p q hs g) 1
theorem run_cond (hd : Draws cal f) : ∃ (b : Bool) (x' : Int), evT cal (wCond f) (E9 m0 a3 a4 a5 a6 a7 a8) (SW m0 x (rH p q hs g)) = .ok b (SW m0 x' (rH p q hs g)) ∧ (b = true → hs ≠ []) := by
  have e1 : ∀ c : Bool, decide ((0 : Int) < (hs.length : Int)) = c → evE cal (.cmp .gt (.blt .len [(.var 2)]) (.lit (.int 0))) (E9 m0 a3 a4 a5 a6 a7 a8) (SW m0 x (rH p q hs g)) = .ok (.bl c) (SW m0 x (rH p q hs g)) := fun c hc => by
    simp -implicitDefEqProofs only [evE, evEs, Res.bind_ok, List.getElem?_cons_succ, List.getElem?_cons_zero, l_ref rH_at, c_gt, hc]
  have e2 : evE cal (.cmp .eq (.call f [(.var 0), (.lit (.int 3))]) (.lit (.int 0))) (E9 m0 a3 a4 a5 a6 a7 a8) (SW m0 x (rH p q hs g)) = .ok (.bl (decide (x % 3 = 0))) (SW m0 (x / 3) (rH p q hs g)) := by
    simp -implicitDefEqProofs only [evE, evEs, Res.bind_ok, List.getElem?_cons_succ, List.getElem?_cons_zero, hd.sw (show 0 < (3 : Int) ∧ (3 : Int) < 1073741824 by decide), c_eqI]
  unfold wCond
  generalize hA : IE.cmp .gt (.blt .len [(.var 2)]) (.lit (.int 0)) = A at e1
  generalize hB : IE.cmp .eq (.call f [(.var 0), (.lit (.int 3))]) (.lit (.int 0)) = B at e2
  cases hs with
  | nil =>
    refine ⟨false, x, ?_, fun z => by cases z⟩
    simp -implicitDefEqProofs only [evT, evE, evAnd, e1 false (by simp), Res.bind_ok]
  | cons h hs =>
    refine ⟨decide (x % 3 = 0), x / 3, ?_, fun _ => by simp⟩
    simp -implicitDefEqProofs only [evT, evE, evAnd, e1 true (by simp), e2, Res.bind_ok]
theorem run_copy (hd : Draws cal f) (hne : hs ≠ []) (hl : hs.length < 1000) : ∃ (x' : Int) (h : D), evE cal (wCopy f) (E9 m0 a3 a4 a5 a6 a7 a8) (SW m0 x (rH p q hs g)) = .ok .non (SW m0 x' (rH p q (hs ++ [h]) g)) ∧ h ∈ hs := by
  have hpos : 0 < hs.length := by cases hs with | nil => exact absurd rfl hne | cons a b => simp
  have hb : 0 < (hs.length : Int) ∧ (hs.length : Int) < 1073741824 := by omega
  obtain ⟨k, hk, hk2⟩ : ∃ k : Nat, x % (hs.length : Int) = (k : Int) ∧ k < hs.length := ⟨(x % (hs.length : Int)).toNat, by have := Int.emod_nonneg x (show (hs.length : Int) ≠ 0 by omega); omega, by have := Int.emod_lt_of_pos x hb.1; have := Int.emod_nonneg x (show (hs.length : Int) ≠ 0 by omega); omega⟩
  have hx : hs[k]? = some hs[k] := List.getElem?_eq_getElem hk2
  refine ⟨x / (hs.length : Int), hs[k], ?_, List.getElem_mem hk2⟩
  have e1 : evE cal (.idx (.var 2) (.call f [(.var 0), (.blt .len [(.var 2)])])) (E9 m0 a3 a4 a5 a6 a7 a8) (SW m0 x (rH p q hs g)) = .ok hs[k] (SW m0 (x / (hs.length : Int)) (rH p q hs g)) := by
    simp -implicitDefEqProofs only [evE, evEs, Res.bind_ok, List.getElem?_cons_succ, List.getElem?_cons_zero, l_ref rH_at, hd.sw hb, hk, i_ref rH_at hx]
  have e2 := m_append (d := hs[k]) (rH_at (m0 := m0) (x := x / (hs.length : Int)) (p := p) (q := q) (hs := hs) (g := g)) (by rw [line_eq0]; omega)
  rw [show m0.length + 2 = m0.length + 1 + 1 by omega, sw_setR] at e2
  unfold wCopy
  generalize hA : IE.idx (.var 2) (.call f [(.var 0), (.blt .len [(.var 2)])]) = A at e1
  have e3 : mthOk .append (.ref (m0.length + 2)) (SW m0 x (rH p q hs g)) = true := mth_ref rH_at
  simp -implicitDefEqProofs only [evE, evEs, e1, Res.bind_ok, List.getElem?_cons_succ, List.getElem?_cons_zero, e3, if_true]
  exact e2
end
end DV

/-! DvHands2: a hand drawn anew; all hands. -/
namespace DV
open PySem
theorem cutS_two (env0 env : Env) (m m1 : Store) : cutS env0 m env m1 = m1 ∨ cutS env0 m env m1 = m1.take m.length := by
  unfold cutS
  split
  · exact .inl rfl
  · split
    · exact .inr rfl
    · exact .inl rfl
theorem sw_take {m0 : Store} {x : Int} {r t : List MO} {k : Nat} (hk : k = m0.length + 1 + r.length) : (SW m0 x (r ++ t)).take k = SW m0 x r := by
  have e : SW m0 x (r ++ t) = SW m0 x r ++ t := sw_app.symm
  rw [e, hk, ← sw_len (m0 := m0) (x := x) (r := r), List.take_left' rfl]
section
variable {cal : Callee} {f fl : Nat} {m0 : Store} {x p q : Int} {hs : List D} {g : List MO} {a3 a4 a5 a6 a7 a8 : Option D}
theorem run_tup (hd : Draws cal f) {z : Int} (hz : z = 0 ∨ z = 1) {rs : List Int} (hr : rs.length ≤ 2) {n7 : Nat} (h7 : n7 = m0.length + 1 + 2 + g.length) :
    ∃ h : D, evE cal (wTup f) (E9 m0 a3 a4 (some (.int z)) a6 (some (.ref n7)) a8) (SW m0 x (rH p q hs (g ++ [.lst (intsD rs)]))) = .ok h (SW m0 (x / 4) (rH p q hs (g ++ [.lst (intsD rs), .lst [.str "b", .str "ask"]]))) ∧ GoodHand h := by
  obtain ⟨k, nm, hk, hnm, hx⟩ : ∃ (k : Nat) (nm : Str), z = (k : Int) ∧ ([D.str "b", D.str "ask"] : List D)[k]? = some (.str nm) ∧ (nm = "b" ∨ nm = "ask") := by
    rcases hz with rfl | rfl
    · exact ⟨0, "b", rfl, rfl, .inl rfl⟩
    · exact ⟨1, "ask", rfl, rfl, .inr rfl⟩
  refine ⟨.tup [.str nm, .int (x % 4), .tup (intsD rs)], ?_, nm, x % 4, rs, rfl, hx, hr⟩
  have hS : SW m0 x (rH p q hs (g ++ [.lst (intsD rs)])) ++ [.lst [.str "b", .str "ask"]] = SW m0 x (rH p q hs (g ++ [.lst (intsD rs), .lst [.str "b", .str "ask"]])) := by
    rw [sw_app]
    show SW m0 x (.lst [.int p, .int q] :: .lst hs :: ((g ++ [.lst (intsD rs)]) ++ [.lst [.str "b", .str "ask"]])) = _
    rw [List.append_assoc]
    rfl
  have hat : (SW m0 x (rH p q hs (g ++ [.lst (intsD rs), .lst [.str "b", .str "ask"]])))[(SW m0 x (rH p q hs (g ++ [.lst (intsD rs)]))).length]? = some (.lst [.str "b", .str "ask"]) := by rw [← hS]; exact at_new
  have e1 : evE cal (.idx (.lst [(.lit (.str "b")), (.lit (.str "ask"))]) (.var 5)) (E9 m0 a3 a4 (some (.int z)) a6 (some (.ref n7)) a8) (SW m0 x (rH p q hs (g ++ [.lst (intsD rs)]))) = .ok (.str nm) (SW m0 x (rH p q hs (g ++ [.lst (intsD rs), .lst [.str "b", .str "ask"]]))) := by
    simp -implicitDefEqProofs only [evE, evEs, Res.bind_ok, List.getElem?_cons_succ, List.getElem?_cons_zero, hS, hk]
    exact i_ref hat hnm
  have e2 : evE cal (.call f [(.var 0), (.lit (.int 4))]) (E9 m0 a3 a4 (some (.int z)) a6 (some (.ref n7)) a8) (SW m0 x (rH p q hs (g ++ [.lst (intsD rs), .lst [.str "b", .str "ask"]]))) = .ok (.int (x % 4)) (SW m0 (x / 4) (rH p q hs (g ++ [.lst (intsD rs), .lst [.str "b", .str "ask"]]))) := by
    simp -implicitDefEqProofs only [evE, evEs, Res.bind_ok, List.getElem?_cons_succ, List.getElem?_cons_zero, hd.sw (show 0 < (4 : Int) ∧ (4 : Int) < 1073741824 by decide)]
  have h7a : (SW m0 (x / 4) (rH p q hs (g ++ [.lst (intsD rs), .lst [.str "b", .str "ask"]])))[n7]? = some (.lst (intsD rs)) := by
    have := sw_rest (m0 := m0) (x := x / 4) (r := rH p q hs (g ++ [.lst (intsD rs), .lst [.str "b", .str "ask"]])) (2 + g.length)
    rw [h7, show m0.length + 1 + 2 + g.length = m0.length + 1 + (2 + g.length) by omega, this]
    rw [show 2 + g.length = g.length + 1 + 1 by omega, List.getElem?_cons_succ, List.getElem?_cons_succ, List.getElem?_append_right (Nat.le_refl _), Nat.sub_self]
    rfl
  have e3 : evE cal (.blt .tuple [(.var 7)]) (E9 m0 a3 a4 (some (.int z)) a6 (some (.ref n7)) a8) (SW m0 (x / 4) (rH p q hs (g ++ [.lst (intsD rs), .lst [.str "b", .str "ask"]]))) = .ok (.tup (intsD rs)) (SW m0 (x / 4) (rH p q hs (g ++ [.lst (intsD rs), .lst [.str "b", .str "ask"]]))) := by
    simp -implicitDefEqProofs only [evE, evEs, Res.bind_ok, List.getElem?_cons_succ, List.getElem?_cons_zero, tuple_ref h7a]
  unfold wTup
  generalize hA : IE.idx (.lst [(.lit (.str "b")), (.lit (.str "ask"))]) (.var 5) = A at e1
  generalize hB : IE.call f [(.var 0), (.lit (.int 4))] = B at e2
  generalize hC : IE.blt .tuple [(.var 7)] = C at e3
  simp -implicitDefEqProofs only [evE, evEs, e1, e2, e3, Res.bind_ok]
theorem run_else (hd : Draws cal f) {z : Int} (hz : z = 0 ∨ z = 1) (hp : 0 ≤ p ∧ p ≤ 2) (hq : 0 ≤ q ∧ q ≤ 2) (hl : hs.length < 1000) (h7 : ∀ n, a7 = some (.ref n) → n < m0.length + 1 + 2 + g.length) :
    ∃ (x' : Int) (h : D) (g' : List MO), evSs cal fl [.asg (.nm 7) (cmpHeld f), .expr (.meth .append (.var 2) [wTup f])] (E9 m0 a3 a4 (some (.int z)) a6 a7 a8) (SW m0 x (rH p q hs g)) =
      .nx (E9 m0 a3 a4 (some (.int z)) a6 (some (.ref (m0.length + 1 + 2 + g.length))) a8) (SW m0 x' (rH p q (hs ++ [h]) g')) ∧ GoodHand h ∧ g.length < g'.length := by
  obtain ⟨x1, rs, e1, hr⟩ := run_held (cal := cal) (f := f) hd (m0 := m0) (x := x) (p := p) (q := q) (r := .lst hs :: g) (a2 := some (.ref (m0.length + 2))) (a3 := a3) (a4 := a4) (a6 := a6) (a7 := a7) (a8 := a8) hz hp hq
  have en : (SW m0 x (.lst [.int p, .int q] :: (.lst hs :: g))).length = m0.length + 1 + 2 + g.length := by rw [sw_len]; simp; omega
  rw [en] at e1
  have s1 : evS cal fl (.asg (.nm 7) (cmpHeld f)) (E9 m0 a3 a4 (some (.int z)) a6 a7 a8) (SW m0 x (rH p q hs g)) = .nx (E9 m0 a3 a4 (some (.int z)) a6 (some (.ref (m0.length + 1 + 2 + g.length))) a8) (SW m0 x1 (rH p q hs (g ++ [.lst (intsD rs)]))) := by
    have hk : cutS (E9 m0 a3 a4 (some (.int z)) a6 a7 a8) (SW m0 x (rH p q hs g)) (E9 m0 a3 a4 (some (.int z)) a6 (some (.ref (m0.length + 1 + 2 + g.length))) a8) (SW m0 x1 (rH p q hs (g ++ [.lst (intsD rs)]))) = SW m0 x1 (rH p q hs (g ++ [.lst (intsD rs)])) := by
      refine cutS_stay (envOk_no (d := .ref (m0.length + 1 + 2 + g.length)) 7 rfl (fun e => ?_) ?_)
      · have e : some a7 = some (some (.ref (m0.length + 1 + 2 + g.length))) := e
        exact absurd (h7 _ (Option.some.inj e)) (Nat.lt_irrefl _)
      · rw [D.bnd]
        exact decide_eq_false (by rw [show (SW m0 x (rH p q hs g)).length = m0.length + 1 + 2 + g.length from en]; omega)
    have e1 : evE cal (cmpHeld f) (E9 m0 a3 a4 (some (.int z)) a6 a7 a8) (SW m0 x (rH p q hs g)) = .ok (.ref (m0.length + 1 + 2 + g.length)) (SW m0 x1 (rH p q hs (g ++ [.lst (intsD rs)]))) := e1
    simp -implicitDefEqProofs only [evS, e1, thn_ok, bind, List.set_cons_succ, List.set_cons_zero, scut_nx, hk]
  obtain ⟨h, e2, hg⟩ := run_tup (cal := cal) (f := f) hd (m0 := m0) (x := x1) (p := p) (q := q) (hs := hs) (g := g) (a3 := a3) (a4 := a4) (a6 := a6) (a8 := a8) hz hr rfl
  have e3 := m_append (d := h) (rH_at (m0 := m0) (x := x1 / 4) (p := p) (q := q) (hs := hs) (g := g ++ [.lst (intsD rs), .lst [.str "b", .str "ask"]])) (by rw [line_eq0]; omega)
  rw [show m0.length + 2 = m0.length + 1 + 1 by omega, sw_setR] at e3
  have e4 : mthOk .append (.ref (m0.length + 2)) (SW m0 x1 (rH p q hs (g ++ [.lst (intsD rs)]))) = true := mth_ref rH_at
  have e5 : evE cal (.meth .append (.var 2) [wTup f]) (E9 m0 a3 a4 (some (.int z)) a6 (some (.ref (m0.length + 1 + 2 + g.length))) a8) (SW m0 x1 (rH p q hs (g ++ [.lst (intsD rs)]))) = .ok .non (SW m0 (x1 / 4) (rH p q (hs ++ [h]) (g ++ [.lst (intsD rs), .lst [.str "b", .str "ask"]]))) := by
    simp -implicitDefEqProofs only [evE, evEs, e2, Res.bind_ok, List.getElem?_cons_succ, List.getElem?_cons_zero, e4, if_true]
    exact e3
  have fin : ∀ m2 : Store, cutS (E9 m0 a3 a4 (some (.int z)) a6 (some (.ref (m0.length + 1 + 2 + g.length))) a8) (SW m0 x1 (rH p q hs (g ++ [.lst (intsD rs)]))) (E9 m0 a3 a4 (some (.int z)) a6 (some (.ref (m0.length + 1 + 2 + g.length))) a8) (SW m0 (x1 / 4) (rH p q (hs ++ [h]) (g ++ [.lst (intsD rs), .lst [.str "b", .str "ask"]]))) = m2 →
      evSs cal fl [.asg (.nm 7) (cmpHeld f), .expr (.meth .append (.var 2) [wTup f])] (E9 m0 a3 a4 (some (.int z)) a6 a7 a8) (SW m0 x (rH p q hs g)) = .nx (E9 m0 a3 a4 (some (.int z)) a6 (some (.ref (m0.length + 1 + 2 + g.length))) a8) m2 := fun m2 hm => by
    have s2 : evS cal fl (.expr (.meth .append (.var 2) [wTup f])) (E9 m0 a3 a4 (some (.int z)) a6 (some (.ref (m0.length + 1 + 2 + g.length))) a8) (SW m0 x1 (rH p q hs (g ++ [.lst (intsD rs)]))) = .nx (E9 m0 a3 a4 (some (.int z)) a6 (some (.ref (m0.length + 1 + 2 + g.length))) a8) m2 := by
      simp -implicitDefEqProofs only [evS, e5, thn_ok, scut_nx, hm]
    simp -implicitDefEqProofs only [evSs, s1, s2, sthn_nx]
  rcases cutS_two (E9 m0 a3 a4 (some (.int z)) a6 (some (.ref (m0.length + 1 + 2 + g.length))) a8) (E9 m0 a3 a4 (some (.int z)) a6 (some (.ref (m0.length + 1 + 2 + g.length))) a8) (SW m0 x1 (rH p q hs (g ++ [.lst (intsD rs)]))) (SW m0 (x1 / 4) (rH p q (hs ++ [h]) (g ++ [.lst (intsD rs), .lst [.str "b", .str "ask"]]))) with c | c
  · exact ⟨x1 / 4, h, _, fin _ c, hg, by simp⟩
  · refine ⟨x1 / 4, h, g ++ [.lst (intsD rs)], fin _ (c.trans ?_), hg, by simp⟩
    have : rH p q (hs ++ [h]) (g ++ [.lst (intsD rs), .lst [.str "b", .str "ask"]]) = rH p q (hs ++ [h]) (g ++ [.lst (intsD rs)]) ++ [.lst [.str "b", .str "ask"]] := by
      show _ = .lst [.int p, .int q] :: .lst (hs ++ [h]) :: ((g ++ [.lst (intsD rs)]) ++ [.lst [.str "b", .str "ask"]])
      rw [List.append_assoc]
      rfl
    rw [this]
    exact sw_take (by rw [sw_len]; simp)
end
end DV

/-! DvHands3: all hands of a world. -/
namespace DV
open PySem
section
variable {cal : Callee} {f fl : Nat} {m0 : Store} {x p q : Int} {hs : List D} {g : List MO} {a3 a4 a5 a6 a7 a8 : Option D}
/-- a slot's list stands in the store -/
def Low (a : Option D) (k : Nat) : Prop := ∀ n, a = some (.ref n) → n < k
theorem hand_turn (hd : Draws cal f) (hp : 0 ≤ p ∧ p ≤ 2) (hq : 0 ≤ q ∧ q ≤ 2) (hl : hs.length < 1000) (hg : ∀ h ∈ hs, GoodHand h) (h7 : Low a7 (m0.length + 1 + 2 + g.length)) :
    ∃ (b5 b7 : Option D) (x' : Int) (h : D) (g' : List MO), evSs cal fl (sHands f) (E9 m0 a3 a4 a5 a6 a7 a8) (SW m0 x (rH p q hs g)) = .nx (E9 m0 a3 a4 b5 a6 b7 a8) (SW m0 x' (rH p q (hs ++ [h]) g')) ∧ GoodHand h ∧ Low b7 (m0.length + 1 + 2 + g'.length) := by
  have hz : x % 2 = 0 ∨ x % 2 = 1 := by omega
  have s1 : evS cal fl (.asg (.nm 5) (.call f [(.var 0), (.lit (.int 2))])) (E9 m0 a3 a4 a5 a6 a7 a8) (SW m0 x (rH p q hs g)) = .nx (E9 m0 a3 a4 (some (.int (x % 2))) a6 a7 a8) (SW m0 (x / 2) (rH p q hs g)) := by
    have e : evE cal (.call f [(.var 0), (.lit (.int 2))]) (E9 m0 a3 a4 a5 a6 a7 a8) (SW m0 x (rH p q hs g)) = .ok (.int (x % 2)) (SW m0 (x / 2) (rH p q hs g)) := by
      simp -implicitDefEqProofs only [evE, evEs, Res.bind_ok, List.getElem?_cons_succ, List.getElem?_cons_zero, hd.sw (show 0 < (2 : Int) ∧ (2 : Int) < 1073741824 by decide)]
    have hk : ∀ e0 e1 : Env, cutS e0 (SW m0 x (rH p q hs g)) e1 (SW m0 (x / 2) (rH p q hs g)) = SW m0 (x / 2) (rH p q hs g) := fun _ _ => cutS_le (by rw [sw_len, sw_len]; exact Nat.le_refl _)
    simp -implicitDefEqProofs only [evS, e, thn_ok, bind, List.set_cons_succ, List.set_cons_zero, scut_nx, hk]
  obtain ⟨b, x1, e1, hb⟩ := run_cond (cal := cal) (f := f) hd (m0 := m0) (x := x / 2) (p := p) (q := q) (hs := hs) (g := g) (a3 := a3) (a4 := a4) (a5 := some (.int (x % 2))) (a6 := a6) (a7 := a7) (a8 := a8)
  cases b with
  | true =>
    obtain ⟨x2, h, e2, hm⟩ := run_copy (cal := cal) (f := f) hd (m0 := m0) (x := x1) (p := p) (q := q) (hs := hs) (g := g) (a3 := a3) (a4 := a4) (a5 := some (.int (x % 2))) (a6 := a6) (a7 := a7) (a8 := a8) (hb rfl) hl
    refine ⟨some (.int (x % 2)), a7, x2, h, g, ?_, hg h hm, h7⟩
    have hk : ∀ (e0 e1 : Env) (y : Int), cutS e0 (SW m0 y (rH p q hs g)) e1 (SW m0 x2 (rH p q (hs ++ [h]) g)) = SW m0 x2 (rH p q (hs ++ [h]) g) := fun _ _ _ => cutS_le (by rw [sw_len, sw_len]; exact Nat.le_refl _)
    have s2 : evS cal fl (.iff (wCond f) [.expr (wCopy f)] [.asg (.nm 7) (cmpHeld f), .expr (.meth .append (.var 2) [wTup f])]) (E9 m0 a3 a4 (some (.int (x % 2))) a6 a7 a8) (SW m0 (x / 2) (rH p q hs g)) = .nx (E9 m0 a3 a4 (some (.int (x % 2))) a6 a7 a8) (SW m0 x2 (rH p q (hs ++ [h]) g)) := by
      simp -implicitDefEqProofs only [evS, evSs, e1, e2, thn_ok, if_true, scut_nx, sthn_nx, hk]
    unfold sHands
    simp -implicitDefEqProofs only [evSs, s1, s2, sthn_nx]
  | false =>
    obtain ⟨x2, h, g', e2, gh, gl⟩ := run_else (cal := cal) (f := f) (fl := fl) hd (m0 := m0) (x := x1) (p := p) (q := q) (hs := hs) (g := g) (a3 := a3) (a4 := a4) (a6 := a6) (a7 := a7) (a8 := a8) hz hp hq hl h7
    refine ⟨some (.int (x % 2)), some (.ref (m0.length + 1 + 2 + g.length)), x2, h, g', ?_, gh, fun n e => by cases e; omega⟩
    have hk : cutS (E9 m0 a3 a4 (some (.int (x % 2))) a6 a7 a8) (SW m0 (x / 2) (rH p q hs g)) (E9 m0 a3 a4 (some (.int (x % 2))) a6 (some (.ref (m0.length + 1 + 2 + g.length))) a8) (SW m0 x2 (rH p q (hs ++ [h]) g')) = SW m0 x2 (rH p q (hs ++ [h]) g') := by
      refine cutS_stay (envOk_no (d := .ref (m0.length + 1 + 2 + g.length)) 7 rfl (fun e => ?_) ?_)
      · have e : some a7 = some (some (.ref (m0.length + 1 + 2 + g.length))) := e
        exact absurd (h7 _ (Option.some.inj e)) (Nat.lt_irrefl _)
      · rw [D.bnd]
        exact decide_eq_false (by rw [sw_len]; simp; omega)
    have s2 : evS cal fl (.iff (wCond f) [.expr (wCopy f)] [.asg (.nm 7) (cmpHeld f), .expr (.meth .append (.var 2) [wTup f])]) (E9 m0 a3 a4 (some (.int (x % 2))) a6 a7 a8) (SW m0 (x / 2) (rH p q hs g)) = .nx (E9 m0 a3 a4 (some (.int (x % 2))) a6 (some (.ref (m0.length + 1 + 2 + g.length))) a8) (SW m0 x2 (rH p q (hs ++ [h]) g')) := by
      generalize hT : [IS.asg (.nm 7) (cmpHeld f), .expr (.meth .append (.var 2) [wTup f])] = T at e2
      simp -implicitDefEqProofs only [evS, e1, e2, thn_ok, Bool.false_eq_true, if_false, scut_nx, hk]
    unfold sHands
    simp -implicitDefEqProofs only [evSs, s1, s2, sthn_nx]
/-- the loop over hands -/
theorem hands_loop (hd : Draws cal f) (hp : 0 ≤ p ∧ p ≤ 2) (hq : 0 ≤ q ∧ q ≤ 2) (n : Nat) (hn : n ≤ 900) :
    ∃ (b3 b5 b7 : Option D) (x' : Int) (hs : List D) (g : List MO), forGo (fun env d => bind env (.nm 3) d) (fun env m => evSs cal fl (sHands f) env m) none (rngD n) (E9 m0 none none none none none none) (SW m0 x (rH p q [] [])) = .nx (E9 m0 b3 none b5 none b7 none) (SW m0 x' (rH p q hs g)) ∧ hs.length = n ∧ ∀ h ∈ hs, GoodHand h := by
  obtain ⟨env2, m2, e1, b3, b5, b7, x', hs, g, rfl, rfl, hl, hg, _⟩ := forGo_inv (bnd := fun env d => bind env (.nm 3) d) (body := fun env m => evSs cal fl (sHands f) env m) (w := none)
    (fun i env m => ∃ (b3 b5 b7 : Option D) (x' : Int) (hs : List D) (g : List MO), env = E9 m0 b3 none b5 none b7 none ∧ m = SW m0 x' (rH p q hs g) ∧ hs.length = i ∧ (∀ h ∈ hs, GoodHand h) ∧ Low b7 (m0.length + 1 + 2 + g.length)) n (rngD n) 0 (E9 m0 none none none none none none) (SW m0 x (rH p q [] []))
    ⟨none, none, none, x, [], [], rfl, rfl, rfl, (fun h hh => by cases hh), (fun k e => by cases e)⟩ (by simp) fun j d env m hd0 hj hP => by
      obtain ⟨c3, c5, c7, y, ks, g, rfl, rfl, hl, hg, h7⟩ := hP
      obtain ⟨d5, d7, y', h, g', e, gh, l7⟩ := hand_turn (cal := cal) (f := f) (fl := fl) hd (m0 := m0) (x := y) (p := p) (q := q) (hs := ks) (g := g) (a3 := some d) (a4 := none) (a5 := c5) (a6 := none) (a7 := c7) (a8 := none) hp hq (by omega) hg h7
      refine ⟨_, _, _, rfl, e, by simp only [kept], some d, d5, d7, y', ks ++ [h], g', rfl, rfl, by simp [hl], fun k hk => ?_, l7⟩
      rcases List.mem_append.mp hk with z | z
      · exact hg k z
      · rw [List.mem_singleton.mp z]; exact gh
  exact ⟨b3, b5, b7, x', hs, g, e1, hl, hg⟩
end
end DV

/-! DvLoads: a world's roads drawn by digits. -/
namespace DV
open PySem
def letD (p : Str × Int) : D := .tup [.str p.1, .int p.2]
def GoodLoad (d : D) : Prop := ∃ ls : List (Str × Int), d = .tup (ls.map letD) ∧ ls.length ≤ 2
def eltLet (f : Nat) : IE := .tup [(.idx (.lst [(.lit (.str "x")), (.lit (.str "y"))]) (.call f [(.var 0), (.lit (.int 2))])), (.call f [(.var 0), (.lit (.int 3))])]
def cmpLet (f : Nat) : IE := .comp (eltLet f) (.nm 8) [8] .rng1 [(.call f [(.var 0), (.lit (.int 3))])] []
theorem cutE_two (d : D) (m m1 : Store) : cutE m d m1 = m1 ∨ cutE m d m1 = m1.take m.length := by
  unfold cutE
  split
  · exact .inl rfl
  · split
    · exact .inr rfl
    · exact .inl rfl
section
variable {cal : Callee} {f fl : Nat} {m0 : Store}
theorem run_let (hd : Draws cal f) {y : Int} {R : List MO} {env : Env} (h0 : env[0]? = some (some (.ref m0.length))) : ∃ (nm : Str) (c y' : Int), evE cal (eltLet f) env (SW m0 y R) = .ok (letD (nm, c)) (SW m0 y' (R ++ [.lst [.str "x", .str "y"]])) := by
  obtain ⟨k, nm, hk, hnm⟩ : ∃ (k : Nat) (nm : Str), y % 2 = (k : Int) ∧ ([D.str "x", D.str "y"] : List D)[k]? = some (.str nm) := by
    rcases (show y % 2 = 0 ∨ y % 2 = 1 by omega) with e | e
    · exact ⟨0, "x", e, rfl⟩
    · exact ⟨1, "y", e, rfl⟩
  refine ⟨nm, y / 2 % 3, y / 2 / 3, ?_⟩
  have hS : SW m0 y R ++ [.lst [.str "x", .str "y"]] = SW m0 y (R ++ [.lst [.str "x", .str "y"]]) := sw_app
  have hat : (SW m0 (y / 2) (R ++ [.lst [.str "x", .str "y"]]))[(SW m0 y R).length]? = some (.lst [.str "x", .str "y"]) := by
    rw [← sw_app, show (SW m0 y R).length = (SW m0 (y / 2) R).length by rw [sw_len, sw_len]]
    exact at_new
  have e0 : evE cal (.call f [(.var 0), (.lit (.int 2))]) env (SW m0 y (R ++ [.lst [.str "x", .str "y"]])) = .ok (.int (k : Int)) (SW m0 (y / 2) (R ++ [.lst [.str "x", .str "y"]])) := by
    simp -implicitDefEqProofs only [evE, evEs, Res.bind_ok, h0, hd.sw (show 0 < (2 : Int) ∧ (2 : Int) < 1073741824 by decide), hk]
  have e1 : evE cal (.idx (.lst [(.lit (.str "x")), (.lit (.str "y"))]) (.call f [(.var 0), (.lit (.int 2))])) env (SW m0 y R) = .ok (.str nm) (SW m0 (y / 2) (R ++ [.lst [.str "x", .str "y"]])) := by
    generalize hA : IE.call f [(.var 0), (.lit (.int 2))] = A at e0
    simp -implicitDefEqProofs only [evE, evEs, Res.bind_ok, hS, e0]
    exact i_ref hat hnm
  have e2 : evE cal (.call f [(.var 0), (.lit (.int 3))]) env (SW m0 (y / 2) (R ++ [.lst [.str "x", .str "y"]])) = .ok (.int (y / 2 % 3)) (SW m0 (y / 2 / 3) (R ++ [.lst [.str "x", .str "y"]])) := by
    simp -implicitDefEqProofs only [evE, evEs, Res.bind_ok, h0, hd.sw (show 0 < (3 : Int) ∧ (3 : Int) < 1073741824 by decide)]
  unfold eltLet
  generalize hA : IE.idx (.lst [(.lit (.str "x")), (.lit (.str "y"))]) (.call f [(.var 0), (.lit (.int 2))]) = A at e1
  generalize hB : IE.call f [(.var 0), (.lit (.int 3))] = B at e2
  simp -implicitDefEqProofs only [evE, evEs, e1, e2, Res.bind_ok]
  rfl
variable {x : Int} {r g : List MO} {lds : List D} {a1 a2 a3 a5 a6 a7 a8 : Option D}
abbrev E9L (m0 : Store) (r : List MO) (a1 a2 a3 a5 a6 a7 a8 : Option D) : Env := [some (.ref m0.length), a1, a2, a3, some (.ref (m0.length + 1 + r.length)), a5, a6, a7, a8]
theorem run_letters (hd : Draws cal f) : ∃ (x' : Int) (ls : List (Str × Int)) (g' : List MO), evE cal (cmpLet f) (E9L m0 r a1 a2 a3 a5 a6 a7 a8) (SW m0 x (r ++ .lst lds :: g)) =
      .ok (.ref (m0.length + 1 + r.length + 1 + g'.length)) (SW m0 x' (r ++ .lst lds :: (g' ++ [.lst (ls.map letD)]))) ∧ ls.length ≤ 2 ∧ g.length ≤ g'.length := by
  obtain ⟨n, hn, hn2⟩ : ∃ n : Nat, x % 3 = (n : Int) ∧ n ≤ 2 := ⟨(x % 3).toNat, by omega, by omega⟩
  have hsrc : evEs cal [(.call f [(.var 0), (.lit (.int 3))])] (E9L m0 r a1 a2 a3 a5 a6 a7 a8) (SW m0 x (r ++ .lst lds :: g)) = .ok [.int (n : Int)] (SW m0 (x / 3) (r ++ .lst lds :: g)) := by
    simp -implicitDefEqProofs only [evEs, evE, Res.bind_ok, List.getElem?_cons_zero, hd.sw (show 0 < (3 : Int) ∧ (3 : Int) < 1073741824 by decide), hn]
  obtain ⟨acc, m2, e1, x', ls, g', rfl, rfl, e2, e3⟩ := ev_comp_run (cal := cal) (elt := eltLet f) (tg := .nm 8) (own := [8])
    (fun j acc m => ∃ (y : Int) (ls : List (Str × Int)) (g' : List MO), m = SW m0 y (r ++ .lst lds :: g') ∧ acc = ls.map letD ∧ ls.length = j ∧ g.length ≤ g'.length) hsrc (by omega) ⟨x / 3, [], g, rfl, rfl, rfl, Nat.le_refl _⟩ fun j k acc m hj hP => by
      obtain ⟨y, ls, g', rfl, rfl, hl, hg⟩ := hP
      obtain ⟨nm, c, y', e⟩ := run_let (cal := cal) (f := f) hd (m0 := m0) (y := y) (R := r ++ .lst lds :: g') (env := (wipe (E9L m0 r a1 a2 a3 a5 a6 a7 a8) [8]).set 8 (some (.int (k : Int)))) rfl
      refine ⟨by rw [List.length_map, line_eq0]; omega, _, letD (nm, c), _, rfl, e, ?_⟩
      have hA : r ++ .lst lds :: g' ++ [.lst [.str "x", .str "y"]] = r ++ .lst lds :: (g' ++ [.lst [.str "x", .str "y"]]) := by rw [List.append_assoc]; rfl
      rcases cutE_two (.tup (letD (nm, c) :: ls.map letD)) (SW m0 y (r ++ .lst lds :: g')) (SW m0 y' (r ++ .lst lds :: g' ++ [.lst [.str "x", .str "y"]])) with q | q
      · exact ⟨y', ls ++ [(nm, c)], g' ++ [.lst [.str "x", .str "y"]], by rw [q, hA], by simp, by simp [hl], by simp; omega⟩
      · exact ⟨y', ls ++ [(nm, c)], g', by rw [q, sw_take (by rw [sw_len])], by simp, by simp [hl], hg⟩
  refine ⟨x', ls, g', ?_, by omega, e3⟩
  unfold cmpLet
  rw [e1, sw_app, sw_len]
  have h1 : m0.length + 1 + (r ++ MO.lst lds :: g').length = m0.length + 1 + r.length + 1 + g'.length := by simp; omega
  have h2 : r ++ MO.lst lds :: g' ++ [.lst (ls.map letD)] = r ++ .lst lds :: (g' ++ [.lst (ls.map letD)]) := by rw [List.append_assoc]; rfl
  rw [h1, h2]
end
end DV

/-! DvLoads2: all roads of a world; the world. -/
namespace DV
open PySem
section
variable {cal : Callee} {f fl : Nat} {m0 : Store} {x : Int} {r g : List MO} {lds : List D} {a1 a2 a3 a5 a6 a7 a8 : Option D}
theorem lds_at : (SW m0 x (r ++ .lst lds :: g))[m0.length + 1 + r.length]? = some (.lst lds) := by
  rw [sw_rest, List.getElem?_append_right (Nat.le_refl _), Nat.sub_self]; rfl
theorem lds_set {d : MO} : (SW m0 x (r ++ .lst lds :: g)).set (m0.length + 1 + r.length) d = SW m0 x (r ++ d :: g) := by
  rw [sw_setR, List.set_append_right _ _ (Nat.le_refl _), Nat.sub_self]; rfl
def sLoads (f : Nat) : List IS := [.asg (.nm 6) (cmpLet f), .expr (.meth .append (.var 4) [(.blt .tuple [(.var 6)])])]
theorem load_turn (hd : Draws cal f) (hl : lds.length < 1000) (h6 : Low a6 (m0.length + 1 + r.length + 1 + g.length)) :
    ∃ (b6 : Option D) (x' : Int) (h : D) (g' : List MO), evSs cal fl (sLoads f) (E9L m0 r a1 a2 a3 a5 a6 a7 a8) (SW m0 x (r ++ .lst lds :: g)) = .nx (E9L m0 r a1 a2 a3 a5 b6 a7 a8) (SW m0 x' (r ++ .lst (lds ++ [h]) :: g')) ∧ GoodLoad h ∧ Low b6 (m0.length + 1 + r.length + 1 + g'.length) := by
  obtain ⟨x1, ls, g', e1, h2, hg⟩ := run_letters (cal := cal) (f := f) hd (m0 := m0) (x := x) (r := r) (g := g) (lds := lds) (a1 := a1) (a2 := a2) (a3 := a3) (a5 := a5) (a6 := a6) (a7 := a7) (a8 := a8)
  have hk : cutS (E9L m0 r a1 a2 a3 a5 a6 a7 a8) (SW m0 x (r ++ .lst lds :: g)) (E9L m0 r a1 a2 a3 a5 (some (.ref (m0.length + 1 + r.length + 1 + g'.length))) a7 a8) (SW m0 x1 (r ++ .lst lds :: (g' ++ [.lst (ls.map letD)]))) = SW m0 x1 (r ++ .lst lds :: (g' ++ [.lst (ls.map letD)])) := by
    refine cutS_stay (envOk_no (d := .ref (m0.length + 1 + r.length + 1 + g'.length)) 6 rfl (fun e => ?_) ?_)
    · have e : some a6 = some (some (.ref (m0.length + 1 + r.length + 1 + g'.length))) := e
      have := h6 _ (Option.some.inj e)
      omega
    · rw [D.bnd]
      exact decide_eq_false (by rw [sw_len]; simp; omega)
  have s1 : evS cal fl (.asg (.nm 6) (cmpLet f)) (E9L m0 r a1 a2 a3 a5 a6 a7 a8) (SW m0 x (r ++ .lst lds :: g)) = .nx (E9L m0 r a1 a2 a3 a5 (some (.ref (m0.length + 1 + r.length + 1 + g'.length))) a7 a8) (SW m0 x1 (r ++ .lst lds :: (g' ++ [.lst (ls.map letD)]))) := by
    simp -implicitDefEqProofs only [evS, e1, thn_ok, bind, List.set_cons_succ, List.set_cons_zero, scut_nx, hk]
  have hat : (SW m0 x1 (r ++ .lst lds :: (g' ++ [.lst (ls.map letD)])))[m0.length + 1 + r.length + 1 + g'.length]? = some (.lst (ls.map letD)) := by
    have := sw_rest (m0 := m0) (x := x1) (r := r ++ .lst lds :: (g' ++ [.lst (ls.map letD)])) (r.length + 1 + g'.length)
    rw [show m0.length + 1 + r.length + 1 + g'.length = m0.length + 1 + (r.length + 1 + g'.length) by omega, this, List.getElem?_append_right (by omega), show r.length + 1 + g'.length - r.length = g'.length + 1 by omega, List.getElem?_cons_succ,
      List.getElem?_append_right (Nat.le_refl _), Nat.sub_self]
    rfl
  have e3 := m_append (d := .tup (ls.map letD)) (lds_at (m0 := m0) (x := x1) (r := r) (lds := lds) (g := g' ++ [.lst (ls.map letD)])) (by rw [line_eq0]; omega)
  rw [lds_set] at e3
  have e4 : mthOk .append (.ref (m0.length + 1 + r.length)) (SW m0 x1 (r ++ .lst lds :: (g' ++ [.lst (ls.map letD)]))) = true := mth_ref lds_at
  have e5 : evE cal (.meth .append (.var 4) [(.blt .tuple [(.var 6)])]) (E9L m0 r a1 a2 a3 a5 (some (.ref (m0.length + 1 + r.length + 1 + g'.length))) a7 a8) (SW m0 x1 (r ++ .lst lds :: (g' ++ [.lst (ls.map letD)]))) = .ok .non (SW m0 x1 (r ++ .lst (lds ++ [.tup (ls.map letD)]) :: (g' ++ [.lst (ls.map letD)]))) := by
    simp -implicitDefEqProofs only [evE, evEs, Res.bind_ok, List.getElem?_cons_succ, List.getElem?_cons_zero, tuple_ref hat, e4, if_true]
    exact e3
  have hk2 : ∀ e0 e1 : Env, cutS e0 (SW m0 x1 (r ++ .lst lds :: (g' ++ [.lst (ls.map letD)]))) e1 (SW m0 x1 (r ++ .lst (lds ++ [.tup (ls.map letD)]) :: (g' ++ [.lst (ls.map letD)]))) = SW m0 x1 (r ++ .lst (lds ++ [.tup (ls.map letD)]) :: (g' ++ [.lst (ls.map letD)])) := fun _ _ => cutS_le (by rw [sw_len, sw_len]; simp)
  refine ⟨some (.ref (m0.length + 1 + r.length + 1 + g'.length)), x1, .tup (ls.map letD), g' ++ [.lst (ls.map letD)], ?_, ⟨ls, rfl, h2⟩, fun n e => by cases e; simp⟩
  unfold sLoads
  have s2 : evS cal fl (.expr (.meth .append (.var 4) [(.blt .tuple [(.var 6)])])) (E9L m0 r a1 a2 a3 a5 (some (.ref (m0.length + 1 + r.length + 1 + g'.length))) a7 a8) (SW m0 x1 (r ++ .lst lds :: (g' ++ [.lst (ls.map letD)]))) = .nx (E9L m0 r a1 a2 a3 a5 (some (.ref (m0.length + 1 + r.length + 1 + g'.length))) a7 a8) (SW m0 x1 (r ++ .lst (lds ++ [.tup (ls.map letD)]) :: (g' ++ [.lst (ls.map letD)]))) := by
    simp -implicitDefEqProofs only [evS, e5, thn_ok, scut_nx, hk2]
  simp -implicitDefEqProofs only [evSs, s1, s2, sthn_nx]
theorem loads_loop (hd : Draws cal f) (n : Nat) (hn : n ≤ 900) :
    ∃ (b3 b6 : Option D) (x' : Int) (lds : List D) (g : List MO), forGo (fun env d => bind env (.nm 3) d) (fun env m => evSs cal fl (sLoads f) env m) none (rngD n) (E9L m0 r a1 a2 a3 a5 none a7 a8) (SW m0 x (r ++ .lst [] :: [])) = .nx (E9L m0 r a1 a2 b3 a5 b6 a7 a8) (SW m0 x' (r ++ .lst lds :: g)) ∧ lds.length = n ∧ ∀ h ∈ lds, GoodLoad h := by
  obtain ⟨env2, m2, e1, b3, b6, x', lds, g, rfl, rfl, hl, hg, _⟩ := forGo_inv (bnd := fun env d => bind env (.nm 3) d) (body := fun env m => evSs cal fl (sLoads f) env m) (w := none)
    (fun i env m => ∃ (b3 b6 : Option D) (x' : Int) (lds : List D) (g : List MO), env = E9L m0 r a1 a2 b3 a5 b6 a7 a8 ∧ m = SW m0 x' (r ++ .lst lds :: g) ∧ lds.length = i ∧ (∀ h ∈ lds, GoodLoad h) ∧ Low b6 (m0.length + 1 + r.length + 1 + g.length)) n (rngD n) 0 (E9L m0 r a1 a2 a3 a5 none a7 a8) (SW m0 x (r ++ .lst [] :: []))
    ⟨a3, none, x, [], [], rfl, rfl, rfl, (fun h hh => by cases hh), (fun k e => by cases e)⟩ (by simp) fun j d env m hd0 hj hP => by
      obtain ⟨c3, c6, y, ks, g, rfl, rfl, hl, hg, h6⟩ := hP
      obtain ⟨d6, y', h, g', e, gh, l6⟩ := load_turn (cal := cal) (f := f) (fl := fl) hd (m0 := m0) (x := y) (r := r) (g := g) (lds := ks) (a1 := a1) (a2 := a2) (a3 := some d) (a5 := a5) (a6 := c6) (a7 := a7) (a8 := a8) (by omega) h6
      refine ⟨_, _, _, rfl, e, by simp only [kept], some d, d6, y', ks ++ [h], g', rfl, rfl, by simp [hl], fun k hk => ?_, l6⟩
      rcases List.mem_append.mp hk with z | z
      · exact hg k z
      · rw [List.mem_singleton.mp z]; exact gh
  exact ⟨b3, b6, x', lds, g, e1, hl, hg⟩
end

/-! ### what is drawn is plain -/
theorem plain_ints (k : Nat) (rs : List Int) (h : rs.length ≤ 1000) : plainD (k + 1) (.tup (intsD rs)) = true := by
  simp only [plainD, Bool.and_eq_true, List.all_eq_true, decide_eq_true_eq]
  refine ⟨fun d hd => ?_, by simp [intsD, h]⟩
  obtain ⟨i, _, rfl⟩ := List.mem_map.mp hd
  cases k <;> simp [plainD]
theorem plain_row {k n : Nat} {hs : List D} (h : ∀ d ∈ hs, plainD k d = true) (hl : hs.length ≤ 1000) : plainD (k + 1) (.tup hs) = true := by
  simp only [plainD, Bool.and_eq_true, List.all_eq_true, decide_eq_true_eq]
  exact ⟨h, hl⟩
theorem GoodHand.plain {d : D} (h : GoodHand d) : plainD 2 d = true := by
  obtain ⟨r, s, rs, rfl, _, hl⟩ := h
  refine plain_row (n := 0) (fun d hd => ?_) (by simp)
  rcases List.mem_cons.mp hd with rfl | hd
  · simp [plainD]
  rcases List.mem_cons.mp hd with rfl | hd
  · simp [plainD]
  · rw [List.mem_singleton.mp hd]
    exact plain_ints 0 rs (by omega)
theorem GoodLoad.plain {d : D} (h : GoodLoad d) : plainD 2 d = true := by
  obtain ⟨ls, rfl, hl⟩ := h
  simp only [plainD, Bool.and_eq_true, List.all_eq_true, decide_eq_true_eq]
  refine ⟨fun d hd => ?_, by simp; omega⟩
  obtain ⟨p, _, rfl⟩ := List.mem_map.mp hd
  simp [letD, plainD]
/-! ### a world -/
def cWorld (f : Nat) : List IS := [.asg (.nm 1) (.lst [(.call f [(.var 0), (.lit (.int 3))]), (.call f [(.var 0), (.lit (.int 3))])]), .asg (.nm 2) (.lst []), .forr (.nm 3) .rng1 [(.bin .add (.lit (.int 1)) (.call f [(.var 0), (.lit (.int 6))]))] (sHands f), .asg (.nm 4) (.lst []),
  .forr (.nm 3) .rng1 [(.call f [(.var 0), (.lit (.int 3))])] (sLoads f), .ret (.tup [(.blt .tuple [(.var 2)]), (.blt .tuple [(.var 4)])])]
theorem for_any {cal : Callee} {fl n : Nat} {srcs : List IE} {body : List IS} {i : Nat} {env env2 : Env} {m m1 m2 : Store} (h1 : evEs cal srcs env m = .ok [.int (n : Int)] m1) (hn : n ≤ 1000000) (h2 : forGo (fun env d => bind env (.nm i) d) (fun env m => evSs cal fl body env m) none (rngD n) env m1 = .nx env2 m2) :
    evS cal fl (.forr (.nm i) .rng1 srcs body) env m = .nx env2 (cutS env m env2 m2) := by
  simp -implicitDefEqProofs only [evS, h1, thn_ok, src_rng hn]
  rw [h2, scut_nx]
section
variable {cal : Callee} {f fl : Nat} {m0 : Store} {x : Int}
theorem run_world (hd : Draws cal f) : ∃ (hs lds : List D) (x' : Int), runD cal fl ⟨1, 9, cWorld f⟩ [.ref m0.length] (SW m0 x []) = .ok (.tup [.tup hs, .tup lds]) (SW m0 x' []) ∧ hs ≠ [] ∧ hs.length ≤ 6 ∧ (∀ h ∈ hs, GoodHand h) ∧ lds.length ≤ 2 ∧ ∀ l ∈ lds, GoodLoad l := by
  have d3 : 0 < (3 : Int) ∧ (3 : Int) < 1073741824 := by decide
  have d6 : 0 < (6 : Int) ∧ (6 : Int) < 1073741824 := by decide
  -- many
  have s1 : evS cal fl (.asg (.nm 1) (.lst [(.call f [(.var 0), (.lit (.int 3))]), (.call f [(.var 0), (.lit (.int 3))])])) [some (.ref m0.length), none, none, none, none, none, none, none, none] (SW m0 x []) =
      .nx [some (.ref m0.length), some (.ref (m0.length + 1)), none, none, none, none, none, none, none] (SW m0 (x / 3 / 3) [.lst [.int (x % 3), .int (x / 3 % 3)]]) := by
    have e : evE cal (.lst [(.call f [(.var 0), (.lit (.int 3))]), (.call f [(.var 0), (.lit (.int 3))])]) [some (.ref m0.length), none, none, none, none, none, none, none, none] (SW m0 x []) = .ok (.ref (m0.length + 1)) (SW m0 (x / 3 / 3) [.lst [.int (x % 3), .int (x / 3 % 3)]]) := by
      simp -implicitDefEqProofs only [evE, evEs, Res.bind_ok, List.getElem?_cons_zero, hd.sw d3, sw_app, sw_len, List.nil_append, List.length_nil, Nat.add_zero]
    have hk : cutS [some (.ref m0.length), none, none, none, none, none, none, none, none] (SW m0 x []) [some (.ref m0.length), some (.ref (m0.length + 1)), none, none, none, none, none, none, none] (SW m0 (x / 3 / 3) [.lst [.int (x % 3), .int (x / 3 % 3)]]) = SW m0 (x / 3 / 3) [.lst [.int (x % 3), .int (x / 3 % 3)]] :=
      cutS_stay (envOk_no (d := .ref (m0.length + 1)) 1 rfl (by simp) (by rw [D.bnd]; exact decide_eq_false (by rw [sw_len]; simp)))
    simp -implicitDefEqProofs only [evS, e, thn_ok, bind, List.set_cons_succ, List.set_cons_zero, scut_nx, hk]
  have s2 : ∀ y : Int, evS cal fl (.asg (.nm 2) (.lst [])) [some (.ref m0.length), some (.ref (m0.length + 1)), none, none, none, none, none, none, none] (SW m0 y [.lst [.int (x % 3), .int (x / 3 % 3)]]) = .nx (E9 m0 none none none none none none) (SW m0 y (rH (x % 3) (x / 3 % 3) [] [])) := fun y => by
    have e : evE cal (.lst []) [some (.ref m0.length), some (.ref (m0.length + 1)), none, none, none, none, none, none, none] (SW m0 y [.lst [.int (x % 3), .int (x / 3 % 3)]]) = .ok (.ref (m0.length + 2)) (SW m0 y (rH (x % 3) (x / 3 % 3) [] [])) := by
      simp -implicitDefEqProofs only [evE, evEs, Res.bind_ok, sw_app, sw_len, List.length_cons, List.length_nil]
      rfl
    have hk : cutS [some (.ref m0.length), some (.ref (m0.length + 1)), none, none, none, none, none, none, none] (SW m0 y [.lst [.int (x % 3), .int (x / 3 % 3)]]) (E9 m0 none none none none none none) (SW m0 y (rH (x % 3) (x / 3 % 3) [] [])) = SW m0 y (rH (x % 3) (x / 3 % 3) [] []) :=
      cutS_stay (envOk_no (d := .ref (m0.length + 2)) 2 rfl (by simp) (by rw [D.bnd]; exact decide_eq_false (by rw [sw_len]; simp)))
    simp -implicitDefEqProofs only [evS, e, thn_ok, bind, List.set_cons_succ, List.set_cons_zero, scut_nx, hk]
  -- hands
  obtain ⟨n1, hn1, hn1a, hn1b⟩ : ∃ n : Nat, 1 + x / 3 / 3 % 6 = (n : Int) ∧ 1 ≤ n ∧ n ≤ 6 := ⟨(1 + x / 3 / 3 % 6).toNat, by omega, by omega, by omega⟩
  have src1 : evEs cal [(.bin .add (.lit (.int 1)) (.call f [(.var 0), (.lit (.int 6))]))] (E9 m0 none none none none none none) (SW m0 (x / 3 / 3) (rH (x % 3) (x / 3 % 3) [] [])) = .ok [.int (n1 : Int)] (SW m0 (x / 3 / 3 / 6) (rH (x % 3) (x / 3 % 3) [] [])) := by
    simp -implicitDefEqProofs only [evE, evEs, Res.bind_ok, List.getElem?_cons_zero, hd.sw d6, b_add, hn1]
  obtain ⟨b3, b5, b7, x1, hs, g, l1, hl, hg⟩ := hands_loop (cal := cal) (f := f) (fl := fl) hd (m0 := m0) (x := x / 3 / 3 / 6) (p := x % 3) (q := x / 3 % 3) (by omega) (by omega) n1 (by omega)
  have s3 := for_any (i := 3) src1 (by omega) l1
  obtain ⟨g1, c1⟩ : ∃ g1, cutS (E9 m0 none none none none none none) (SW m0 (x / 3 / 3) (rH (x % 3) (x / 3 % 3) [] [])) (E9 m0 b3 none b5 none b7 none) (SW m0 x1 (rH (x % 3) (x / 3 % 3) hs g)) = SW m0 x1 (rH (x % 3) (x / 3 % 3) hs g1) := by
    rcases cutS_two (E9 m0 none none none none none none) (E9 m0 b3 none b5 none b7 none) (SW m0 (x / 3 / 3) (rH (x % 3) (x / 3 % 3) [] [])) (SW m0 x1 (rH (x % 3) (x / 3 % 3) hs g)) with c | c
    · exact ⟨g, c⟩
    · refine ⟨[], c.trans ?_⟩
      exact sw_take (r := rH (x % 3) (x / 3 % 3) hs []) (t := g) (by rw [sw_len]; simp)
  rw [c1] at s3
  obtain ⟨r, hr⟩ : ∃ r, r = rH (x % 3) (x / 3 % 3) hs g1 := ⟨_, rfl⟩
  rw [← hr] at s3
  have s4 : evS cal fl (.asg (.nm 4) (.lst [])) (E9 m0 b3 none b5 none b7 none) (SW m0 x1 r) = .nx (E9L m0 r (some (.ref (m0.length + 1))) (some (.ref (m0.length + 2))) b3 b5 none b7 none) (SW m0 x1 (r ++ .lst [] :: [])) := by
    have e : evE cal (.lst []) (E9 m0 b3 none b5 none b7 none) (SW m0 x1 r) = .ok (.ref (m0.length + 1 + r.length)) (SW m0 x1 (r ++ .lst [] :: [])) := by
      simp -implicitDefEqProofs only [evE, evEs, Res.bind_ok, sw_app, sw_len]
    have hk : cutS (E9 m0 b3 none b5 none b7 none) (SW m0 x1 r) (E9L m0 r (some (.ref (m0.length + 1))) (some (.ref (m0.length + 2))) b3 b5 none b7 none) (SW m0 x1 (r ++ .lst [] :: [])) = SW m0 x1 (r ++ .lst [] :: []) :=
      cutS_stay (envOk_no (d := .ref (m0.length + 1 + r.length)) 4 rfl (by simp) (by rw [D.bnd]; exact decide_eq_false (by rw [sw_len]; omega)))
    simp -implicitDefEqProofs only [evS, e, thn_ok, bind, List.set_cons_succ, List.set_cons_zero, scut_nx, hk]
  -- roads
  obtain ⟨n2, hn2, hn2b⟩ : ∃ n : Nat, x1 % 3 = (n : Int) ∧ n ≤ 2 := ⟨(x1 % 3).toNat, by omega, by omega⟩
  have src2 : evEs cal [(.call f [(.var 0), (.lit (.int 3))])] (E9L m0 r (some (.ref (m0.length + 1))) (some (.ref (m0.length + 2))) b3 b5 none b7 none) (SW m0 x1 (r ++ .lst [] :: [])) = .ok [.int (n2 : Int)] (SW m0 (x1 / 3) (r ++ .lst [] :: [])) := by
    simp -implicitDefEqProofs only [evE, evEs, Res.bind_ok, List.getElem?_cons_zero, hd.sw d3, hn2]
  obtain ⟨c3, b6, x2, lds, g2, l2, hl2, hg2⟩ := loads_loop (cal := cal) (f := f) (fl := fl) hd (m0 := m0) (x := x1 / 3) (r := r) (a1 := some (.ref (m0.length + 1))) (a2 := some (.ref (m0.length + 2))) (a3 := b3) (a5 := b5) (a7 := b7) (a8 := none) n2 (by omega)
  have s5 := for_any (i := 3) src2 (by omega) l2
  obtain ⟨g3, c2⟩ : ∃ g3, cutS (E9L m0 r (some (.ref (m0.length + 1))) (some (.ref (m0.length + 2))) b3 b5 none b7 none) (SW m0 x1 (r ++ .lst [] :: [])) (E9L m0 r (some (.ref (m0.length + 1))) (some (.ref (m0.length + 2))) c3 b5 b6 b7 none) (SW m0 x2 (r ++ .lst lds :: g2)) = SW m0 x2 (r ++ .lst lds :: g3) := by
    rcases cutS_two (E9L m0 r (some (.ref (m0.length + 1))) (some (.ref (m0.length + 2))) b3 b5 none b7 none) (E9L m0 r (some (.ref (m0.length + 1))) (some (.ref (m0.length + 2))) c3 b5 b6 b7 none) (SW m0 x1 (r ++ .lst [] :: [])) (SW m0 x2 (r ++ .lst lds :: g2)) with c | c
    · exact ⟨g2, c⟩
    · refine ⟨[], c.trans ?_⟩
      rw [show r ++ MO.lst lds :: g2 = (r ++ MO.lst lds :: []) ++ g2 by rw [List.append_assoc]; rfl]
      exact sw_take (by rw [sw_len]; simp)
  rw [c2] at s5
  have th : (SW m0 x2 (r ++ .lst lds :: g3))[m0.length + 2]? = some (.lst hs) := by
    have := sw_rest (m0 := m0) (x := x2) (r := r ++ .lst lds :: g3) 1
    rw [show m0.length + 2 = m0.length + 1 + 1 by omega, this, hr]
    rfl
  have f1 : evE cal (.tup [(.blt .tuple [(.var 2)]), (.blt .tuple [(.var 4)])]) (E9L m0 r (some (.ref (m0.length + 1))) (some (.ref (m0.length + 2))) c3 b5 b6 b7 none) (SW m0 x2 (r ++ .lst lds :: g3)) = .ok (.tup [.tup hs, .tup lds]) (SW m0 x2 (r ++ .lst lds :: g3)) := by
    simp -implicitDefEqProofs only [evE, evEs, Res.bind_ok, List.getElem?_cons_succ, List.getElem?_cons_zero, tuple_ref th, tuple_ref lds_at]
  have pl : plainD 4 (.tup [.tup hs, .tup lds]) = true := plain_row (n := 0) (fun d hd => by
    rcases List.mem_cons.mp hd with rfl | hd
    · exact plain_row (n := 0) (fun h hh => (hg h hh).plain) (by omega)
    · rw [List.mem_singleton.mp hd]
      exact plain_row (n := 0) (fun h hh => (hg2 h hh).plain) (by omega)) (by simp)
  have hc : cutC (SW m0 x []) (.tup [.tup hs, .tup lds]) (SW m0 x2 (r ++ .lst lds :: g3)) = (.tup [.tup hs, .tup lds], SW m0 x2 []) := by
    have e : SW m0 x2 (r ++ .lst lds :: g3) = SW m0 x2 [] ++ (r ++ .lst lds :: g3) := by rw [sw_app]; rfl
    rw [e]
    refine cutC_mix (by rw [sw_len, sw_len]) ?_ (plain_bnd 4 _ _ pl)
    rw [sw_app]
    exact old_sw (r1 := []) rfl fun i o e => by simp at e
  refine ⟨hs, lds, x2, runD_rt (env := [some (.ref m0.length), none, none, none, none, none, none, none, none]) rfl rfl ?_ hc, fun z => by rw [z] at hl; simp at hl; omega, by omega, hg, by omega, hg2⟩
  show evSs cal fl (cWorld f) _ _ = _
  unfold cWorld
  have s6 : evS cal fl (.ret (.tup [(.blt .tuple [(.var 2)]), (.blt .tuple [(.var 4)])])) (E9L m0 r (some (.ref (m0.length + 1))) (some (.ref (m0.length + 2))) c3 b5 b6 b7 none) (SW m0 x2 (r ++ .lst lds :: g3)) = .rt (.tup [.tup hs, .tup lds]) (SW m0 x2 (r ++ .lst lds :: g3)) := by
    simp -implicitDefEqProofs only [evS, f1, thn_ok]
  have s2' := s2 (x / 3 / 3)
  simp -implicitDefEqProofs only [evSs, s1, s2', s3, s4, s5, s6, sthn_nx, sthn_rt]
end
end DV

/-! DvOrd: drawn hands can be put in order. -/
namespace DV
open PySem
theorem toPy_ints : ∀ rs : List Int, D.toPys (intsD rs) = rs.map PyData.int
  | [] => by show D.toPys [] = _; rw [D.toPys]; rfl
  | r :: rs => by
    show D.toPys (D.int r :: intsD rs) = _
    rw [D.toPys, D.toPy, toPy_ints rs]; rfl
theorem flat_ints (k : Nat) : ∀ rs : List Int, D.flatAll k (intsD rs) = true
  | [] => by show D.flatAll k [] = true; rw [D.flatAll]
  | r :: rs => by
    show D.flatAll k (D.int r :: intsD rs) = true
    rw [D.flatAll, flat_ints k rs]
    simp [D.flat]
theorem GoodHand.flat {d : D} (h : GoodHand d) (k : Nat) : D.flat (k + 2) d = true := by
  obtain ⟨r, s, rs, rfl, hr, _⟩ := h
  have hs : PyData.strOk r = true := by rcases hr with rfl | rfl <;> decide +kernel
  rw [D.flat, D.flatAll, D.flatAll, D.flatAll, D.flatAll, D.flat, D.flat, D.flat, hs, flat_ints]
  · rfl
  all_goals simp
theorem GoodHand.alike {d e : D} (h : GoodHand d) (g : GoodHand e) : PySem.W.alike (D.toPy d) (D.toPy e) = true := by
  obtain ⟨r, s, rs, rfl, _, _⟩ := h
  obtain ⟨r', s', rs', rfl, _, _⟩ := g
  simp only [D.toPy, D.toPys, toPy_ints, PySem.W.alike, PySem.W.alikeAll, PySem.W.alike_ints, Bool.and_true]
theorem okAll_of {k : Nat} : ∀ {ds : List D}, (∀ d ∈ ds, D.flat k d = true) → D.flatAll k ds = true
  | [], _ => by rw [D.flatAll]
  | d :: ds, h => by rw [D.flatAll, h d List.mem_cons_self, okAll_of fun e he => h e (List.mem_cons_of_mem _ he)]; rfl
theorem alikeAll_of {ds : List D} (h : ∀ d ∈ ds, GoodHand d) : alikeAll ds = true := by
  unfold alikeAll
  rw [List.all_eq_true]
  intro a ha
  rw [List.all_eq_true]
  exact fun b hb => (h a ha).alike (h b hb)
theorem sortable_tups {ds : List D} (h : ∀ d ∈ ds, ∃ e r, d = .tup (e :: r)) : sortable ds = true := by
  unfold sortable
  rw [Bool.or_eq_true]
  left
  rw [List.all_eq_true]
  intro d hd
  obtain ⟨e, r, rfl⟩ := h d hd
  rfl
theorem ord_hands {ds : List D} (h : ∀ d ∈ ds, GoodHand d) : ordOk ds = true := by
  unfold ordOk
  rw [show D.okAll ds = true from okAll_of fun d hd => (h d hd).flat 6, alikeAll_of h]
  rw [sortable_tups fun d hd => by obtain ⟨r, s, rs, rfl, _⟩ := h d hd; exact ⟨_, _, rfl⟩]
  rfl
theorem hAt_mem {hs : List D} {k : Nat} (hk : k < hs.length) : hAt hs k ∈ hs := by
  unfold hAt
  rw [List.getD_eq_getElem?_getD, List.getElem?_eq_getElem hk]
  exact List.getElem_mem hk
theorem ord_pairs {hs : List D} (h : ∀ d ∈ hs, GoodHand d) : ordOk ((List.range hs.length).map (pairD hs)) = true := by
  have m : ∀ d ∈ (List.range hs.length).map (pairD hs), ∃ (e : D) (k : Nat), GoodHand e ∧ d = .tup [e, .int (k : Int)] := fun d hd => by
    obtain ⟨k, hk, rfl⟩ := List.mem_map.mp hd
    exact ⟨hAt hs k, k, h _ (hAt_mem (List.mem_range.mp hk)), rfl⟩
  unfold ordOk
  have e1 : D.okAll ((List.range hs.length).map (pairD hs)) = true := okAll_of fun d hd => by
    obtain ⟨e, k, ge, rfl⟩ := m d hd
    rw [D.flat, D.flatAll, D.flatAll, D.flatAll, ge.flat 5]
    simp [D.flat]
  have e2 : alikeAll ((List.range hs.length).map (pairD hs)) = true := by
    unfold alikeAll
    rw [List.all_eq_true]
    intro a ha
    rw [List.all_eq_true]
    intro b hb
    obtain ⟨e, k, ge, rfl⟩ := m a ha
    obtain ⟨e', k', ge', rfl⟩ := m b hb
    simp only [D.toPy, D.toPys, PySem.W.alike, PySem.W.alikeAll, ge.alike ge', Bool.and_true]
  rw [e1, e2]
  rw [sortable_tups fun d hd => by obtain ⟨e, k, ge, rfl⟩ := m d hd; exact ⟨_, _, rfl⟩]
  rfl
theorem fHands_good {hs : List D} (h : ∀ d ∈ hs, GoodHand d) : ∀ d ∈ fHands hs, GoodHand d := fun d hd => by
  obtain ⟨k, hk, rfl⟩ := List.mem_map.mp hd
  exact h _ (hAt_mem (mem_idx hk))
end DV

/-! DvK66: the law's own loop. -/
namespace DV
open PySem
def fD (hs lds : List D) : D := foldD hs (.tup lds)
def bLaw : List IS := [.asg (.nm 2) (.call 7 [(.call 3 [(.var 0), (.var 1)])]), .asg (.nm 3) (.call 6 [(.var 2)]), .iff (.nott (.call 5 [(.call 0 [(.var 2)]), (.var 3)])) [.ret (.lit (.bl false))] [], .iff (.nott (.call 5 [(.call 0 [(.idx (.var 3) (.lit (.int 0)))]), (.tup [(.idx (.var 3) (.lit (.int 0))), (.blt .tupleRange [(.blt .len [(.idx (.var 2) (.lit (.int 0)))])])])])) [.ret (.lit (.bl false))] []]
theorem fold_plain {hs lds : List D} (h1 : ∀ d ∈ hs, GoodHand d) (h2 : ∀ d ∈ lds, GoodLoad d) (l1 : hs.length ≤ 1000) (l2 : lds.length ≤ 1000) : plainD 5 (fD hs lds) = true := by
  refine plain_row (n := 0) (fun d hd => ?_) (by simp)
  rcases List.mem_cons.mp hd with rfl | hd
  · refine plain_row (n := 0) (fun d hd => ?_) (by simp)
    rcases List.mem_cons.mp hd with rfl | hd
    · exact plain_row (n := 0) (fun d hd => (fHands_good h1 d hd).plain) (by unfold fHands; rw [List.length_map, idx_len]; exact l1)
    · rw [List.mem_singleton.mp hd]
      exact plain_row (n := 0) (fun d hd => (h2 d hd).plain) l2
  · rw [List.mem_singleton.mp hd]
    refine plainD_up (k := 1) (plain_row (n := 0) (fun d hd => ?_) (by unfold fRow; rw [List.length_map, idx_len]; exact l1)) (by omega)
    obtain ⟨k, _, rfl⟩ := List.mem_map.mp hd
    simp [plainD]
theorem tupR_nat {n : Nat} {m : Store} (h : n ≤ 1000) : bltOp .tupleRange [.int (n : Int)] m = .ok (.tup (rngD n)) m := by
  simp only [bltOp]
  rw [if_pos (by omega), Int.toNat_natCast]
section
variable {cal : Callee} {fl : Nat}
theorem law_turn {m : Store} {sc : D} {k : Nat} {a2 a3 : Option D}
    (h3 : ∃ v, cal 3 [sc, .int (k : Int)] m = .ok (.ref m.length) (SW m v []))
    (h7 : ∀ v, ∃ (hs lds : List D) (x' : Int), cal 7 [.ref m.length] (SW m v []) = .ok (.tup [.tup hs, .tup lds]) (SW m x' []) ∧ hs ≠ [] ∧ hs.length ≤ 6 ∧ (∀ h ∈ hs, GoodHand h) ∧ lds.length ≤ 2 ∧ ∀ l ∈ lds, GoodLoad l)
    (h0 : ∀ (hs lds : List D) (m1 : Store), (∃ g, m1 = m ++ g) → (∀ h ∈ hs, GoodHand h) → (∀ l ∈ lds, GoodLoad l) → hs.length ≤ 6 → lds.length ≤ 2 → cal 0 [.tup [.tup hs, .tup lds]] m1 = .ok (fD hs lds) m1)
    (h6 : ∀ (hs lds : List D) (m1 : Store), (∀ h ∈ hs, GoodHand h) → (∀ l ∈ lds, GoodLoad l) → hs.length ≤ 6 → lds.length ≤ 2 → cal 6 [.tup [.tup hs, .tup lds]] m1 = .ok (fD hs lds) m1)
    (h5 : ∀ (d : D) (m1 : Store), plainD 5 d = true → cal 5 [d, d] m1 = .ok (.bl true) m1) :
    ∃ (b2 b3 : Option D) (g : List MO), evSs cal fl bLaw [some sc, some (.int (k : Int)), a2, a3] m = .nx [some sc, some (.int (k : Int)), b2, b3] (m ++ g) := by
  obtain ⟨v, h3⟩ := h3
  obtain ⟨hs, lds, x', h7, _, l1, g1, l2, g2⟩ := h7 v
  obtain ⟨g, hg⟩ : ∃ g, cutS [some sc, some (.int (k : Int)), a2, a3] m [some sc, some (.int (k : Int)), some (.tup [.tup hs, .tup lds]), a3] (SW m x' []) = m ++ g := by
    rcases cutS_two [some sc, some (.int (k : Int)), a2, a3] [some sc, some (.int (k : Int)), some (.tup [.tup hs, .tup lds]), a3] m (SW m x' []) with c | c
    · exact ⟨_, c⟩
    · exact ⟨[], c.trans (by rw [List.append_nil]; exact List.take_left' rfl)⟩
  have s1 : evS cal fl (.asg (.nm 2) (.call 7 [(.call 3 [(.var 0), (.var 1)])])) [some sc, some (.int (k : Int)), a2, a3] m = .nx [some sc, some (.int (k : Int)), some (.tup [.tup hs, .tup lds]), a3] (m ++ g) := by
    simp -implicitDefEqProofs only [evS, evE, evEs, Res.bind_ok, List.getElem?_cons_succ, List.getElem?_cons_zero, h3, h7, thn_ok, bind, List.set_cons_succ, List.set_cons_zero, scut_nx, hg]
  have e6 := h6 hs lds (m ++ g) g1 g2 l1 l2
  have s2 : evS cal fl (.asg (.nm 3) (.call 6 [(.var 2)])) [some sc, some (.int (k : Int)), some (.tup [.tup hs, .tup lds]), a3] (m ++ g) = .nx [some sc, some (.int (k : Int)), some (.tup [.tup hs, .tup lds]), some (fD hs lds)] (m ++ g) := by
    simp -implicitDefEqProofs only [evS, evE, evEs, Res.bind_ok, List.getElem?_cons_succ, List.getElem?_cons_zero, e6, thn_ok, bind, List.set_cons_succ, List.set_cons_zero, scut_nx, cutS_refl]
  have e0 := h0 hs lds (m ++ g) ⟨g, rfl⟩ g1 g2 l1 l2
  have e5 := h5 (fD hs lds) (m ++ g) (fold_plain g1 g2 (by omega) (by omega))
  have s3 : evS cal fl (.iff (.nott (.call 5 [(.call 0 [(.var 2)]), (.var 3)])) [.ret (.lit (.bl false))] []) [some sc, some (.int (k : Int)), some (.tup [.tup hs, .tup lds]), some (fD hs lds)] (m ++ g) = .nx [some sc, some (.int (k : Int)), some (.tup [.tup hs, .tup lds]), some (fD hs lds)] (m ++ g) := by
    simp -implicitDefEqProofs only [evS, evSs, evT, evE, evEs, Res.bind_ok, List.getElem?_cons_succ, List.getElem?_cons_zero, e0, e5, Bool.not_true, thn_ok, Bool.false_eq_true, if_false, scut_nx, cutS_refl]
  have lf : (fHands hs).length = hs.length := by unfold fHands; rw [List.length_map, idx_len]
  have e0' := h0 (fHands hs) lds (m ++ g) ⟨g, rfl⟩ (fHands_good g1) g2 (by omega) l2
  have e5' := h5 (fD (fHands hs) lds) (m ++ g) (fold_plain (fHands_good g1) g2 (by omega) (by omega))
  have ei : idxOp (fD hs lds) (.int 0) (m ++ g) = .ok (.tup [.tup (fHands hs), .tup lds]) (m ++ g) := i_tup0
  have er : D.tup [.tup [.tup (fHands hs), .tup lds], .tup (rngD hs.length)] = fD (fHands hs) lds := (fold_again hs (.tup lds)).symm
  have et : bltOp .tupleRange [.int (hs.length : Int)] (m ++ g) = .ok (.tup (rngD hs.length)) (m ++ g) := tupR_nat (by omega)
  have s4 : evS cal fl (.iff (.nott (.call 5 [(.call 0 [(.idx (.var 3) (.lit (.int 0)))]), (.tup [(.idx (.var 3) (.lit (.int 0))), (.blt .tupleRange [(.blt .len [(.idx (.var 2) (.lit (.int 0)))])])])])) [.ret (.lit (.bl false))] []) [some sc, some (.int (k : Int)), some (.tup [.tup hs, .tup lds]), some (fD hs lds)] (m ++ g) = .nx [some sc, some (.int (k : Int)), some (.tup [.tup hs, .tup lds]), some (fD hs lds)] (m ++ g) := by
    simp -implicitDefEqProofs only [evS, evSs, evT, evE, evEs, Res.bind_ok, List.getElem?_cons_succ, List.getElem?_cons_zero, ei, i_tup0, l_tup, et, e0', er, e5', Bool.not_true, thn_ok, Bool.false_eq_true, if_false, scut_nx, cutS_refl]
  refine ⟨some (.tup [.tup hs, .tup lds]), some (fD hs lds), g, ?_⟩
  unfold bLaw
  simp -implicitDefEqProofs only [evSs, s1, s2, s3, s4, sthn_nx]
end
end DV

namespace K66
open PySem PySem.Spec PyProof.Rows L2 DV
abbrev stAt (i : Nat) : Stmt := PySem.Challenge.pw_lettermoat_k66_worlds_folded.main.body.getD i (.Pass ⟨0, 0, 0, 0⟩)
def aD (n : PySem.Str) (i : Nat) : He.DefD := ⟨(n, none), n, n, defArgs (stAt i), defBody (stAt i), defScope (stAt i), [], []⟩
def txt : GI := ⟨[("folded", 1), ("_law_cell_at", 2), ("_law_mixed", 2), ("_law_source", 2), ("_law_next", 2), ("_law_same", 2), ("_law_folded", 1), ("_law_world", 1), ("law", 1)], ["len", "all", "max", "min", "tuple", "sorted", "range", "isinstance", "int", "bool", "str"], [], [("folded", 0)]⟩
def c_folded : List IS := [.asg (.tup [(.nm 2), (.nm 3)]) (.var 0), .asg (.nm 1) (.sortby 2 0 "folded"), .ret (.tup [(.tup [(.blt .tuple [(.comp (.idx (.var 2) (.var 4)) (.nm 4) [4] .val [(.var 1)] [])]), (.var 3)]), (.blt .tuple [(.var 1)])])]
def d_folded : DefI := ⟨aD "folded" 1, ["world"], ["world", "row", "hands", "loads", "k"], c_folded⟩
def c_law_cell_at : List IS := [.iff (.cmp .lt (.var 1) (.blt .len [(.var 0)])) [.ret (.idx (.var 0) (.var 1))] [], .ret (.lit (.int 0))]
def d_law_cell_at : DefI := ⟨aD "_law_cell_at" 3, ["script", "k"], ["script", "k"], c_law_cell_at⟩
def c_law_mixed : List IS := [.asg (.nm 2) (.lit (.int 2305843009213693951)), .asg (.nm 3) (.bin .mod (.bin .mul (.bin .add (.bin .add (.bin .mod (.var 0) (.var 2)) (.bin .mul (.lit (.int 31)) (.var 1))) (.lit (.int 7))) (.lit (.int 48271))) (.var 2)), .asg (.nm 3) (.bin .mod (.bin .mul (.bin .mod (.bin .mul (.var 3) (.var 3)) (.var 2)) (.lit (.int 69621))) (.var 2)), .ret (.bin .fdiv (.var 3) (.lit (.int 7)))]
def d_law_mixed : DefI := ⟨aD "_law_mixed" 4, ["cell", "k"], ["cell", "k", "prime", "number"], c_law_mixed⟩
def c_law_source : List IS := [.asg (.nm 2) (.call 1 [(.var 0), (.var 1)]), .iff (.cmp .ge (.var 2) (.bin .pow (.lit (.int 10)) (.lit (.int 18)))) [.ret (.lst [(.var 2)])] [], .ret (.lst [(.bin .add (.bin .add (.call 2 [(.var 2), (.var 1)]) (.bin .mul (.call 2 [(.var 2), (.bin .add (.var 1) (.lit (.int 100)))]) (.bin .pow (.lit (.int 10)) (.lit (.int 17))))) (.bin .mul (.call 2 [(.var 2), (.bin .add (.var 1) (.lit (.int 200)))]) (.bin .pow (.lit (.int 10)) (.lit (.int 34)))))])]
def d_law_source : DefI := ⟨aD "_law_source" 5, ["script", "k"], ["script", "k", "cell"], c_law_source⟩
def c_law_next : List IS := [.asg (.nm 2) (.bin .mod (.idx (.var 0) (.lit (.int 0))) (.var 1)), .asgSub (.var 0) (.lit (.int 0)) (.bin .fdiv (.idx (.var 0) (.lit (.int 0))) (.var 1)), .ret (.var 2)]
def d_law_next : DefI := ⟨aD "_law_next" 6, ["left", "base"], ["left", "base", "digit"], c_law_next⟩
def c_law_same : List IS := [.iff (.isi (.var 1) .tuple) [.iff (.or [(.nott (.isi (.var 0) .tuple)), (.cmp .ne (.blt .len [(.var 0)]) (.blt .len [(.var 1)]))]) [.ret (.lit (.bl false))] [], .ret (.blt .all [(.comp (.call 5 [(.idx (.var 0) (.var 2)), (.idx (.var 1) (.var 2))]) (.nm 2) [2] .rng1 [(.blt .len [(.var 1)])] [])])] [], .iff (.isi (.var 1) .str) [.ret (.and [(.isi (.var 0) .str), (.cmp .eq (.var 0) (.var 1))])] [], .ret (.and [(.isi (.var 0) .int), (.nott (.isi (.var 0) .bool)), (.cmp .eq (.var 0) (.var 1))])]
def d_law_same : DefI := ⟨aD "_law_same" 7, ["found", "due"], ["found", "due", "k"], c_law_same⟩
def c_law_folded : List IS := [.asg (.nm 1) (.blt .sorted [(.comp (.tup [(.idx (.idx (.var 0) (.lit (.int 0))) (.var 2)), (.var 2)]) (.nm 2) [2] .rng1 [(.blt .len [(.idx (.var 0) (.lit (.int 0)))])] [])]), .ret (.tup [(.tup [(.blt .tuple [(.comp (.idx (.var 3) (.lit (.int 0))) (.nm 3) [3] .val [(.var 1)] [])]), (.idx (.var 0) (.lit (.int 1)))]), (.blt .tuple [(.comp (.idx (.var 3) (.lit (.int 1))) (.nm 3) [3] .val [(.var 1)] [])])])]
def d_law_folded : DefI := ⟨aD "_law_folded" 8, ["world"], ["world", "pairs", "k", "pair"], c_law_folded⟩
def c_law_world : List IS := [.asg (.nm 1) (.lst [(.call 4 [(.var 0), (.lit (.int 3))]), (.call 4 [(.var 0), (.lit (.int 3))])]), .asg (.nm 2) (.lst []), .forr (.nm 3) .rng1 [(.bin .add (.lit (.int 1)) (.call 4 [(.var 0), (.lit (.int 6))]))] [.asg (.nm 5) (.call 4 [(.var 0), (.lit (.int 2))]), .iff (.and [(.cmp .gt (.blt .len [(.var 2)]) (.lit (.int 0))), (.cmp .eq (.call 4 [(.var 0), (.lit (.int 3))]) (.lit (.int 0)))]) [.expr (.meth .append (.var 2) [(.idx (.var 2) (.call 4 [(.var 0), (.blt .len [(.var 2)])]))])] [.asg (.nm 7) (.comp (.call 4 [(.var 0), (.lit (.int 3))]) (.nm 8) [8] .rng1 [(.idx (.var 1) (.var 5))] []), .expr (.meth .append (.var 2) [(.tup [(.idx (.lst [(.lit (.str "b")), (.lit (.str "ask"))]) (.var 5)), (.call 4 [(.var 0), (.lit (.int 4))]), (.blt .tuple [(.var 7)])])])]], .asg (.nm 4) (.lst []), .forr (.nm 3) .rng1 [(.call 4 [(.var 0), (.lit (.int 3))])] [.asg (.nm 6) (.comp (.tup [(.idx (.lst [(.lit (.str "x")), (.lit (.str "y"))]) (.call 4 [(.var 0), (.lit (.int 2))])), (.call 4 [(.var 0), (.lit (.int 3))])]) (.nm 8) [8] .rng1 [(.call 4 [(.var 0), (.lit (.int 3))])] []), .expr (.meth .append (.var 4) [(.blt .tuple [(.var 6)])])], .ret (.tup [(.blt .tuple [(.var 2)]), (.blt .tuple [(.var 4)])])]
def d_law_world : DefI := ⟨aD "_law_world" 9, ["left"], ["left", "many", "hands", "k", "loads", "role", "letters", "held", "at"], c_law_world⟩
def c_law : List IS := [.forr (.nm 1) .rng1 [(.blt .max2 [(.lit (.int 1)), (.blt .min2 [(.blt .len [(.var 0)]), (.lit (.int 40))])])] [.asg (.nm 2) (.call 7 [(.call 3 [(.var 0), (.var 1)])]), .asg (.nm 3) (.call 6 [(.var 2)]), .iff (.nott (.call 5 [(.call 0 [(.var 2)]), (.var 3)])) [.ret (.lit (.bl false))] [], .iff (.nott (.call 5 [(.call 0 [(.idx (.var 3) (.lit (.int 0)))]), (.tup [(.idx (.var 3) (.lit (.int 0))), (.blt .tupleRange [(.blt .len [(.idx (.var 2) (.lit (.int 0)))])])])])) [.ret (.lit (.bl false))] []], .ret (.lit (.bl true))]
def d_law : DefI := ⟨aD "law" 10, ["script"], ["script", "k", "world", "due"], c_law⟩
def all : List DefI := [d_folded, d_law_cell_at, d_law_mixed, d_law_source, d_law_next, d_law_same, d_law_folded, d_law_world, d_law]
def tab : Tab := tabI all
theorem k_folded : cSs 60 ⟨txt, d_folded.N, d_folded.d.scope, fun _ => true, txt.lams.find? (·.1 == d_folded.d.qual)⟩ d_folded.d.body = some d_folded.ir := by kernel_rfl
theorem s_folded : FnScope d_folded.N d_folded.ps d_folded.d.scope := ⟨rfl, rfl, rfl, by decide +kernel, rfl, by decide +kernel, by decide +kernel⟩
theorem k_law_cell_at : cSs 60 ⟨txt, d_law_cell_at.N, d_law_cell_at.d.scope, fun _ => true, txt.lams.find? (·.1 == d_law_cell_at.d.qual)⟩ d_law_cell_at.d.body = some d_law_cell_at.ir := by kernel_rfl
theorem s_law_cell_at : FnScope d_law_cell_at.N d_law_cell_at.ps d_law_cell_at.d.scope := ⟨rfl, rfl, rfl, by decide +kernel, rfl, by decide +kernel, by decide +kernel⟩
theorem k_law_mixed : cSs 60 ⟨txt, d_law_mixed.N, d_law_mixed.d.scope, fun _ => true, txt.lams.find? (·.1 == d_law_mixed.d.qual)⟩ d_law_mixed.d.body = some d_law_mixed.ir := by kernel_rfl
theorem s_law_mixed : FnScope d_law_mixed.N d_law_mixed.ps d_law_mixed.d.scope := ⟨rfl, rfl, rfl, by decide +kernel, rfl, by decide +kernel, by decide +kernel⟩
theorem k_law_source : cSs 60 ⟨txt, d_law_source.N, d_law_source.d.scope, fun _ => true, txt.lams.find? (·.1 == d_law_source.d.qual)⟩ d_law_source.d.body = some d_law_source.ir := by kernel_rfl
theorem s_law_source : FnScope d_law_source.N d_law_source.ps d_law_source.d.scope := ⟨rfl, rfl, rfl, by decide +kernel, rfl, by decide +kernel, by decide +kernel⟩
theorem k_law_next : cSs 60 ⟨txt, d_law_next.N, d_law_next.d.scope, fun _ => true, txt.lams.find? (·.1 == d_law_next.d.qual)⟩ d_law_next.d.body = some d_law_next.ir := by kernel_rfl
theorem s_law_next : FnScope d_law_next.N d_law_next.ps d_law_next.d.scope := ⟨rfl, rfl, rfl, by decide +kernel, rfl, by decide +kernel, by decide +kernel⟩
theorem k_law_same : cSs 60 ⟨txt, d_law_same.N, d_law_same.d.scope, fun _ => true, txt.lams.find? (·.1 == d_law_same.d.qual)⟩ d_law_same.d.body = some d_law_same.ir := by kernel_rfl
theorem s_law_same : FnScope d_law_same.N d_law_same.ps d_law_same.d.scope := ⟨rfl, rfl, rfl, by decide +kernel, rfl, by decide +kernel, by decide +kernel⟩
theorem k_law_folded : cSs 60 ⟨txt, d_law_folded.N, d_law_folded.d.scope, fun _ => true, txt.lams.find? (·.1 == d_law_folded.d.qual)⟩ d_law_folded.d.body = some d_law_folded.ir := by kernel_rfl
theorem s_law_folded : FnScope d_law_folded.N d_law_folded.ps d_law_folded.d.scope := ⟨rfl, rfl, rfl, by decide +kernel, rfl, by decide +kernel, by decide +kernel⟩
theorem k_law_world : cSs 60 ⟨txt, d_law_world.N, d_law_world.d.scope, fun _ => true, txt.lams.find? (·.1 == d_law_world.d.qual)⟩ d_law_world.d.body = some d_law_world.ir := by kernel_rfl
theorem s_law_world : FnScope d_law_world.N d_law_world.ps d_law_world.d.scope := ⟨rfl, rfl, rfl, by decide +kernel, rfl, by decide +kernel, by decide +kernel⟩
theorem k_law : cSs 60 ⟨txt, d_law.N, d_law.d.scope, fun _ => true, txt.lams.find? (·.1 == d_law.d.qual)⟩ d_law.d.body = some d_law.ir := by kernel_rfl
theorem s_law : FnScope d_law.N d_law.ps d_law.d.scope := ⟨rfl, rfl, rfl, by decide +kernel, rfl, by decide +kernel, by decide +kernel⟩
def fn : List He.DefD := all.map (·.d)
def fa : List He.Fa := all.map (fun i => .glo i.d.name) ++ txt.free.map .free
abbrev R : PySem.W.OpenRow := PySem.W.OpenLaw.row PySem.Challenge.rw_lettermoat_k66_worlds_folded
abbrev hk : PySem.W.Hook := He.hookX 4 fa fn [] (tfOf txt) (apart txt)
def ob (s : PySem.W.SharedT) : He.AlX := He.obsX 4 fa fn [] (tfOf txt) (apart txt) (HandSHeadRun.getT s)
theorem ob_eq (s : PySem.W.SharedT) : ob s = hk.obs s.abs := He.obsX_eq (HandSHeadRun.getT_eq s)
def ls0 : List PySem.Str := ["folded", "_law_cell_at", "_law_mixed", "_law_source", "_law_next", "_law_same", "_law_folded", "_law_world"]
def ls : List PySem.Str := ls0
def lawAt : Nat := 10
theorem run (w : World) : HandSHeadRun.RunEq R (PySem.W.view R.prog [10]) hk ob 4000 ls w := by
  intro os
  kernel_rfl
theorem b_folded {K : PySem.W.Frag} {f : Addr} {fd : FuncData} (F : FunD K d_folded.d.name d_folded.d.qual d_folded.d.params d_folded.d.body d_folded.d.scope [] [] f fd) : Binds K fd d_folded.ps [] := FunD.bindsN F fun _ _ _ _ _ _ us hl => match us, hl with | [_], _ => rfl
theorem b_law_cell_at {K : PySem.W.Frag} {f : Addr} {fd : FuncData} (F : FunD K d_law_cell_at.d.name d_law_cell_at.d.qual d_law_cell_at.d.params d_law_cell_at.d.body d_law_cell_at.d.scope [] [] f fd) : Binds K fd d_law_cell_at.ps [] := FunD.bindsN F fun _ _ _ _ _ _ us hl => match us, hl with | [_, _], _ => rfl
theorem b_law_mixed {K : PySem.W.Frag} {f : Addr} {fd : FuncData} (F : FunD K d_law_mixed.d.name d_law_mixed.d.qual d_law_mixed.d.params d_law_mixed.d.body d_law_mixed.d.scope [] [] f fd) : Binds K fd d_law_mixed.ps [] := FunD.bindsN F fun _ _ _ _ _ _ us hl => match us, hl with | [_, _], _ => rfl
theorem b_law_source {K : PySem.W.Frag} {f : Addr} {fd : FuncData} (F : FunD K d_law_source.d.name d_law_source.d.qual d_law_source.d.params d_law_source.d.body d_law_source.d.scope [] [] f fd) : Binds K fd d_law_source.ps [] := FunD.bindsN F fun _ _ _ _ _ _ us hl => match us, hl with | [_, _], _ => rfl
theorem b_law_next {K : PySem.W.Frag} {f : Addr} {fd : FuncData} (F : FunD K d_law_next.d.name d_law_next.d.qual d_law_next.d.params d_law_next.d.body d_law_next.d.scope [] [] f fd) : Binds K fd d_law_next.ps [] := FunD.bindsN F fun _ _ _ _ _ _ us hl => match us, hl with | [_, _], _ => rfl
theorem b_law_same {K : PySem.W.Frag} {f : Addr} {fd : FuncData} (F : FunD K d_law_same.d.name d_law_same.d.qual d_law_same.d.params d_law_same.d.body d_law_same.d.scope [] [] f fd) : Binds K fd d_law_same.ps [] := FunD.bindsN F fun _ _ _ _ _ _ us hl => match us, hl with | [_, _], _ => rfl
theorem b_law_folded {K : PySem.W.Frag} {f : Addr} {fd : FuncData} (F : FunD K d_law_folded.d.name d_law_folded.d.qual d_law_folded.d.params d_law_folded.d.body d_law_folded.d.scope [] [] f fd) : Binds K fd d_law_folded.ps [] := FunD.bindsN F fun _ _ _ _ _ _ us hl => match us, hl with | [_], _ => rfl
theorem b_law_world {K : PySem.W.Frag} {f : Addr} {fd : FuncData} (F : FunD K d_law_world.d.name d_law_world.d.qual d_law_world.d.params d_law_world.d.body d_law_world.d.scope [] [] f fd) : Binds K fd d_law_world.ps [] := FunD.bindsN F fun _ _ _ _ _ _ us hl => match us, hl with | [_], _ => rfl
theorem b_law {K : PySem.W.Frag} {f : Addr} {fd : FuncData} (F : FunD K d_law.d.name d_law.d.qual d_law.d.params d_law.d.body d_law.d.scope [] [] f fd) : Binds K fd d_law.ps [] := FunD.bindsN F fun _ _ _ _ _ _ us hl => match us, hl with | [_], _ => rfl
theorem text {K : PySem.W.Frag} {h : Heap} {mg : PySem.Str → Option Value} (X : K.In h) (G : h.Ns mainGlobals mg) (c : He.SaysD fa fn K) : Text K mg txt all 60 where
  defs := by rfl
  stands := fun i hi => by
    have hd := c.defs (d := i.d) (List.mem_map.mpr ⟨i, hi, rfl⟩)
    obtain ⟨fd, F⟩ := hd
    have hg := He.glo_ok X G (c.facts (f := .glo i.d.name) (List.mem_append_left _ (List.mem_map.mpr ⟨i, hi, rfl⟩)))
    simp only [all, List.mem_cons, List.not_mem_nil, or_false] at hi
    rcases hi with rfl | rfl | rfl | rfl | rfl | rfl | rfl | rfl | rfl
    · exact ⟨_, fd, F, hg, b_folded F, rfl⟩
    · exact ⟨_, fd, F, hg, b_law_cell_at F, rfl⟩
    · exact ⟨_, fd, F, hg, b_law_mixed F, rfl⟩
    · exact ⟨_, fd, F, hg, b_law_source F, rfl⟩
    · exact ⟨_, fd, F, hg, b_law_next F, rfl⟩
    · exact ⟨_, fd, F, hg, b_law_same F, rfl⟩
    · exact ⟨_, fd, F, hg, b_law_folded F, rfl⟩
    · exact ⟨_, fd, F, hg, b_law_world F, rfl⟩
    · exact ⟨_, fd, F, hg, b_law F, rfl⟩
  scope := fun i hi => by
    simp only [all, List.mem_cons, List.not_mem_nil, or_false] at hi
    rcases hi with rfl | rfl | rfl | rfl | rfl | rfl | rfl | rfl | rfl
    · exact s_folded
    · exact s_law_cell_at
    · exact s_law_mixed
    · exact s_law_source
    · exact s_law_next
    · exact s_law_same
    · exact s_law_folded
    · exact s_law_world
    · exact s_law
  code := fun i hi => by
    simp only [all, List.mem_cons, List.not_mem_nil, or_false] at hi
    rcases hi with rfl | rfl | rfl | rfl | rfl | rfl | rfl | rfl | rfl
    · exact k_folded
    · exact k_law_cell_at
    · exact k_law_mixed
    · exact k_law_source
    · exact k_law_next
    · exact k_law_same
    · exact k_law_folded
    · exact k_law_world
    · exact k_law
  free := fun x hx => He.free_ok X G (c.facts (f := .free x) (List.mem_append_right _ (List.mem_map.mpr ⟨x, hx, rfl⟩)))
  cons := fun p hp => absurd hp (by simp [txt])
theorem lamAt (i : DefI) (hi : i ∈ all) (p : PySem.Str × Nat) (e : txt.lams.find? (·.1 == i.d.qual) = some p) : i.d.at_ = (p.1, none) := by
  have hq : p.1 = i.d.qual := by
    have := List.find?_some e
    simpa using this
  rw [hq]
  simp only [all, List.mem_cons, List.not_mem_nil, or_false] at hi
  rcases hi with rfl | rfl | rfl | rfl | rfl | rfl | rfl | rfl | rfl <;> rfl
theorem lawBind (F0 : PySem.W.Frag) (f : Addr) (fd : FuncData) (F : FunD F0 d_law.d.name d_law.d.qual d_law.d.params d_law.d.body d_law.d.scope [] [] f fd) (s : Shared) (u : Value) : BindsTo s fd ⟨[u], []⟩ [("script", u)] :=
  FunD.bindsA (ps := ["script"]) F (fun _ _ _ _ _ _ us hl => match us, hl with | [_], _ => rfl) s [u] rfl
def fuel : Nat := 0
def deep : Nat := 20
theorem t0 : (tabI all)[0]? = some ⟨1, 5, cFolded 0 "folded"⟩ := rfl
theorem t1 : (tabI all)[1]? = some ⟨2, 2, cCell⟩ := rfl
theorem t2 : (tabI all)[2]? = some ⟨2, 4, cMixed⟩ := rfl
theorem t3 : (tabI all)[3]? = some ⟨2, 3, cSource 1 2⟩ := rfl
theorem t4 : (tabI all)[4]? = some ⟨2, 3, cNext⟩ := rfl
theorem t5 : (tabI all)[5]? = some ⟨2, 3, cSame 5⟩ := rfl
theorem t6 : (tabI all)[6]? = some ⟨1, 4, cPairs⟩ := rfl
theorem t7 : (tabI all)[7]? = some ⟨1, 9, cWorld 4⟩ := rfl
def srcLaw : List IE := [(.blt .max2 [(.lit (.int 1)), (.blt .min2 [(.blt .len [(.var 0)]), (.lit (.int 40))])])]
def cLaw : List IS := [.forr (.nm 1) .rng1 srcLaw bLaw, .ret (.lit (.bl true))]
theorem t8 : (tabI all)[8]? = some ⟨1, 4, cLaw⟩ := rfl
theorem draws (n : Nat) : Draws (evC (tabI all) fuel (n + 1)) 4 := fun k m x b h hb => by rw [evC_at t4]; exact run_next h hb
theorem cutC_bl (m m1 : Store) (b : Bool) : ∃ m2, cutC m (.bl b) m1 = (.bl b, m2) := by
  unfold cutC
  split
  · exact ⟨_, rfl⟩
  · split
    · split
      · exact ⟨_, rfl⟩
      · exact ⟨_, rfl⟩
    · exact ⟨_, rfl⟩
theorem pure (ns : List Int) (sc : D) (m : Store) (hn : ns.length ≤ 63) (hb : ∀ z ∈ ns, Builtin.Int.intBits z ≤ 1048576) (h : Starts txt ns sc m) : ∃ m2, evC (tabI all) fuel deep 8 [sc] m = .ok (.bl true) m2 := by
  have hS : Scr sc m ns := by
    rcases h with ⟨_, rfl⟩ | ⟨rfl, rfl⟩
    · exact .inl rfl
    · exact .inr ⟨_, rfl, at_new⟩
  have hm : m[0]? = some (.tab "folded") := by
    rcases h with ⟨rfl, _⟩ | ⟨rfl, _⟩ <;> rfl
  obtain ⟨n, hv, hn2⟩ : ∃ n : Nat, (if (if (40 : Int) < (ns.length : Int) then (40 : Int) else (ns.length : Int)) > 1 then (if (40 : Int) < (ns.length : Int) then (40 : Int) else (ns.length : Int)) else 1) = (n : Int) ∧ n ≤ 100 := by
    refine ⟨(if (if (40 : Int) < (ns.length : Int) then (40 : Int) else (ns.length : Int)) > 1 then (if (40 : Int) < (ns.length : Int) then (40 : Int) else (ns.length : Int)) else 1).toNat, ?_, ?_⟩ <;> split <;> split <;> omega
  have src : evEs (evC (tabI all) fuel 19) srcLaw [some sc, none, none, none] m = .ok [.int (n : Int)] m := by
    have e1 : bltOp .min2 [.int (ns.length : Int), .int 40] m = .ok (.int (if (40 : Int) < (ns.length : Int) then (40 : Int) else (ns.length : Int))) m := rfl
    have e2 : ∀ i : Int, bltOp .max2 [.int 1, .int i] m = .ok (.int (if i > 1 then i else 1)) m := fun _ => rfl
    unfold srcLaw
    simp -implicitDefEqProofs only [evEs, evE, Res.bind_ok, List.getElem?_cons_zero, hS.len, e1, e2, hv]
  obtain ⟨env2, m2, l1, b1, b2, b3, g, rfl, rfl⟩ := forGo_inv (bnd := fun env d => bind env (.nm 1) d) (body := fun env m => evSs (evC (tabI all) fuel 19) fuel bLaw env m) (w := none)
    (fun _ env m' => ∃ (b1 b2 b3 : Option D) (g : List MO), env = [some sc, b1, b2, b3] ∧ m' = m ++ g) n (rngD n) 0 [some sc, none, none, none] m ⟨none, none, none, [], rfl, by simp⟩ (by simp) fun j d env m' hd hj hP => by
      obtain ⟨c1, c2, c3, g, rfl, rfl⟩ := hP
      obtain ⟨k, _, rfl⟩ := List.mem_map.mp hd
      have hS' := hS.app g
      have hm' : ∀ t : Store, ((m ++ g) ++ t)[0]? = some (.tab "folded") := fun t => by
        have hl : 0 < m.length := (List.getElem?_eq_some_iff.mp hm).1
        rw [List.append_assoc, List.getElem?_append_left hl]
        exact hm
      have hb' : ∀ (hs lds : List D) (k : Nat), (∀ h ∈ hs, GoodHand h) → (∀ l ∈ lds, GoodLoad l) → hs.length ≤ 6 → lds.length ≤ 2 → D.bnd k (foldD hs (.tup lds)) = true := fun hs lds k g1 g2 l1 l2 => plain_bnd 5 _ _ (fold_plain g1 g2 (by omega) (by omega))
      obtain ⟨d2, d3, g', e⟩ := law_turn (cal := evC (tabI all) fuel 19) (fl := fuel) (m := m ++ g) (sc := sc) (k := k) (a2 := c2) (a3 := c3)
        ⟨_, by rw [evC_at t3]; exact run_source (ns := ns) k (by rw [evC_at t1]; exact run_cell hS' k) fun c i => by rw [evC_at t2]; exact run_mixed c i⟩
        (fun v => by
          obtain ⟨hs, lds, x', r1, r2⟩ := run_world (cal := evC (tabI all) fuel 18) (f := 4) (fl := fuel) (draws 17) (m0 := m ++ g) (x := v)
          exact ⟨hs, lds, x', by rw [evC_at t7]; exact r1, r2⟩)
        (fun hs lds m1 hm1 g1 g2 l1 l2 => by
          obtain ⟨t, rfl⟩ := hm1
          rw [evC_at t0]
          exact run_folded (hm' t) (ord_hands g1) (by omega) (hb' hs lds _ g1 g2 l1 l2))
        (fun hs lds m1 g1 g2 l1 l2 => by
          rw [evC_at t6]
          exact run_pairs (alikeAll_of g1) (ord_pairs g1) (by omega) (hb' hs lds _ g1 g2 l1 l2))
        (fun d m1 hp => run_same t5 18 d m1 (plainD_up hp (by omega)))
      exact ⟨_, _, _, rfl, e, by simp only [kept], _, d2, d3, g ++ g', rfl, by rw [List.append_assoc]⟩
  have s1 := for_any (i := 1) src (by omega) l1
  obtain ⟨m4, hc⟩ := cutC_bl m (cutS [some sc, none, none, none] m [some sc, b1, b2, b3] (m ++ g)) true
  refine ⟨m4, ?_⟩
  show evC (tabI all) fuel (19 + 1) 8 [sc] m = _
  rw [evC_at t8]
  refine runD_rt (env := [some sc, none, none, none]) rfl rfl ?_ hc
  show evSs _ _ cLaw _ _ = _
  unfold cLaw
  rw [evSs, s1, sthn_nx]
  simp -implicitDefEqProofs only [evSs, evS, evE, thn_ok, sthn_rt]
end K66
open PySem PySem.W PySem.Calls PyProof.Rows
theorem PySem.Challenge.cw_lettermoat_k66_worlds_folded_holds : PySem.Challenge.rw_lettermoat_k66_worlds_folded.Holds := by
  w_on; o_law
  refine HandSHeadRun.head_any (r := OpenLaw.row PySem.Challenge.rw_lettermoat_k66_worlds_folded) (q := view (OpenLaw.row PySem.Challenge.rw_lettermoat_k66_worlds_folded).prog [K66.lawAt])
    (H := K66.hk) (ob := K66.ob) (M := 4000) (loose := K66.ls) (kwd := [])
    (d := HandSHeadRun.topDef (OpenLaw.row PySem.Challenge.rw_lettermoat_k66_worlds_folded).prog K66.lawAt) K66.ob_eq (by kernel_rfl)
    (fun s => by kernel_rfl) K66.run (by kernel_rfl) (by kernel_rfl) (by kernel_rfl) (by rfl)
    (by first | assumption | decide +kernel) (by decide +kernel)
    ⟨rfl, rfl, rfl, rfl, rfl, by decide +kernel⟩ ?hw ?hc
  case hw => w_witness2
  case hc =>
    exact DV.ends (l := PySem.Challenge.rw_lettermoat_k66_worlds_folded) (n := 63) (x := "script") (gi := K66.txt) (ds := K66.all) (g := 60)
      (fl := K66.fuel) (k := K66.deep) (j := 8) (i := K66.d_law) rfl (by decide) (by kernel_rfl)
      ⟨rfl, by decide, by decide⟩ (fun F0 h mg X G c => K66.text X G c) K66.lamAt rfl (by kernel_rfl) rfl
      K66.lawBind K66.pure
