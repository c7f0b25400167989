import PyProof.Rows.All
import PySem.Syntax
import PyProof.P3Statements
import Wide.All
import OpenK.AllK
import Wide.FinOn
import PyProof.EqAt
import PyProof.EqKinds
import PyProof.TupleCall
import HandS.ForMost
import HandS.Exc
import HandS.ExcOwn
import HandS.TryOnly
import HandS.TryMany
import HandS.WordsExc
import HandS.Walk
import HandS.Conv
import HandS.TupAny
import HandS.TupMul
import HandS.Deep
import HandS.Zip
import HandS.IsInst
import HandS.CallSlots
import HandS.Flow
import HandS.Style
import HandS.Lambda
import KE.KDictKeyed
import HandS.SortInts
import KE.KSortedM
import KE.LtData
import KE.GoesEnum
import KE.GoesMore
import KE.GoesZip
import HandS.SortRule
import HandS.NamedTupSort
import HandS.SetFor
import HandS.Strs
import KE.SortData
import HandS.NoneIn
import HandS.Iter
import HandS.Dict
import HandS.TupSets
import HandS.DictComp
import HandS.ExcField
import HandS.EndTab
import KE.KNestM
import PySem.Challenge.RW_falsewish_k12_gifts_that_were_seen
set_option Elab.async false
set_option linter.all false
set_option maxRecDepth 100000
set_option maxHeartbeats 4000000
/-! EvA: data, a store, a small language (the program's own trees, resolved), and its evaluator. -/
namespace EV
open PySem

/-- data: immutable things by value (tuples, frozen lists and dicts), mutable objects by place, defs by number -/
inductive D where
  | non | bl (b : Bool) | int (i : Int) | str (x : Str)
  | tup (ds : List D) | lst (ds : List D) | dct (ks vs : List D)
  | rol (ds : List D) | loc (l : Nat) | fn (k : Nat)
  deriving Inhabited

/-- what stands at a place -/
inductive O where
  | lst (ds : List D) | dct (t : Bool) (kvs : List (D × D)) | gone
  deriving Inhabited
abbrev Store := List O
abbrev Sl := List (Option D)

mutual
def D.py : D → PyData
  | .non => .none
  | .bl b => .bool b
  | .int i => .int i
  | .str x => .str x
  | .tup ds => .tuple (D.pys ds)
  | .lst ds => .list (D.pys ds)
  | .rol ds => .list (D.pys ds)
  | .dct _ _ => .none
  | .loc _ => .none
  | .fn _ => .none
def D.pys : List D → List PyData
  | [] => []
  | d :: ds => d.py :: D.pys ds
end
/-- plain data (no place, no def, no dict; texts of code points) -/
def okStr (x : Str) : Bool := x.cps.all (· < 0x110000)
mutual
def D.good : D → Bool
  | .non | .bl _ | .int _ => true
  | .str x => okStr x
  | .tup ds => D.goods ds
  | .lst ds => D.goods ds
  | .rol ds => D.goods ds
  | .dct _ _ | .loc _ | .fn _ => false
def D.goods : List D → Bool
  | [] => true
  | d :: ds => d.good && D.goods ds
end
mutual
def D.dep : D → Nat
  | .tup ds => D.deps ds + 1
  | .lst ds => D.deps ds + 1
  | .rol ds => D.deps ds + 1
  | _ => 0
def D.deps : List D → Nat
  | [] => 0
  | d :: ds => max d.dep (D.deps ds)
end
def okD (d : D) : Bool := d.good && decide (d.dep ≤ 60)
def eqv (a b : D) : Bool := PyData.eqv a.py b.py
mutual
def D.nk : D → Bool
  | .int _ => true
  | .tup ds => D.nks ds
  | _ => false
def D.nks : List D → Bool
  | [] => true
  | d :: ds => d.nk && D.nks ds
end
/-! order of nested tuples of ints -/
mutual
def D.alk : D → D → Bool
  | .int _, .int _ => true
  | .tup xs, .tup ys => D.alks xs ys
  | _, _ => false
def D.alks : List D → List D → Bool
  | x :: xs, y :: ys => D.alk x y && D.alks xs ys
  | [], _ => true
  | _ :: _, [] => true
end
mutual
def D.ltn : D → D → Bool
  | .int i, .int j => decide (i < j)
  | .tup xs, .tup ys => D.ltns xs ys
  | _, _ => false
def D.ltns : List D → List D → Bool
  | x :: xs, y :: ys => if eqv x y then D.ltns xs ys else D.ltn x y
  | [], [] => false
  | [], _ :: _ => true
  | _ :: _, [] => false
end

/-- results of an expression -/
inductive R (α : Type) where
  | ok (a : α) (st : Store)
  | exc (c : Nat) (fs : List D) (st : Store)
  | fail
@[inline] def R.bind {α β : Type} (r : R α) (f : α → Store → R β) : R β :=
  match r with
  | .ok a st => f a st
  | .exc c fs st => .exc c fs st
  | .fail => .fail
/-- no error may leave -/
@[inline] def R.noX {α : Type} (r : R α) : R α := match r with
  | .exc _ _ _ => .fail
  | r => r
@[simp] theorem R.bind_ok {α β : Type} (a : α) (st : Store) (f : α → Store → R β) : (R.ok a st).bind f = f a st := id rfl
@[simp] theorem R.bind_exc {α β : Type} (c : Nat) (fs : List D) (st : Store) (f : α → Store → R β) : (R.exc c fs st : R α).bind f = .exc c fs st := rfl
@[simp] theorem R.bind_fail {α β : Type} (f : α → Store → R β) : (R.fail : R α).bind f = .fail := rfl

/-- results of a statement: slots and store -/
inductive RS where
  | nx (σ : Sl) (st : Store)
  | rt (d : D) (st : Store)
  | bk (σ : Sl) (st : Store)
  | ct (σ : Sl) (st : Store)
  | exc (c : Nat) (fs : List D) (σ : Sl) (st : Store)
  | fail
/-- an expression, then a statement -/
def R.thn {α : Type} (r : R α) (σ : Sl) (f : α → Store → RS) : RS :=
  match r with
  | .ok a st => f a st
  | .exc c fs st => .exc c fs σ st
  | .fail => .fail
@[simp] theorem R.thn_ok {α : Type} (a : α) (σ : Sl) (st : Store) (f : α → Store → RS) : (R.ok a st).thn σ f = f a st := id rfl
@[simp] theorem R.thn_exc {α : Type} (c : Nat) (fs : List D) (σ : Sl) (st : Store) (f : α → Store → RS) : (R.exc c fs st : R α).thn σ f = .exc c fs σ st := rfl
@[simp] theorem R.thn_fail {α : Type} (σ : Sl) (f : α → Store → RS) : (R.fail : R α).thn σ f = .fail := rfl
def RS.noX (r : RS) : RS := match r with
  | .exc _ _ _ _ => .fail
  | r => r
def RS.then (r : RS) (f : Sl → Store → RS) : RS :=
  match r with
  | .nx σ st => f σ st
  | r => r
@[simp] theorem RS.then_nx (σ : Sl) (st : Store) (f : Sl → Store → RS) : (RS.nx σ st).then f = f σ st := rfl
@[simp] theorem RS.then_rt (d : D) (st : Store) (f : Sl → Store → RS) : (RS.rt d st).then f = .rt d st := rfl
@[simp] theorem RS.then_bk (σ : Sl) (st : Store) (f : Sl → Store → RS) : (RS.bk σ st).then f = .bk σ st := rfl
@[simp] theorem RS.then_ct (σ : Sl) (st : Store) (f : Sl → Store → RS) : (RS.ct σ st).then f = .ct σ st := rfl
@[simp] theorem RS.then_exc (c : Nat) (fs : List D) (σ : Sl) (st : Store) (f : Sl → Store → RS) : (RS.exc c fs σ st).then f = .exc c fs σ st := rfl
@[simp] theorem RS.then_fail (f : Sl → Store → RS) : RS.fail.then f = .fail := rfl

/-! ### operations -/
inductive Bop where
  | add | sub | mul | fdiv | mod | pow
  deriving DecidableEq, Repr
inductive Cop where
  | eq | ne | lt | le | gt | ge | isN | notN | isIn | notIn
  deriving DecidableEq, Repr
inductive Tyc where
  | int | bool | str | tuple
  deriving DecidableEq, Repr
inductive Blt where
  | len | abs | int | sum | min1 | max1 | min2 | max2 | all | tuple | list | sorted | sortedT | sortedSet | tupRange | str | sortedN
  deriving DecidableEq, Repr
inductive Mth where
  | index | get2 | pop
  deriving DecidableEq, Repr

/-- the most that a list or a tuple may hold -/
def most : Nat := 1000000
/-- a list's items through the store -/
def deref (st : Store) : D → D
  | .loc l => match st[l]? with
    | some (.lst ds) => .lst ds
    | _ => .loc l
  | .rol ds => .lst ds
  | d => d
def seqOf (st : Store) (d : D) : Option (List D) := match deref st d with
  | .tup ds => some ds
  | .lst ds => some ds
  | _ => none

def smallI (i : Int) : Bool := decide (-(2 ^ 64) < i ∧ i < 2 ^ 64)
def evBin (op : Bop) (a b : D) : Option D := match op, a, b with
  | .add, .int i, .int j => some (.int (i + j))
  | .sub, .int i, .int j => some (.int (i - j))
  | .mul, .int i, .int j => if smallI i || smallI j then some (.int (i * j)) else none
  | .fdiv, .int i, .int j => if decide (j ≠ 0 ∧ j.natAbs < 1073741824) then some (.int (i.fdiv j)) else none
  | .mod, .int i, .int j => if decide (j ≠ 0) then some (.int (i.fmod j)) else none
  | .pow, .int i, .int j => if decide (0 ≤ j ∧ j ≤ 1000 ∧ i.natAbs < 2 ^ 64) then some (.int (i ^ j.toNat)) else none
  | .add, .tup xs, .tup ys => if decide (xs.length + ys.length ≤ most) then some (.tup (xs ++ ys)) else none
  | .add, .lst xs, .lst ys => if decide (xs.length + ys.length ≤ most) then some (.lst (xs ++ ys)) else none
  | .mul, .tup xs, .int k => if decide (xs.length ≠ 0 ∧ 2 ≤ k ∧ k ≤ 1000 ∧ xs.length ≤ 1000) then some (.tup (List.replicate k.toNat xs).flatten) else none
  | .mul, .lst xs, .int k => if decide (k.natAbs ≤ most ∧ xs.length * k.toNat ≤ most) then some (.lst (List.replicate k.toNat xs).flatten) else none
  | .add, .str x, .str y => if decide (x.length + y.length ≤ most) then some (.str (x ++ y)) else none
  | _, _, _ => none

/-- all items ints -/
def intsOf : List D → Option (List Int)
  | [] => some []
  | .int i :: ds => (intsOf ds).map (i :: ·)
  | _ => none
def lexLt : List Int → List Int → Bool
  | [], [] => false
  | [], _ :: _ => true
  | _ :: _, [] => false
  | x :: xs, y :: ys => if x = y then lexLt xs ys else decide (x < y)
def evIn (st : Store) (a b : D) : Option Bool :=
  match seqOf st b with
  | some ds => if okD a && okD (.lst ds) then some (ds.any fun z => eqv z a) else none
  | none => none
def isNon : D → Bool
  | .non => true
  | _ => false
def evCmp (st : Store) (op : Cop) (a b : D) : Option Bool := match op with
  | .eq => if okD (deref st a) && okD (deref st b) then some (eqv (deref st a) (deref st b)) else none
  | .ne => if okD (deref st a) && okD (deref st b) then some (!eqv (deref st a) (deref st b)) else none
  | .lt => match a, b with
    | .int i, .int j => some (decide (i < j))
    | .tup xs, .tup ys => match intsOf xs, intsOf ys with
      | some ns, some ms => some (lexLt ns ms)
      | _, _ => if okD (.tup xs) && okD (.tup ys) && D.alks xs ys then some (D.ltns xs ys) else none
    | _, _ => none
  | .le => match a, b with
    | .int i, .int j => some (decide (i ≤ j))
    | _, _ => none
  | .gt => match a, b with
    | .int i, .int j => some (decide (j < i))
    | _, _ => none
  | .ge => match a, b with
    | .int i, .int j => some (decide (j ≤ i))
    | _, _ => none
  | .isN => match b with
    | .non => some (isNon a)
    | _ => none
  | .notN => match b with
    | .non => some (!isNon a)
    | _ => none
  | .isIn => evIn st a b
  | .notIn => (evIn st a b).map (!·)

/-- an index, of any sign -/
def ixOf (n : Nat) (i : Int) : Option Nat := if 0 ≤ i then (if i < n then some i.toNat else none) else if -(n : Int) ≤ i then some (i + n).toNat else none
def evIdx (st : Store) (a i : D) : Option D :=
  match seqOf st a, i with
  | some ds, .int k => (ixOf ds.length k).bind fun j => ds[j]?
  | _, _ => none
def cutIx (n d : Nat) : Option Int → Nat
  | none => d
  | some v => if v < 0 then (max (v + n) 0).toNat else min v.toNat n
def cut (ds : List D) (lo hi : Option Int) : List D := (ds.drop (cutIx ds.length 0 lo)).take (cutIx ds.length ds.length hi - cutIx ds.length 0 lo)
def evSl (st : Store) (a : D) (lo hi : Option Int) : Option D := match deref st a with
  | .tup ds => some (.tup (cut ds lo hi))
  | .lst ds => some (.lst (cut ds lo hi))
  | _ => none

def boolsOf : List D → Option (List Bool)
  | [] => some []
  | .bl b :: ds => (boolsOf ds).map (b :: ·)
  | _ => none
def insI (x : Int) : List Int → List Int
  | [] => [x]
  | y :: ys => if x ≤ y then x :: y :: ys else y :: insI x ys
def sortI (l : List Int) : List Int := l.foldr insI []
/-- rows of ints -/
def rowsOf : List D → Option (List (List Int))
  | [] => some []
  | .tup ds :: es => (intsOf ds).bind fun ns => (rowsOf es).map (ns :: ·)
  | _ => none
def insL (x : List Int) : List (List Int) → List (List Int)
  | [] => [x]
  | y :: ys => if lexLt y x then y :: insL x ys else x :: y :: ys
def sortL (l : List (List Int)) : List (List Int) := l.foldr insL []
def rowD (ns : List Int) : D := .tup (ns.map .int)
/-- the first row is the empty one (or there is but one) -/
def firstNil : List (List Int) → Bool
  | [] => true
  | x :: _ => x.isEmpty
/-- all of two numbers -/
def twos (l : List (List Int)) : Bool := l.all fun r => r.length == 2
def nubI : List Int → List Int
  | [] => []
  | x :: xs => if xs.contains x then nubI xs else x :: nubI xs
def evSrs (d : D) : Option D := match d with
  | .tup ds => (intsOf ds).bind fun ns => if decide (ns.length < 64) then some (.lst ((sortI (nubI ns)).map .int)) else none
  | _ => none
def keyOk (t : Bool) (k : D) : Bool := match t, k with
  | false, .int _ => true
  | true, .tup ds => D.nks ds && decide (D.deps ds + 1 ≤ 8)
  | _, _ => false
def D.leN (a b : D) : Bool := !D.ltn b a
def sortN (ds : List D) : List D := ds.mergeSort D.leN
def D.full : D → Bool
  | .tup (_ :: _) => true
  | _ => false
/-- nested tuples of ints, none of them empty, which may be ordered -/
def fullN (ds : List D) : Bool := ds.all fun d => d.full && keyOk true d && ds.all fun e => D.alk d e
def evBlt (st : Store) (f : Blt) (as : List D) : Option D := match f, as with
  | .len, [a] => (seqOf st a).map fun ds => .int ds.length
  | .abs, [.int i] => some (.int (if i < 0 then -i else i))
  | .int, [.int i] => some (.int i)
  | .int, [.bl b] => some (.int (if b then 1 else 0))
  | .sum, [.lst ds] => (intsOf ds).map fun ns => .int ns.sum
  | .min2, [.int i, .int j] => some (.int (if j < i then j else i))
  | .max2, [.int i, .int j] => some (.int (if j > i then j else i))
  | .min1, [.lst ds] => (intsOf ds).bind fun ns => match ns with
    | [] => none
    | n :: r => some (.int (r.foldl (fun m x => if x < m then x else m) n))
  | .max1, [.lst ds] => (intsOf ds).bind fun ns => match ns with
    | [] => none
    | n :: r => some (.int (r.foldl (fun m x => if x > m then x else m) n))
  | .all, [.lst ds] => (boolsOf ds).map fun bs => .bl (bs.all id)
  | .tuple, [a] => (seqOf st a).map .tup
  | .list, [a] => (seqOf st a).map .lst
  | .sorted, [.lst ds] => (intsOf ds).map fun ns => .lst ((sortI ns).map .int)
  | .sortedT, [.lst ds] => (rowsOf ds).bind fun ns => if firstNil ns || twos ns then some (.lst ((sortL ns).map rowD)) else none
  | .sortedN, [.lst ds] => if fullN ds then some (.lst (sortN ds)) else match ds with
    | [.tup []] => some (.lst [.tup []])
    | _ => none
  | .tupRange, [.int n] => if decide (n ≤ most ∧ -(2 ^ 62) ≤ n) then some (.tup ((List.range n.toNat).map fun (i : Nat) => .int (i : Int))) else none
  | _, _ => none
/-- tuple(range(n)) -/
def evTrg (d : D) : Option D := match d with
  | .int n => if decide (n ≤ most ∧ -(2 ^ 62) ≤ n) then some (.tup ((List.range n.toNat).map fun (i : Nat) => .int (i : Int))) else none
  | _ => none
/-- {k1: x, k2: y}.get(k, z) -/
def evDgt (k1 k2 : Str) (x y k z : D) : Option D := match k with
  | .str s => some (if s = k1 then x else if s = k2 then y else z)
  | _ => none
def evIsi (d : D) (t : Tyc) : Option Bool := match d, t with
  | .int _, t => some (t == .int)
  | .bl _, t => some (t == .int || t == .bool)
  | .str _, t => some (t == .str)
  | .tup _, t => some (t == .tuple)
  | .non, _ => some false
  | .lst _, _ => some false
  | _, _ => none

mutual
def D.beq : D → D → Bool
  | .non, .non => true
  | .bl a, .bl b => a == b
  | .int a, .int b => decide (a = b)
  | .str a, .str b => decide (a = b)
  | .tup a, .tup b => D.beqs a b
  | .lst a, .lst b => D.beqs a b
  | _, _ => false
def D.beqs : List D → List D → Bool
  | [], [] => true
  | a :: as, b :: bs => D.beq a b && D.beqs as bs
  | _, _ => false
end
mutual
theorem D.beq_eq : ∀ a b : D, D.beq a b = true → a = b
  | .non, b, h => by cases b <;> simp [D.beq] at h ⊢
  | .bl a, b, h => by cases b <;> simp [D.beq] at h ⊢; exact h
  | .int a, b, h => by cases b <;> simp [D.beq] at h ⊢; exact h
  | .str a, b, h => by cases b <;> simp [D.beq] at h ⊢; exact h
  | .tup a, b, h => by cases b <;> simp [D.beq] at h ⊢; exact D.beqs_eq _ _ h
  | .lst a, b, h => by cases b <;> simp [D.beq] at h ⊢; exact D.beqs_eq _ _ h
  | .dct _ _, b, h => by cases b <;> simp [D.beq] at h
  | .rol _, b, h => by cases b <;> simp [D.beq] at h
  | .loc _, b, h => by cases b <;> simp [D.beq] at h
  | .fn _, b, h => by cases b <;> simp [D.beq] at h
theorem D.beqs_eq : ∀ a b : List D, D.beqs a b = true → a = b
  | [], b, h => by cases b <;> simp [D.beqs] at h ⊢
  | x :: xs, b, h => by
    cases b with
    | nil => simp [D.beqs] at h
    | cons y ys =>
      rw [D.beqs, Bool.and_eq_true] at h
      rw [D.beq_eq _ _ h.1, D.beqs_eq _ _ h.2]
end


/-! ### dicts: keys that are ints (frozen ones, too), or nested tuples of ints -/
def dGet (kvs : List (D × D)) (k : D) : Option D := (kvs.find? fun p => D.beq p.1 k).map (·.2)
def dPut (kvs : List (D × D)) (k v : D) : List (D × D) := if kvs.any fun p => D.beq p.1 k then kvs.map fun p => if D.beq p.1 k then (p.1, v) else p else kvs ++ [(k, v)]
/-- a dict, through the store -/
def dicOf (st : Store) : D → Option (Bool × List (D × D))
  | .loc l => match st[l]? with
    | some (.dct t kvs) => some (t, kvs)
    | _ => none
  | .dct ks vs => some (false, ks.zip vs)
  | _ => none
def evDix (st : Store) (x k : D) : Option D := match dicOf st x with
  | some (t, kvs) => if keyOk t k then dGet kvs k else none
  | none => none
def evDin (st : Store) (k x : D) : Option Bool := match dicOf st x with
  | some (t, kvs) => if keyOk t k then some (dGet kvs k).isSome else none
  | none => none
def D.isL : D → Bool
  | .lst _ => true
  | _ => false
def evDge (st : Store) (x k z : D) : Option D := match dicOf st x with
  | some (t, kvs) => if keyOk t k then some ((dGet kvs k).getD z) else none
  | none => none
/-- the first place of a thing in a list -/
def evLix (st : Store) (x a : D) : Option D := match x with
  | .lst ds => if okD a && okD (.lst ds) && ds.any (fun z => eqv z a) then some (.int ((ds.findIdx fun z => eqv z a : Nat) : Int)) else none
  | _ => none
def evRev (x : D) : Option D := match x with
  | .lst ds => some (.lst ds.reverse)
  | .tup ds => some (.tup ds.reverse)
  | _ => none
/-! ### nested tuples of ints in order; what a word-def makes of an error -/
/-- each once -/
def nubD : List D → List D
  | [] => []
  | x :: xs => if xs.any fun z => D.beq z x then nubD xs else x :: nubD xs
def evSrn (d : D) : Option D := match d with
  | .lst ds => if ds.all (keyOk true) && decide (ds.length < 64) then
      (if fullN (nubD ds) then some (.lst (sortN (nubD ds))) else match nubD ds with
      | [.tup []] => some (.lst [.tup []])
      | _ => none) else none
  | _ => none
inductive Wd where
  | con (d : D)
  | atr
def Wd.beq : Wd → Wd → Bool
  | .con a, .con b => D.beq a b
  | .atr, .atr => true
  | _, _ => false
def wdsBeq : List (Nat × Wd) → List (Nat × Wd) → Bool
  | [], [] => true
  | (a, x) :: r, (b, y) :: t => decide (a = b) && Wd.beq x y && wdsBeq r t
  | _, _ => false
def triWd : Wd → List D → Store → R D
  | .con d, _, st => .ok d st
  | .atr, [d], st => .ok d st
  | .atr, _, _ => .fail
def triOf : List (Nat × Wd) → Nat → List D → Store → R D
  | [], _, _, _ => .fail
  | (k, w) :: r, c, fs, st => if c = k then triWd w fs st else triOf r c fs st
def triR (keep : Bool) (c0 : D) (hs : List (Nat × Wd)) : R D → R D
  | .ok d st => .ok (if keep then d else c0) st
  | .exc c fs st => triOf hs c fs st
  | .fail => .fail
/-! ### the trees -/
mutual
inductive Tg where
  | name (i : Nat)
  | tup (ts : Tgs)
inductive Tgs where
  | nil
  | cons (t : Tg) (ts : Tgs)
end
mutual
inductive X where
  | var (i : Nat)
  | con (d : D)
  | gfn (k : Nat)
  | bin (op : Bop) (a b : X)
  | neg (a : X)
  | not (a : X)
  | bop (isAnd : Bool) (xs : Xs)
  | cmp (op : Cop) (a b : X)
  | chn (op op' : Cop) (a b c : X)
  | ife (c a b : X)
  | tup (xs : Xs)
  | lst (mu : Bool) (xs : Xs)
  | idx (a i : X)
  | sl (a : X) (lo hi : Xo)
  | call (k : Nat) (args : Xs)
  | callv (i : Nat) (ks : List Nat) (args : Xs)
  | blt (f : Blt) (args : Xs)
  | isi (a : X) (t : Tyc)
  | mth (m : Mth) (o : X) (args : Xs)
  | lc (mu : Bool) (elt : X) (tg : Tg) (src : Sr) (cond : Xo) (own : List Nat)
  | frz (a : X)
  | srs (a : X)
  | trg (a : X)
  | dgt (k1 k2 : Str) (a b k d : X)
  | catm (a b : X)
  | dnew (t : Bool)
  | dsp (k v : X)
  | dix (d k : X)
  | din (neg : Bool) (k d : X)
  | dge (d k z : X)
  | lix (a z : X)
  | rev (a : X)
  | srn (a : X)
  | tri (keep : Bool) (c0 : D) (hs : List (Nat × Wd)) (x : X)
inductive Xs where
  | nil
  | cons (x : X) (xs : Xs)
inductive Xo where
  | none
  | some (x : X)
inductive Sr where
  | val (a : X)
  | keys (a : X)
  | rng (a : X)
  | rng2 (a b : X)
  | enm (a : X)
  | zip (a b : X)
end

mutual
/-- a target takes a value -/
def evTg : Tg → D → Sl → Option Sl
  | .name i, d, σ => if i < σ.length then some (σ.set i (some d)) else none
  | .tup ts, d, σ => match d with
    | .tup ds => evTgs ts ds σ
    | .lst ds => evTgs ts ds σ
    | _ => none
def evTgs : Tgs → List D → Sl → Option Sl
  | .nil, [], σ => some σ
  | .cons t ts, d :: ds, σ => (evTg t d σ).bind fun σ' => evTgs ts ds σ'
  | _, _, _ => none
end
mutual
def Tg.slots : Tg → List Nat
  | .name i => [i]
  | .tup ts => Tgs.slots ts
def Tgs.slots : Tgs → List Nat
  | .nil => []
  | .cons t ts => t.slots ++ Tgs.slots ts
end
def wipeE (σ : Sl) : List Nat → Sl
  | [] => σ
  | v :: vs => (wipeE σ vs).set v none

/-- a comprehension's turns: f gives none where the test fails -/
def lcLoop (f : D → Store → R (Option D)) : List D → List D → Store → R (List D)
  | [], acc, st => .ok acc.reverse st
  | d :: ds, acc, st => (f d st).noX.bind fun o st1 => lcLoop f ds (match o with | some x => x :: acc | none => acc) st1

def ofOpt {α : Type} (o : Option α) (st : Store) : R α := match o with
  | some a => .ok a st
  | none => .fail
@[simp] theorem ofOpt_some {α : Type} (a : α) (st : Store) : ofOpt (some a) st = .ok a st := rfl
@[simp] theorem ofOpt_none {α : Type} (st : Store) : (ofOpt none st : R α) = .fail := rfl

abbrev Call := Nat → List D → Store → R D
/-- a + b, a list that may change -/
def evCatm (x y : D) (st : Store) : R D := match x, y with
  | .lst xs, .lst ys => if decide (xs.length + ys.length ≤ most) then .ok (.loc st.length) (st ++ [.lst (xs ++ ys)]) else .fail
  | _, _ => .fail

mutual
def evX (cf : Call) : X → Sl → Store → R D
  | .var i, σ, st => match σ[i]? with
    | some (some d) => .ok d st
    | _ => .fail
  | .con d, _, st => .ok d st
  | .gfn k, _, st => .ok (.fn k) st
  | .bin op a b, σ, st => (evX cf a σ st).bind fun x st1 => (evX cf b σ st1).bind fun y st2 => ofOpt (evBin op x y) st2
  | .neg a, σ, st => (evX cf a σ st).bind fun x st1 => match x with
    | .int i => .ok (.int (-i)) st1
    | _ => .fail
  | .not a, σ, st => (evX cf a σ st).bind fun x st1 => match x with
    | .bl b => .ok (.bl (!b)) st1
    | _ => .fail
  | .bop isAnd xs, σ, st => evBop cf isAnd xs σ st
  | .cmp op a b, σ, st => (evX cf a σ st).bind fun x st1 => (evX cf b σ st1).bind fun y st2 => ofOpt ((evCmp st2 op x y).map .bl) st2
  | .chn op op' a b c, σ, st => (evX cf a σ st).bind fun x st1 => (evX cf b σ st1).bind fun y st2 =>
    match evCmp st2 op x y with
    | none => .fail
    | some false => .ok (.bl false) st2
    | some true => (evX cf c σ st2).bind fun z st3 => ofOpt ((evCmp st3 op' y z).map .bl) st3
  | .ife c a b, σ, st => (evX cf c σ st).bind fun x st1 => match x with
    | .bl true => evX cf a σ st1
    | .bl false => evX cf b σ st1
    | _ => .fail
  | .tup xs, σ, st => (evXs cf xs σ st).bind fun ds st1 => .ok (.tup ds) st1
  | .lst mu xs, σ, st => (evXs cf xs σ st).bind fun ds st1 => if mu then .ok (.loc st1.length) (st1 ++ [.lst ds]) else .ok (.lst ds) st1
  | .idx a i, σ, st => (evX cf a σ st).bind fun x st1 => (evX cf i σ st1).bind fun y st2 => ofOpt (evIdx st2 x y) st2
  | .sl a lo hi, σ, st => (evX cf a σ st).bind fun x st1 => (evXo cf lo σ st1).bind fun l st2 => (evXo cf hi σ st2).bind fun h st3 => ofOpt (evSl st3 x l h) st3
  | .call k args, σ, st => (evXs cf args σ st).bind fun ds st1 => cf k ds st1
  | .callv i ks args, σ, st => match σ[i]? with
    | some (some (.fn k)) => if ks.contains k then (evXs cf args σ st).bind fun ds st1 => cf k ds st1 else .fail
    | _ => .fail
  | .blt f args, σ, st => (evXs cf args σ st).bind fun ds st1 => ofOpt (evBlt st1 f ds) st1
  | .isi a t, σ, st => (evX cf a σ st).bind fun x st1 => ofOpt ((evIsi x t).map .bl) st1
  | .mth _ _ _, _, _ => .fail
  | .lc mu elt tg src cond own, σ, st => (evSr cf src σ st).bind fun items st1 =>
    (lcLoop (fun d s => match evTg tg d (wipeE σ own) with
      | none => .fail
      | some σ1 => (evXc cf cond σ1 s).bind fun b s1 => if b then (evX cf elt σ1 s1).bind fun x s2 => .ok (some x) s2 else .ok none s1) items [] st1).bind fun ds st2 =>
    if mu then .ok (.loc st2.length) (st2 ++ [.lst ds]) else .ok (.lst ds) st2
  | .frz a, σ, st => (evX cf a σ st).bind fun x st1 => match x with
    | .loc l => match st1[l]? with
      | some (.lst ds) => .ok (.lst ds) (st1.set l .gone)
      | _ => .fail
    | _ => .fail
  | .srs a, σ, st => (evX cf a σ st).bind fun x st1 => ofOpt (evSrs x) st1
  | .trg a, σ, st => (evX cf a σ st).bind fun x st1 => ofOpt (evTrg x) st1
  | .dgt k1 k2 a b k d, σ, st => (evX cf a σ st).bind fun x st1 => (evX cf b σ st1).bind fun y st2 => (evX cf k σ st2).bind fun u st3 => (evX cf d σ st3).bind fun z st4 => ofOpt (evDgt k1 k2 x y u z) st4
  | .catm a b, σ, st => (evX cf a σ st).bind fun x st1 => (evX cf b σ st1).bind fun y st2 => evCatm x y st2
  | .dnew t, _, st => .ok (.loc st.length) (st ++ [.dct t []])
  | .dsp k v, σ, st => (evX cf k σ st).bind fun x st1 => (evX cf v σ st1).bind fun y st2 => if keyOk false x then .ok (.loc st2.length) (st2 ++ [.dct false [(x, y)]]) else .fail
  | .dix d k, σ, st => (evX cf d σ st).bind fun x st1 => (evX cf k σ st1).bind fun y st2 => ofOpt (evDix st2 x y) st2
  | .din neg k d, σ, st => (evX cf k σ st).bind fun y st1 => (evX cf d σ st1).bind fun x st2 => ofOpt ((evDin st2 y x).map fun b => .bl (b != neg)) st2
  | .dge d k z, σ, st => (evX cf d σ st).bind fun x st1 => if (dicOf st1 x).isSome then (evX cf k σ st1).bind fun y st2 => (evX cf z σ st2).bind fun u st3 => ofOpt (evDge st3 x y u) st3 else .fail
  | .lix a z, σ, st => (evX cf a σ st).bind fun x st1 => if x.isL then (evX cf z σ st1).bind fun y st2 => ofOpt (evLix st2 x y) st2 else .fail
  | .rev a, σ, st => (evX cf a σ st).bind fun x st1 => ofOpt (evRev x) st1
  | .srn a, σ, st => (evX cf a σ st).bind fun x st1 => ofOpt (evSrn x) st1
  | .tri keep c0 hs x, σ, st => triR keep c0 hs (evX cf x σ st)
def evXs (cf : Call) : Xs → Sl → Store → R (List D)
  | .nil, _, st => .ok [] st
  | .cons x xs, σ, st => (evX cf x σ st).bind fun d st1 => (evXs cf xs σ st1).bind fun ds st2 => .ok (d :: ds) st2
def evBop (cf : Call) (isAnd : Bool) : Xs → Sl → Store → R D
  | .nil, _, _ => .fail
  | .cons x .nil, σ, st => evX cf x σ st
  | .cons x xs, σ, st => (evX cf x σ st).bind fun d st1 => match d with
    | .bl b => if b = isAnd then evBop cf isAnd xs σ st1 else .ok (.bl b) st1
    | _ => .fail
def evXo (cf : Call) : Xo → Sl → Store → R (Option Int)
  | .none, _, st => .ok none st
  | .some x, σ, st => (evX cf x σ st).bind fun d st1 => match d with
    | .int i => .ok (some i) st1
    | _ => .fail
/-- a comprehension's test -/
def evXc (cf : Call) : Xo → Sl → Store → R Bool
  | .none, _, st => .ok true st
  | .some x, σ, st => (evX cf x σ st).bind fun d st1 => match d with
    | .bl b => .ok b st1
    | _ => .fail
/-- the items of what is walked -/
def evSr (cf : Call) : Sr → Sl → Store → R (List D)
  | .val a, σ, st => (evX cf a σ st).bind fun x st1 => match x with
    | .tup ds => .ok ds st1
    | .lst ds => .ok ds st1
    | .rol ds => .ok ds st1
    | _ => .fail
  | .keys a, σ, st => (evX cf a σ st).bind fun x st1 => match x with
    | .dct ks _ => .ok ks st1
    | _ => .fail
  | .rng a, σ, st => (evX cf a σ st).bind fun x st1 => match x with
    | .int n => if decide (n ≤ most ∧ -(2 ^ 62) ≤ n) then .ok ((List.range n.toNat).map fun (i : Nat) => .int (i : Int)) st1 else .fail
    | _ => .fail
  | .rng2 a b, σ, st => (evX cf a σ st).bind fun x st1 => (evX cf b σ st1).bind fun y st2 => match x, y with
    | .int lo, .int hi => if decide (-(2 ^ 62) ≤ lo ∧ lo < 2 ^ 62 ∧ -(2 ^ 62) ≤ hi ∧ hi < 2 ^ 62 ∧ hi - lo ≤ most) then .ok ((List.range (hi - lo).toNat).map fun (i : Nat) => .int (lo + (i : Int))) st2 else .fail
    | _, _ => .fail
  | .enm a, σ, st => (evX cf a σ st).bind fun x st1 => match x with
    | .tup ds => .ok (ds.mapIdx fun i d => .tup [.int i, d]) st1
    | .lst ds => .ok (ds.mapIdx fun i d => .tup [.int i, d]) st1
    | _ => .fail
  | .zip a b, σ, st => (evX cf a σ st).bind fun x st1 => (evX cf b σ st1).bind fun y st2 => match x, y with
    | .tup xs, .tup ys => .ok (List.zipWith (fun p q => .tup [p, q]) xs ys) st2
    | .lst xs, .lst ys => .ok (List.zipWith (fun p q => .tup [p, q]) xs ys) st2
    | .tup xs, .lst ys => .ok (List.zipWith (fun p q => .tup [p, q]) xs ys) st2
    | .lst xs, .tup ys => .ok (List.zipWith (fun p q => .tup [p, q]) xs ys) st2
    | _, _ => .fail
end

/-! ### statements -/
mutual
inductive S where
  | asg (tg : Tg) (e : X)
  | sto (o i e : X)
  | app (o e : X)
  | ex (e : X)
  | ret (e : X)
  | retN
  | ite (c : X) (a b : Ss)
  | for (tg : Tg) (src : Sr) (body : Ss)
  | whl (c : X) (body : Ss)
  | rse (c : Nat)
  | rseA (c : Nat) (e : X)
  | tryc (body : Ss) (hs : Hs)
  | dput (d k v : X)
  | dcm (i : Nat) (tg : Tg) (src : Sr) (k v : X) (own : List Nat)
  | frzv (i : Nat)
  | nev
inductive Ss where
  | nil
  | cons (s : S) (ss : Ss)
inductive Hs where
  | nil
  | cons (c : Nat) (body : Ss) (hs : Hs)
end
def forLoop (f : D → Sl → Store → RS) : List D → Sl → Store → RS
  | [], σ, st => .nx σ st
  | d :: ds, σ, st => match f d σ st with
    | .nx σ1 st1 => forLoop f ds σ1 st1
    | .ct σ1 st1 => forLoop f ds σ1 st1
    | .bk σ1 st1 => .nx σ1 st1
    | r => r
def whlLoop (c : Sl → Store → R D) (f : Sl → Store → RS) : Nat → Sl → Store → RS
  | 0, _, _ => .fail
  | n + 1, σ, st => match c σ st with
    | .ok (.bl true) st1 => match f σ st1 with
      | .nx σ2 st2 => whlLoop c f n σ2 st2
      | .ct σ2 st2 => whlLoop c f n σ2 st2
      | .bk σ2 st2 => .nx σ2 st2
      | r => r
    | .ok (.bl false) st1 => .nx σ st1
    | .exc c fs st1 => .exc c fs σ st1
    | _ => .fail
def evAsg (tg : Tg) (d : D) (σ : Sl) (st : Store) : RS := match evTg tg d σ with
  | some σ1 => .nx σ1 st
  | none => .fail
def evSto (o i d : D) (σ : Sl) (st : Store) : RS := match o, i with
  | .loc l, .int k => match st[l]? with
    | some (.lst ds) => match ixOf ds.length k with
      | some j => .nx σ (st.set l (.lst (ds.set j d)))
      | none => .fail
    | _ => .fail
  | _, _ => .fail
/-- a list that may change -/
def isLoc (st : Store) (o : D) : Bool := match o with
  | .loc l => match st[l]? with
    | some (.lst _) => true
    | _ => false
  | _ => false
def evApp (o d : D) (σ : Sl) (st : Store) : RS := match o with
  | .loc l => match st[l]? with
    | some (.lst ds) => if decide (ds.length < most) then .nx σ (st.set l (.lst (ds ++ [d]))) else .fail
    | _ => .fail
  | _ => .fail
def evFrzv (i : Nat) (σ : Sl) (st : Store) : RS := match σ[i]? with
  | some (some (.loc l)) => match st[l]? with
    | some (.lst ds) => .nx (σ.set i (some (.lst ds))) (st.set l .gone)
    | some (.dct false kvs) => .nx (σ.set i (some (.dct (kvs.map (·.1)) (kvs.map (·.2))))) (st.set l .gone)
    | _ => .fail
  | _ => .fail
def evDput (o i d : D) (σ : Sl) (st : Store) : RS := match o with
  | .loc l => match st[l]? with
    | some (.dct t kvs) => if keyOk t i && decide (kvs.length < most) then .nx σ (st.set l (.dct t (dPut kvs i d))) else .fail
    | _ => .fail
  | _ => .fail
/-- a dict comprehension's turns -/
def dcLoop (f : D → Store → R Unit) : List D → Store → R Unit
  | [], st => .ok () st
  | d :: ds, st => (f d st).noX.bind fun _ st1 => dcLoop f ds st1
def evDset (l : Nat) (x y : D) (st : Store) : R Unit := match st[l]? with
  | some (.dct true kvs) => if keyOk true x && decide (kvs.length < most) then .ok () (st.set l (.dct true (dPut kvs x y))) else .fail
  | _ => .fail
/-! sub c d: class c is d, or below it -/
mutual
def evS (cf : Call) (sub : Nat → Nat → Bool) (fu : Nat) : S → Sl → Store → RS
  | .asg tg e, σ, st => (evX cf e σ st).thn σ fun d st1 => evAsg tg d σ st1
  | .sto o i e, σ, st => (evX cf e σ st).thn σ fun d st1 => (evX cf o σ st1).thn σ fun x st2 => (evX cf i σ st2).thn σ fun y st3 => evSto x y d σ st3
  | .app o e, σ, st => (evX cf o σ st).thn σ fun x st1 => if isLoc st1 x then (evX cf e σ st1).thn σ fun d st2 => evApp x d σ st2 else .fail
  | .ex e, σ, st => (evX cf e σ st).thn σ fun _ st1 => .nx σ st1
  | .ret e, σ, st => (evX cf e σ st).thn σ fun d st1 => .rt d st1
  | .retN, _, st => .rt .non st
  | .ite c a b, σ, st => (evX cf c σ st).thn σ fun d st1 => match d with
    | .bl true => evSs cf sub fu a σ st1
    | .bl false => evSs cf sub fu b σ st1
    | _ => .fail
  | .for tg src body, σ, st => (evSr cf src σ st).thn σ fun items st1 =>
    forLoop (fun d σ1 s => match evTg tg d σ1 with
      | some σ2 => evSs cf sub fu body σ2 s
      | none => .fail) items σ st1
  | .whl c body, σ, st => whlLoop (evX cf c) (evSs cf sub fu body) fu σ st
  | .rse c, σ, st => .exc c [] σ st
  | .rseA c e, σ, st => (evX cf e σ st).thn σ fun d st1 => .exc c [d] σ st1
  | .tryc body hs, σ, st => match evSs cf sub fu body σ st with
    | .exc c fs σ1 st1 => evHs cf sub fu hs c fs σ1 st1
    | r => r
  | .dput o i e, σ, st => (evX cf e σ st).thn σ fun d st1 => (evX cf o σ st1).thn σ fun x st2 => (evX cf i σ st2).thn σ fun y st3 => evDput x y d σ st3
  | .dcm i tg src k v own, σ, st => (evSr cf src σ st).thn σ fun items st1 =>
    (dcLoop (fun d s => match evTg tg d (wipeE σ own) with
      | none => .fail
      | some σ1 => (evX cf k σ1 s).bind fun x s1 => (evX cf v σ1 s1).bind fun y s2 => evDset st1.length x y s2) items (st1 ++ [.dct true []])).thn σ fun _ st2 => evAsg (.name i) (.loc st1.length) σ st2
  | .frzv i, σ, st => evFrzv i σ st
  | .nev, _, _ => .fail
def evSs (cf : Call) (sub : Nat → Nat → Bool) (fu : Nat) : Ss → Sl → Store → RS
  | .nil, σ, st => .nx σ st
  | .cons s ss, σ, st => (evS cf sub fu s σ st).then fun σ1 st1 => evSs cf sub fu ss σ1 st1
def evHs (cf : Call) (sub : Nat → Nat → Bool) (fu : Nat) : Hs → Nat → List D → Sl → Store → RS
  | .nil, c, fs, σ, st => .exc c fs σ st
  | .cons k body hs, c, fs, σ, st => if sub c k then (evSs cf sub fu body σ st).noX else evHs cf sub fu hs c fs σ st
end
/-- a def's body at its arguments: n slots in all -/
def evDef (cf : Call) (sub : Nat → Nat → Bool) (fu : Nat) (n : Nat) (body : Ss) (as : List D) (st : Store) : R D :=
  match evSs cf sub fu body (as.map some ++ List.replicate (n - as.length) none) st with
  | .nx _ st1 => .ok .non st1
  | .rt d st1 => .ok d st1
  | .exc c fs _ st1 => .exc c fs st1
  | _ => .fail
end EV
/-! EvB: how the data lies in the abstract heap; readings of the evaluator's results. -/
namespace EV
open PySem PySem.Spec PyProof.Rows L2

/-- where defs and classes stand; the name of an own error's attribute -/
structure G where
  fa : Nat → Addr
  ca : Nat → Addr
  xa : Nat → Str
  /-- the program and the world (of a dict's keys) -/
  P : Program
  w : World
  /-- lists that are being made, out of reach -/
  hid : List Addr := []
  /-- tables of code objects (of a def's lambdas) -/
  tb : List (Addr × Str) := []
def G.h (g : G) (l : List Addr) : G := { g with hid := l }

def O.live : O → Prop
  | .gone => False
  | _ => True
def Live (μ : List Addr) (st : Store) (a : Addr) : Prop := ∃ (l : Nat) (o : O), μ[l]? = some a ∧ st[l]? = some o ∧ o.live

/-- a dict of ints -/
def dKof (ns : List Int) (xs : List V) : HO := .dK (List.zipWith (fun n x => (Sum.inl n, x)) ns xs)
/-- a dict at a whose keys are nested tuples: its entries, told without the heap -/
def dctF (P : Program) (w : World) (a : Addr) (ents : List (NestedKey × Addr × V)) (h : Heap) : Prop :=
  (a == sysModules) = false ∧ ∃ xs : List (NestedKey × Addr × Value), Paired (fun (p : NestedKey × Addr × V) (q : NestedKey × Addr × Value) => p.1 = q.1 ∧ p.2.1 = q.2.1 ∧ RelV p.2.2 q.2.2) ents xs ∧
    ∃ o es ep, h.get? a = some o ∧ o.ExactDict ∧ o.data = .dict es ep ∧ es.toList = xs.map (entryOfKey (nestedKind P w)) ∧ (xs.map (·.1)).Nodup
mutual
/-- data as a key -/
def D.key : D → NestedKey
  | .int i => .num i
  | .tup ds => .tup (D.keys ds)
  | _ => .none
def D.keys : List D → List NestedKey
  | [] => []
  | d :: ds => d.key :: D.keys ds
end
/-- a list of the module's own -/
def LstK (K : PySem.W.Frag) (a : Addr) (xs : List V) : Prop :=
  ∃ (o : Obj) (its : Array Value) (n : Nat), K.lookup a = some o ∧ o.cls = .type "list" ∧ o.dict = none ∧ o.data = .seq its n ∧ its.size ≤ sizeLine ∧ Vals xs its.toList
mutual
inductive Rep (K : PySem.W.Frag) (g : G) (μ : List Addr) (st : Store) (H : Hp) : D → V → Prop
  | non : Rep K g μ st H .non .non
  | bl (b : Bool) : Rep K g μ st H (.bl b) (.bl b)
  | int (i : Int) : Rep K g μ st H (.int i) (.int i)
  | str (x : Str) : Rep K g μ st H (.str x) (.str x)
  | tup {a : Addr} {xs : List V} {ds : List D} : SqT K H a xs → ds.length ≤ most → Reps K g μ st H ds xs → Rep K g μ st H (.tup ds) (.ref a)
  | lst {a : Addr} {xs : List V} {ds : List D} : Rd H a (.lst xs) → ¬ Live μ st a → a ∉ g.hid → ds.length ≤ most → Reps K g μ st H ds xs → Rep K g μ st H (.lst ds) (.ref a)
  | lstK {a : Addr} {xs : List V} {ds : List D} : LstK K a xs → ds.length ≤ most → Reps K g μ st H ds xs → Rep K g μ st H (.rol ds) (.ref a)
  | rol {a : Addr} {xs : List V} {ds : List D} {o : Obj} : H a = some (.frz o (.lst xs)) → ds.length ≤ most → Reps K g μ st H ds xs → Rep K g μ st H (.rol ds) (.ref a)
  | dct {a : Addr} {o : Obj} {ns : List Int} {xs : List V} {ks vs : List D} : H a = some (.frz o (dKof ns xs)) → ks = ns.map .int → ns.length = xs.length → ks.length ≤ most → Reps K g μ st H vs xs → Rep K g μ st H (.dct ks vs) (.ref a)
  | loc {l : Nat} {a : Addr} : μ[l]? = some a → Rep K g μ st H (.loc l) (.ref a)
  | fn (k : Nat) : Rep K g μ st H (.fn k) (.ref (g.fa k))
inductive Reps (K : PySem.W.Frag) (g : G) (μ : List Addr) (st : Store) (H : Hp) : List D → List V → Prop
  | nil : Reps K g μ st H [] []
  | cons {d : D} {v : V} {ds : List D} {vs : List V} : Rep K g μ st H d v → Reps K g μ st H ds vs → Reps K g μ st H (d :: ds) (v :: vs)
end
/-- the entries of a dict of ints, of one of tuples -/
inductive EntK (Rp : D → V → Prop) : List (D × D) → List Int → List V → Prop
  | nil : EntK Rp [] [] []
  | cons {i : Int} {d : D} {v : V} {kvs : List (D × D)} {ns : List Int} {xs : List V} : Rp d v → EntK Rp kvs ns xs → EntK Rp ((.int i, d) :: kvs) (i :: ns) (v :: xs)
inductive EntT (Rp : D → V → Prop) : List (D × D) → List (NestedKey × Addr × V) → Prop
  | nil : EntT Rp [] []
  | cons {k : D} {b : Addr} {d : D} {v : V} {kvs : List (D × D)} {es : List (NestedKey × Addr × V)} : keyOk true k = true → Rp k (.ref b) → Rp d v → EntT Rp kvs es → EntT Rp ((k, d) :: kvs) ((k.key, b, v) :: es)
theorem EntK.imp {Rp Rq : D → V → Prop} (h : ∀ d v, Rp d v → Rq d v) : ∀ {kvs : List (D × D)} {ns : List Int} {xs : List V}, EntK Rp kvs ns xs → EntK Rq kvs ns xs
  | _, _, _, .nil => .nil
  | _, _, _, .cons r t => .cons (h _ _ r) (EntK.imp h t)
theorem EntT.imp {Rp Rq : D → V → Prop} (h : ∀ d v, Rp d v → Rq d v) : ∀ {kvs : List (D × D)} {es : List (NestedKey × Addr × V)}, EntT Rp kvs es → EntT Rq kvs es
  | _, _, .nil => .nil
  | _, _, .cons k r q t => .cons k (h _ _ r) (h _ _ q) (EntT.imp h t)
def ORep (K : PySem.W.Frag) (g : G) (μ : List Addr) (st : Store) (H : Hp) (a : Addr) : O → Prop
  | .lst ds => ∃ xs, H a = some (.lst xs) ∧ ds.length ≤ most ∧ Reps K g μ st H ds xs
  | .dct false kvs => ∃ ns xs, H a = some (dKof ns xs) ∧ kvs.length ≤ most ∧ EntK (Rep K g μ st H) kvs ns xs
  | .dct true kvs => ∃ ents, H a = some (.ext (dctF g.P g.w a ents)) ∧ kvs.length ≤ most ∧ EntT (Rep K g μ st H) kvs ents
  | .gone => True
structure Rel (K : PySem.W.Frag) (g : G) (μ : List Addr) (st : Store) (H : Hp) : Prop where
  len : μ.length = st.length
  nd : μ.Nodup
  there : ∀ a ∈ μ, ∃ o, H a = some o
  obj : ∀ (l : Nat) o a, st[l]? = some o → μ[l]? = some a → ORep K g μ st H a o
  hid : ∀ a ∈ g.hid, a ∉ μ ∧ ∃ xs, H a = some (.lst xs)
  tabs : LamX.Tabs g.tb H
/-- neither a table nor a code object -/
theorem dct_code {P : Program} {w : World} {a : Addr} {ents : List (NestedKey × Addr × V)} {q : Str} : HO.ext (dctF P w a ents) ≠ LamX.CodeO a q := by
  intro e
  have e : dctF P w a ents = _ := HO.ext.inj e
  have c := congrFun e { objs := Array.replicate (a + 1) { cls := .none, data := .fields #[.none, .str q 0] } }
  have hg : ({ objs := Array.replicate (a + 1) { cls := .none, data := .fields #[.none, .str q 0] } } : Heap).get? a = some { cls := .none, data := .fields #[.none, .str q 0] } := by
    unfold Heap.get?
    simp
  have hc : dctF P w a ents { objs := Array.replicate (a + 1) { cls := .none, data := .fields #[.none, .str q 0] } } := by
    rw [c]
    exact ⟨_, _, 0, hg, rfl, rfl⟩
  obtain ⟨_, xs, _, o, es, ep, h1, _, h3, _⟩ := hc
  rw [hg] at h1
  cases h1
  cases h3
theorem tab_put {T : List (Addr × Str)} {H : Hp} {a : Addr} {x u : HO} (t : LamX.Tabs T H) (h : H a = some x) (n1 : ∀ ps, x ≠ .tbl ps) (n2 : ∀ q, x ≠ LamX.CodeO a q) : LamX.Tabs T (upd H a u) := by
  intro p hp
  obtain ⟨ps, h1, h2, h3⟩ := t p hp
  have np : p.1 ≠ a := fun z => by rw [z, h] at h1; exact n1 ps (Option.some.inj h1)
  refine ⟨ps, by rw [upd_ne np]; exact h1, h2, fun pos cv hc => ?_⟩
  obtain ⟨c, e1, e2⟩ := h3 pos cv hc
  have nc : c ≠ a := fun z => by subst z; rw [h] at e2; exact n2 _ (Option.some.inj e2)
  exact ⟨c, e1, by rw [upd_ne nc]; exact e2⟩
theorem lst_code {xs : List V} {a : Addr} {q : Str} : HO.lst xs ≠ LamX.CodeO a q := by intro e; cases e
theorem dK_code {kvs : List (Key × V)} {a : Addr} {q : Str} : HO.dK kvs ≠ LamX.CodeO a q := by intro e; cases e
structure Ext (μ : List Addr) (st : Store) (H : Hp) (μ' : List Addr) (st' : Store) (H' : Hp) : Prop where
  len : μ.length = st.length
  pre : ∃ more, μ' = μ ++ more ∧ ∀ a ∈ more, H a = none
  keepN : ∀ a o, H a = some o → ¬ Live μ st a → (∀ ps, o ≠ .tbl ps) → H' a = some o
  gone : ∀ l : Nat, st[l]? = some .gone → st'[l]? = some .gone
  here : ∀ a o, H a = some o → ∃ o', H' a = some o'
section
variable {K : PySem.W.Frag} {g : G} {μ μ' μ1 : List Addr} {st st' st1 : Store} {H H' H1 : Hp} {d : D} {v : V} {ds es : List D} {vs us : List V} {a : Addr}
theorem Ext.keep (E : Ext μ st H μ' st' H') (a : Addr) (o : HO) (h : H a = some o) (n : ¬ Live μ st a) (nt : ∀ ps, o ≠ .tbl ps := by intro _ z; cases z) : H' a = some o := E.keepN a o h n nt
theorem Reps.length : ∀ {ds : List D} {vs : List V}, Reps K g μ st H ds vs → ds.length = vs.length
  | _, _, .nil => rfl
  | _, _, .cons _ t => by rw [List.length_cons, List.length_cons, Reps.length t]
theorem Reps.get : ∀ {ds : List D} {vs : List V} {i : Nat} {d : D}, Reps K g μ st H ds vs → ds[i]? = some d → ∃ v, vs[i]? = some v ∧ Rep K g μ st H d v
  | _, _, _, _, .nil, e => by simp at e
  | _, _, 0, _, .cons r _, e => by simp at e; subst e; exact ⟨_, rfl, r⟩
  | _, _, i + 1, d, .cons _ t, e => by
    obtain ⟨u, h1, h2⟩ := Reps.get (i := i) (d := d) t (by simpa using e)
    exact ⟨u, by simpa using h1, h2⟩
theorem Reps.getV : ∀ {ds : List D} {vs : List V} {i : Nat} {v : V}, Reps K g μ st H ds vs → vs[i]? = some v → ∃ d, ds[i]? = some d ∧ Rep K g μ st H d v
  | _, _, _, _, .nil, e => by simp at e
  | _, _, 0, _, .cons r _, e => by simp at e; subst e; exact ⟨_, rfl, r⟩
  | _, _, i + 1, d, .cons _ t, e => by
    obtain ⟨u, h1, h2⟩ := Reps.getV (i := i) (v := d) t (by simpa using e)
    exact ⟨u, by simpa using h1, h2⟩
theorem Reps.append : ∀ {ds es : List D} {vs us : List V}, Reps K g μ st H ds vs → Reps K g μ st H es us → Reps K g μ st H (ds ++ es) (vs ++ us)
  | _, _, _, _, .nil, s => s
  | _, _, _, _, .cons r t, s => .cons r (Reps.append t s)
theorem Reps.take : ∀ {ds : List D} {vs : List V} (n : Nat), Reps K g μ st H ds vs → Reps K g μ st H (ds.take n) (vs.take n)
  | _, _, 0, _ => .nil
  | _, _, _ + 1, .nil => .nil
  | _, _, n + 1, .cons r t => .cons r (Reps.take n t)
theorem Reps.drop : ∀ {ds : List D} {vs : List V} (n : Nat), Reps K g μ st H ds vs → Reps K g μ st H (ds.drop n) (vs.drop n)
  | _, _, 0, r => r
  | _, _, _ + 1, .nil => .nil
  | _, _, n + 1, .cons r t => Reps.drop n t
theorem Reps.set (r : Rep K g μ st H d v) : ∀ {ds : List D} {vs : List V} (i : Nat), Reps K g μ st H ds vs → Reps K g μ st H (ds.set i d) (vs.set i v)
  | _, _, _, .nil => .nil
  | _, _, 0, .cons _ t => .cons r t
  | _, _, i + 1, .cons q t => .cons q (Reps.set r i t)
theorem Reps.one (r : Rep K g μ st H d v) : Reps K g μ st H [d] [v] := .cons r .nil
theorem Reps.rep (h : Reps K g μ st H ds vs) : ∀ k : Nat, Reps K g μ st H (List.replicate k ds).flatten (List.replicate k vs).flatten
  | 0 => .nil
  | k + 1 => by rw [List.replicate_succ, List.replicate_succ, List.flatten_cons, List.flatten_cons]; exact h.append (Reps.rep h k)
theorem Reps.intsR : ∀ {ds : List D} {vs : List V} {ns : List Int}, Reps K g μ st H ds vs → intsOf ds = some ns → vs = ns.map V.int
  | _, _, _, .nil, e => by simp [intsOf] at e; subst e; rfl
  | _, _, ns, .cons r t, e => by
    cases r <;> simp [intsOf] at e
    obtain ⟨m, h1, h2⟩ := e
    subst h2
    rw [List.map_cons, Reps.intsR t h1]
theorem Reps.ofInts : ∀ ns : List Int, Reps K g μ st H (ns.map D.int) (ns.map V.int)
  | [] => .nil
  | n :: ns => .cons (.int n) (Reps.ofInts ns)
theorem intsOf_len : ∀ {ds : List D} {ns : List Int}, intsOf ds = some ns → ns.length = ds.length
  | [], ns, e => by simp [intsOf] at e; subst e; rfl
  | d :: ds, ns, e => by
    cases d <;> simp [intsOf] at e
    obtain ⟨m, h1, h2⟩ := e
    subst h2
    rw [List.length_cons, List.length_cons, intsOf_len h1]

theorem Ext.refl (h : μ.length = st.length) : Ext μ st H μ st H := ⟨h, ⟨[], by simp, by simp⟩, fun _ _ h _ _ => h, fun _ h => h, fun _ o h => ⟨o, h⟩⟩
theorem Ext.live (E : Ext μ st H μ' st' H') {o : HO} (h : H a = some o) (n : ¬ Live μ st a) : ¬ Live μ' st' a := by
  rintro ⟨l, ob, h1, h2, h3⟩
  obtain ⟨more, e, f⟩ := E.pre
  rw [e] at h1
  by_cases hl : l < μ.length
  · rw [List.getElem?_append_left hl] at h1
    have hs : l < st.length := by rw [← E.len]; exact hl
    obtain ⟨ob0, e0⟩ : ∃ ob0, st[l]? = some ob0 := ⟨_, List.getElem?_eq_getElem hs⟩
    by_cases hz : ob0.live
    · exact n ⟨l, ob0, h1, e0, hz⟩
    · have : ob0 = .gone := by cases ob0 <;> simp [O.live] at hz ⊢
      subst this
      rw [E.gone l e0] at h2
      cases h2
      exact h3
  · rw [List.getElem?_append_right (by omega)] at h1
    have := f a (List.mem_of_getElem? h1)
    rw [h] at this; cases this
theorem Ext.trans (E : Ext μ st H μ1 st1 H1) (F : Ext μ1 st1 H1 μ' st' H') : Ext μ st H μ' st' H' := by
  refine ⟨E.len, ?_, fun a o h n nt => F.keepN a o (E.keepN a o h n nt) (E.live h n) nt, fun l h => F.gone l (E.gone l h), fun a o h => ?_⟩
  · obtain ⟨m1, e1, f1⟩ := E.pre
    obtain ⟨m2, e2, f2⟩ := F.pre
    refine ⟨m1 ++ m2, by rw [e2, e1, List.append_assoc], fun a ha => ?_⟩
    rcases List.mem_append.mp ha with h | h
    · exact f1 a h
    · cases q : H a with
      | none => rfl
      | some o =>
        obtain ⟨o', z⟩ := E.here a o q
        rw [f2 a h] at z; cases z
  · obtain ⟨o1, h1⟩ := E.here a o h
    exact F.here a o1 h1

theorem Rel.notLive (R : Rel K g μ st H) {o : HO} (h : H a = some o) (hl : ¬ Mut (some o)) : ¬ Live μ st a := by
  rintro ⟨l, ob, h1, h2, h3⟩
  have := R.obj l ob a h2 h1
  cases ob with
  | lst ds =>
    obtain ⟨xs, e, _⟩ := this
    rw [h] at e; cases e
    exact hl True.intro
  | dct t kvs =>
    cases t with
    | false =>
      obtain ⟨ns, xs, e, _⟩ := this
      rw [h] at e; cases e
      exact hl True.intro
    | true =>
      obtain ⟨ents, e, _⟩ := this
      rw [h] at e; cases e
      exact hl True.intro
  | gone => exact h3
theorem Rel.notLiveN (R : Rel K g μ st H) (h : H a = none) : ¬ Live μ st a := by
  rintro ⟨l, ob, h1, h2, h3⟩
  obtain ⟨o, e⟩ := R.there a (List.mem_of_getElem? h1)
  rw [h] at e; cases e
theorem Ext.pre' (E : Ext μ st H μ' st' H') {l : Nat} (h : μ[l]? = some a) : μ'[l]? = some a := by
  obtain ⟨more, e, _⟩ := E.pre
  rw [e, List.getElem?_append_left (List.getElem?_eq_some_iff.mp h).1]; exact h
theorem Ext.seqT (E : Ext μ st H μ' st' H') (R : Rel K g μ st H) {xs : List V} (h : SqT K H a xs) : SqT K H' a xs := by
  rcases h with (h | ⟨o, h⟩) | h
  · exact .inl (.inl (E.keep _ _ h (R.notLive h fun z => z)))
  · exact .inl (.inr ⟨o, E.keep _ _ h (R.notLive h fun z => z)⟩)
  · exact .inr h
theorem Ext.rd (E : Ext μ st H μ' st' H') {u : HO} (h : Rd H a u) (n : ¬ Live μ st a) (nt : ∀ ps, u ≠ .tbl ps := by intro _ z; cases z) : Rd H' a u ∧ ¬ Live μ' st' a := by
  rcases h with h | ⟨o, h⟩
  · exact ⟨.inl (E.keep _ _ h n nt), E.live h n⟩
  · exact ⟨.inr ⟨o, E.keep _ _ h n⟩, E.live h n⟩
mutual
theorem Rep.ext (R : Rel K g μ st H) (E : Ext μ st H μ' st' H') : ∀ {d : D} {v : V}, Rep K g μ st H d v → Rep K g μ' st' H' d v
  | _, _, .non => .non
  | _, _, .bl b => .bl b
  | _, _, .int i => .int i
  | _, _, .str x => .str x
  | _, _, .tup h l r => .tup (E.seqT R h) l (Reps.ext R E r)
  | _, _, .lst h n nh l r => .lst (E.rd h n).1 (E.rd h n).2 nh l (Reps.ext R E r)
  | _, _, .lstK h l r => .lstK h l (Reps.ext R E r)
  | _, _, .rol h l r => .rol (E.keep _ _ h (R.notLive h fun z => z)) l (Reps.ext R E r)
  | _, _, .dct h e n l r => .dct (E.keep _ _ h (R.notLive h fun z => z)) e n l (Reps.ext R E r)
  | _, _, .loc h => .loc (E.pre' h)
  | _, _, .fn k => .fn k
theorem Reps.ext (R : Rel K g μ st H) (E : Ext μ st H μ' st' H') : ∀ {ds : List D} {vs : List V}, Reps K g μ st H ds vs → Reps K g μ' st' H' ds vs
  | _, _, .nil => .nil
  | _, _, .cons r t => .cons (Rep.ext R E r) (Reps.ext R E t)
end
theorem ORep.ext (R : Rel K g μ st H) (E : Ext μ st H μ' st' H') {o : O} (h : ORep K g μ st H a o) (e : H' a = H a) : ORep K g μ' st' H' a o := by
  cases o with
  | lst ds => obtain ⟨xs, h1, h2, h3⟩ := h; exact ⟨xs, e.trans h1, h2, h3.ext R E⟩
  | dct t kvs =>
    cases t with
    | false => obtain ⟨ns, xs, h1, h2, h3⟩ := h; exact ⟨ns, xs, e.trans h1, h2, h3.imp fun _ _ r => r.ext R E⟩
    | true => obtain ⟨ents, h1, h2, h3⟩ := h; exact ⟨ents, e.trans h1, h2, h3.imp fun _ _ r => r.ext R E⟩
  | gone => trivial
/-- the lists that are read -/
theorem Rep.seqL (r : Rep K g μ st H (.lst ds) v) : ∃ a xs, v = .ref a ∧ SqL K H a xs ∧ ds.length ≤ most ∧ Reps K g μ st H ds xs := by
  cases r with
  | lst h n _ l r => exact ⟨_, _, rfl, .inl h, l, r⟩
theorem Rep.rdL (r : Rep K g μ st H (.lst ds) v) : ∃ a xs, v = .ref a ∧ Rd H a (.lst xs) ∧ ds.length ≤ most ∧ Reps K g μ st H ds xs := by
  cases r with
  | lst h n _ l r => exact ⟨_, _, rfl, h, l, r⟩
theorem Rep.rolL (r : Rep K g μ st H (.rol ds) v) : ∃ a xs, v = .ref a ∧ SqL K H a xs ∧ ds.length ≤ most ∧ Reps K g μ st H ds xs := by
  cases r with
  | lstK h l r => exact ⟨_, _, rfl, .inr h, l, r⟩
  | rol h l r => exact ⟨_, _, rfl, .inl (.inr ⟨_, h⟩), l, r⟩
theorem Rep.seqT (r : Rep K g μ st H (.tup ds) v) : ∃ a xs, v = .ref a ∧ SqT K H a xs ∧ ds.length ≤ most ∧ Reps K g μ st H ds xs := by
  cases r with
  | tup h l r => exact ⟨_, _, rfl, h, l, r⟩
theorem Rep.locL (R : Rel K g μ st H) {l : Nat} (r : Rep K g μ st H (.loc l) v) (e : st[l]? = some (.lst ds)) : ∃ a xs, v = .ref a ∧ μ[l]? = some a ∧ H a = some (.lst xs) ∧ ds.length ≤ most ∧ Reps K g μ st H ds xs := by
  cases r with
  | loc h =>
    obtain ⟨xs, h1, h2, h3⟩ := R.obj _ _ _ e h
    exact ⟨_, xs, rfl, h, h1, h2, h3⟩
/-- what a sequence is, through the store -/
theorem Rep.seqOf (R : Rel K g μ st H) (r : Rep K g μ st H d v) (e : seqOf st d = some ds) : ∃ a xs, v = .ref a ∧ (SqL K H a xs ∨ SqT K H a xs) ∧ ds.length ≤ most ∧ Reps K g μ st H ds xs := by
  unfold EV.seqOf deref at e
  cases d with
  | tup es =>
    simp at e; subst e
    obtain ⟨a, xs, h1, h2, h3⟩ := r.seqT
    exact ⟨a, xs, h1, .inr h2, h3⟩
  | lst es =>
    simp at e; subst e
    obtain ⟨a, xs, h1, h2, h3⟩ := r.seqL
    exact ⟨a, xs, h1, .inl h2, h3⟩
  | loc l =>
    simp only at e
    cases q : st[l]? with
    | none => rw [q] at e; simp at e
    | some o =>
      rw [q] at e
      cases o with
      | lst es =>
        simp at e; subst e
        obtain ⟨a, xs, h1, _, h2, h3⟩ := r.locL R q
        exact ⟨a, xs, h1, .inl (SqL.of h2), h3⟩
      | dct _ _ => simp at e
      | gone => simp at e
  | rol es =>
    simp at e; subst e
    obtain ⟨a, xs, h1, h2, h3⟩ := r.rolL
    exact ⟨a, xs, h1, .inl h2, h3⟩
  | non => simp at e
  | bl _ => simp at e
  | int _ => simp at e
  | str _ => simp at e
  | dct _ _ => simp at e
  | fn _ => simp at e
/-! ### plain data is data of the kit -/
mutual
theorem Rep.dp : ∀ {d : D} {v : V}, Rep K g μ st H d v → d.good = true → Dp K H v d.py
  | _, _, .non, _ => by rw [D.py]; exact .non
  | _, _, .bl b, _ => by rw [D.py]; exact .bl b
  | _, _, .int i, _ => by rw [D.py]; exact .int i
  | _, _, .str x, _ => by rw [D.py]; exact .str x
  | _, _, .tup h _ r, e => by rw [D.py]; rw [D.good] at e; exact .tup h (Reps.dp r e)
  | _, _, .lst h _ _ _ r, e => by rw [D.py]; rw [D.good] at e; exact .lst (.inl h) (Reps.dp r e)
  | _, _, .lstK h _ r, e => by rw [D.py]; rw [D.good] at e; exact .lst (.inr h) (Reps.dp r e)
  | _, _, .rol h _ r, e => by rw [D.py]; rw [D.good] at e; exact .lst (.inl (.inr ⟨_, h⟩)) (Reps.dp r e)
  | _, _, .dct _ _ _ _ _, e => by rw [D.good] at e; cases e
  | _, _, .loc _, e => by rw [D.good] at e; cases e
  | _, _, .fn _, e => by rw [D.good] at e; cases e
theorem Reps.dp : ∀ {ds : List D} {vs : List V}, Reps K g μ st H ds vs → D.goods ds = true → DpAll K H vs (D.pys ds)
  | _, _, .nil, _ => by rw [D.pys]; exact .nil
  | _, _, .cons r t, e => by
    rw [D.goods, Bool.and_eq_true] at e
    rw [D.pys]; exact .cons (Rep.dp r e.1) (Reps.dp t e.2)
end
end
mutual
theorem good_lay : ∀ d : D, d.good = true → d.py.canLay0 = true
  | .non, _ => by simp [D.py, PyData.canLay0]
  | .bl b, _ => by simp [D.py, PyData.canLay0]
  | .int i, _ => by simp [D.py, PyData.canLay0]
  | .str x, h => by rw [D.good] at h; rw [D.py, PyData.canLay0]; exact h
  | .tup ds, h => by rw [D.good] at h; rw [D.py, PyData.canLay0]; exact goods_lay ds h
  | .lst ds, h => by rw [D.good] at h; rw [D.py, PyData.canLay0]; exact goods_lay ds h
  | .rol ds, h => by rw [D.good] at h; rw [D.py, PyData.canLay0]; exact goods_lay ds h
  | .dct _ _, h => by rw [D.good] at h; cases h
  | .loc _, h => by rw [D.good] at h; cases h
  | .fn _, h => by rw [D.good] at h; cases h
theorem goods_lay : ∀ ds : List D, D.goods ds = true → PyData.canLayAll0 (D.pys ds) = true
  | [], _ => by simp [D.pys, PyData.canLayAll0]
  | d :: ds, h => by
    rw [D.goods, Bool.and_eq_true] at h
    rw [D.pys, PyData.canLayAll0, good_lay d h.1, goods_lay ds h.2]; rfl
end
mutual
theorem dep_py : ∀ d : D, d.py.depth ≤ d.dep
  | .non => by simp [D.py, PyData.depth]
  | .bl b => by simp [D.py, PyData.depth]
  | .int i => by simp [D.py, PyData.depth]
  | .str x => by simp [D.py, PyData.depth]
  | .tup ds => by rw [D.py, PyData.depth, D.dep]; have := deps_py ds; omega
  | .lst ds => by rw [D.py, PyData.depth, D.dep]; have := deps_py ds; omega
  | .rol ds => by rw [D.py, PyData.depth, D.dep]; have := deps_py ds; omega
  | .dct _ _ => by simp [D.py, PyData.depth]
  | .loc _ => by simp [D.py, PyData.depth]
  | .fn _ => by simp [D.py, PyData.depth]
theorem deps_py : ∀ ds : List D, PyData.depthAll (D.pys ds) ≤ D.deps ds
  | [] => by simp [D.pys, PyData.depthAll]
  | d :: ds => by
    rw [D.pys, PyData.depthAll, D.deps]
    have h1 := dep_py d
    have h2 := deps_py ds
    omega
end
theorem okD_shaped {d : D} (h : okD d = true) : d.good = true ∧ SeqAt.shaped d.py = true := by
  unfold okD at h
  rw [Bool.and_eq_true, decide_eq_true_eq] at h
  refine ⟨h.1, ?_⟩
  unfold SeqAt.shaped
  rw [good_lay d h.1, Bool.true_and, decide_eq_true_eq]
  have := dep_py d
  omega

/-! ### what is left behind: readings -/
section
variable {K : PySem.W.Frag} {g : G} {μ μ' μ1 : List Addr} {st st' st1 : Store} {H H' H1 : Hp} {α β γ δ : Type}
/-- an error's class, own attribute -/
def XRep (K : PySem.W.Frag) (g : G) (μ : List Addr) (st : Store) (H : Hp) (c : Nat) (fs : List D) (cls : Value) (dd : Option Addr) : Prop :=
  cls = .ref (g.ca c) ∧ match fs with
    | [] => dd = none
    | [d] => ∃ dx v, dd = some dx ∧ H dx = some (.xd [(g.xa c, v)]) ∧ Rep K g μ st H d v
    | _ => False
/-- what is wanted of a result -/
def Post (K : PySem.W.Frag) (g : G) (RA : List Addr → Store → Hp → α → β → Prop) (μ : List Addr) (st : Store) (H : Hp) (r : R α) (Q : β → Hp → Prop) (W : Value → Option Addr → Hp → Prop) : Prop :=
  match r with
  | .ok a st' => ∀ μ' H' v, Ext μ st H μ' st' H' → Rel K g μ' st' H' → RA μ' st' H' a v → Q v H'
  | .exc c fs st' => ∀ μ' H' cls dd, Ext μ st H μ' st' H' → Rel K g μ' st' H' → XRep K g μ' st' H' c fs cls dd → W cls dd H'
  | .fail => False
theorem Post.rebase {RA : List Addr → Store → Hp → α → β → Prop} {r : R α} {Q : β → Hp → Prop} {W : Value → Option Addr → Hp → Prop} (h : Post K g RA μ st H r Q W) (E : Ext μ st H μ1 st1 H1) : Post K g RA μ1 st1 H1 r Q W := by
  cases r with
  | ok a st' => intro μ' H' v E' R' r'; exact h μ' H' v (E.trans E') R' r'
  | exc c fs st' => intro μ' H' cls dd E' R' x; exact h μ' H' cls dd (E.trans E') R' x
  | fail => exact h
theorem Post.seq {RA : List Addr → Store → Hp → α → β → Prop} {RB : List Addr → Store → Hp → γ → δ → Prop} {r : R α} {f : α → Store → R γ} {Q : δ → Hp → Prop} {Q1 : β → Hp → Prop} {W : Value → Option Addr → Hp → Prop}
    (h : Post K g RB μ st H (r.bind f) Q W) (k : ∀ a st1 μ1 H1 v1, Ext μ st H μ1 st1 H1 → Rel K g μ1 st1 H1 → RA μ1 st1 H1 a v1 → Post K g RB μ1 st1 H1 (f a st1) Q W → Q1 v1 H1) : Post K g RA μ st H r Q1 W := by
  cases r with
  | ok a st' => intro μ' H' v E' R' r'; exact k a st' μ' H' v E' R' r' (Post.rebase h E')
  | exc c fs st' => exact h
  | fail => exact h
theorem Post.imp {RA : List Addr → Store → Hp → α → β → Prop} {r : R α} {Q Q' : β → Hp → Prop} {W W' : Value → Option Addr → Hp → Prop} (h : Post K g RA μ st H r Q W) (hq : ∀ v H, Q v H → Q' v H) (hw : ∀ c d H, W c d H → W' c d H) : Post K g RA μ st H r Q' W' := by
  cases r with
  | ok a st' => intro μ' H' v E' R' r'; exact hq _ _ (h μ' H' v E' R' r')
  | exc c fs st' => intro μ' H' cls dd E' R' x; exact hw _ _ _ (h μ' H' cls dd E' R' x)
  | fail => exact h
theorem Post.ofOpt {RA : List Addr → Store → Hp → α → β → Prop} {o : Option α} {Q : β → Hp → Prop} {W : Value → Option Addr → Hp → Prop} (h : Post K g RA μ st H (ofOpt o st1) Q W) : ∃ a, o = some a ∧ Post K g RA μ st H (.ok a st1) Q W := by
  cases o with
  | none => exact h.elim
  | some a => exact ⟨a, rfl, h⟩
/-- nothing changes -/
theorem Post.here {RA : List Addr → Store → Hp → α → β → Prop} {a : α} {v : β} {Q : β → Hp → Prop} {W : Value → Option Addr → Hp → Prop} (h : Post K g RA μ st H (.ok a st) Q W) (R : Rel K g μ st H) (r : RA μ st H a v) : Q v H :=
  h μ H v (Ext.refl R.len) R r
/-- slots -/
def SlRep (K : PySem.W.Frag) (g : G) (μ : List Addr) (st : Store) (H : Hp) (e : Sl) (σ : L2.St) : Prop :=
  e.length = σ.length ∧ ∀ (i : Nat) d, e[i]? = some (some d) → ∃ v, σ[i]? = some (some v) ∧ Rep K g μ st H d v
theorem SlRep.ext {e : Sl} {σ : L2.St} (S : SlRep K g μ st H e σ) (R : Rel K g μ st H) (E : Ext μ st H μ' st' H') : SlRep K g μ' st' H' e σ :=
  ⟨S.1, fun i d h => let ⟨v, h1, h2⟩ := S.2 i d h; ⟨v, h1, h2.ext R E⟩⟩
theorem SlRep.set {e : Sl} {σ : L2.St} {d : D} {v : V} (S : SlRep K g μ st H e σ) (r : Rep K g μ st H d v) (i : Nat) : SlRep K g μ st H (e.set i (some d)) (σ.set i (some v)) := by
  refine ⟨by rw [List.length_set, List.length_set]; exact S.1, fun j d' h => ?_⟩
  by_cases hj : i = j
  · subst hj
    have hl : i < e.length := by
      by_cases hl : i < e.length
      · exact hl
      · rw [List.set_eq_of_length_le (by omega)] at h
        have := (List.getElem?_eq_some_iff.mp h).1
        omega
    rw [List.getElem?_set_self hl] at h
    cases h
    exact ⟨v, List.getElem?_set_self (by rw [← S.1]; exact hl), r⟩
  · rw [List.getElem?_set_ne hj] at h ⊢
    exact S.2 j d' h
theorem SlRep.none {e : Sl} {σ : L2.St} {o : Option V} (S : SlRep K g μ st H e σ) (i : Nat) : SlRep K g μ st H (e.set i none) (σ.set i o) := by
  refine ⟨by rw [List.length_set, List.length_set]; exact S.1, fun j d' h => ?_⟩
  by_cases hj : i = j
  · subst hj
    by_cases hl : i < e.length
    · rw [List.getElem?_set_self hl] at h; cases h
    · rw [List.set_eq_of_length_le (by omega)] at h
      have := (List.getElem?_eq_some_iff.mp h).1
      omega
  · rw [List.getElem?_set_ne hj] at h ⊢
    exact S.2 j d' h
theorem SlRep.wipe {e : Sl} {σ : L2.St} (S : SlRep K g μ st H e σ) : ∀ vs : List Nat, SlRep K g μ st H (wipeE e vs) (wipe σ vs)
  | [] => S
  | v :: vs => by rw [wipeE, L2.wipe]; exact (SlRep.wipe S vs).none v

/-! ### new things -/
theorem Rel.upd_free (R : Rel K g μ st H) {p : Addr} {o : HO} (n : H p = none) : Rel K g μ st (upd H p o) ∧ Ext μ st H μ st (upd H p o) := by
  have E : Ext μ st H μ st (upd H p o) := ⟨R.len, ⟨[], by simp, by simp⟩, fun a u h _ _ => by rw [upd_ne (ne_of_none h n)]; exact h, fun _ h => h, fun a u h => ⟨u, by rw [upd_ne (ne_of_none h n)]; exact h⟩⟩
  refine ⟨⟨R.len, R.nd, fun a ha => ?_, fun l ob a h1 h2 => ?_, fun a ha => ?_, R.tabs.ext fun b o h => by rw [upd_ne (ne_of_none h n)]; exact h⟩, E⟩
  · obtain ⟨u, e⟩ := R.there a ha
    exact ⟨u, by rw [upd_ne (ne_of_none e n)]; exact e⟩
  · obtain ⟨u, e⟩ := R.there a (List.mem_of_getElem? h2)
    exact (R.obj l ob a h1 h2).ext R E (by rw [upd_ne (ne_of_none e n)])
  · obtain ⟨h1, xs, h2⟩ := R.hid a ha
    exact ⟨h1, xs, by rw [upd_ne (ne_of_none h2 n)]; exact h2⟩
/-- all but the tables of code objects stays -/
theorem Rel.extN (R : Rel K g μ st H) (e : LamX.ExtN H H') (hh : ∀ b o, H b = some o → ∃ o', H' b = some o') (t : LamX.Tabs g.tb H') : Ext μ st H μ st H' ∧ Rel K g μ st H' := by
  have E : Ext μ st H μ st H' := ⟨R.len, ⟨[], by simp, by simp⟩, fun a o h _ nt => e a o h nt, fun _ h => h, hh⟩
  refine ⟨E, ⟨R.len, R.nd, fun a ha => ?_, fun l ob a h1 h2 => ?_, fun a ha => ?_, t⟩⟩
  · obtain ⟨u, q⟩ := R.there a ha
    exact hh a u q
  · have q0 := R.obj l ob a h1 h2
    cases ob with
    | lst ds =>
      obtain ⟨xs, q1, q2, q3⟩ := q0
      exact ⟨xs, e _ _ q1 (by intro _ z; cases z), q2, q3.ext R E⟩
    | dct t kvs =>
      cases t with
      | false => obtain ⟨ns, xs, q1, q2, q3⟩ := q0; exact ⟨ns, xs, e _ _ q1 (by intro _ z; cases z), q2, q3.imp fun _ _ r => r.ext R E⟩
      | true => obtain ⟨ents, q1, q2, q3⟩ := q0; exact ⟨ents, e _ _ q1 (by intro _ z; cases z), q2, q3.imp fun _ _ r => r.ext R E⟩
    | gone => trivial
  · obtain ⟨h1, xs, h2⟩ := R.hid a ha
    exact ⟨h1, xs, e _ _ h2 (by intro _ z; cases z)⟩
theorem Rel.notHid (R : Rel K g μ st H) {p : Addr} (n : H p = none) : p ∉ g.hid := fun h => by
  obtain ⟨_, xs, e⟩ := R.hid p h
  rw [n] at e; cases e
/-- a new tuple -/
theorem new_tup (R : Rel K g μ st H) {p : Addr} {ds : List D} {xs : List V} (n : H p = none) (l : ds.length ≤ most) (r : Reps K g μ st H ds xs) :
    Ext μ st H μ st (upd H p (.tup xs)) ∧ Rel K g μ st (upd H p (.tup xs)) ∧ Rep K g μ st (upd H p (.tup xs)) (.tup ds) (.ref p) := by
  obtain ⟨R', E⟩ := R.upd_free (o := .tup xs) n
  exact ⟨E, R', .tup (SqT.of upd_same) l (r.ext R E)⟩
/-- a new frozen list -/
theorem new_lst (R : Rel K g μ st H) {p : Addr} {ds : List D} {xs : List V} (n : H p = none) (l : ds.length ≤ most) (r : Reps K g μ st H ds xs) :
    Ext μ st H μ st (upd H p (.lst xs)) ∧ Rel K g μ st (upd H p (.lst xs)) ∧ Rep K g μ st (upd H p (.lst xs)) (.lst ds) (.ref p) := by
  obtain ⟨R', E⟩ := R.upd_free (o := .lst xs) n
  exact ⟨E, R', .lst (.inl upd_same) (R.notLiveN n) (R.notHid n) l (r.ext R E)⟩
/-- a new thing that may change -/
theorem new_obj (R : Rel K g μ st H) {p : Addr} {o : O} {u : HO} (n : H p = none) (ho : Ext μ st H (μ ++ [p]) (st ++ [o]) (upd H p u) → ORep K g (μ ++ [p]) (st ++ [o]) (upd H p u) p o) :
    Ext μ st H (μ ++ [p]) (st ++ [o]) (upd H p u) ∧ Rel K g (μ ++ [p]) (st ++ [o]) (upd H p u) ∧ Rep K g (μ ++ [p]) (st ++ [o]) (upd H p u) (.loc st.length) (.ref p) := by
  have E : Ext μ st H (μ ++ [p]) (st ++ [o]) (upd H p u) := by
    refine ⟨R.len, ⟨[p], rfl, fun a ha => by rw [List.mem_singleton.mp ha]; exact n⟩, fun a u h _ _ => by rw [upd_ne (ne_of_none h n)]; exact h, fun i h => ?_, fun a u h => ⟨u, by rw [upd_ne (ne_of_none h n)]; exact h⟩⟩
    rw [List.getElem?_append_left (List.getElem?_eq_some_iff.mp h).1]; exact h
  refine ⟨E, ⟨by simp [R.len], ?_, fun a ha => ?_, fun i ob a h1 h2 => ?_, fun a ha => ?_, R.tabs.ext fun b o h => by rw [upd_ne (ne_of_none h n)]; exact h⟩, .loc (by rw [← R.len]; simp)⟩
  · refine List.nodup_append.mpr ⟨R.nd, by simp, fun a ha b hb e => ?_⟩
    rw [List.mem_singleton.mp hb] at e
    subst e
    obtain ⟨u, z⟩ := R.there a ha
    rw [n] at z; cases z
  · rcases List.mem_append.mp ha with h | h
    · obtain ⟨u, e⟩ := R.there a h
      exact ⟨u, by rw [upd_ne (ne_of_none e n)]; exact e⟩
    · rw [List.mem_singleton.mp h]; exact ⟨_, upd_same⟩
  · by_cases hl : i < st.length
    · rw [List.getElem?_append_left hl] at h1
      rw [List.getElem?_append_left (by rw [R.len]; exact hl)] at h2
      obtain ⟨u, e⟩ := R.there a (List.mem_of_getElem? h2)
      exact (R.obj i ob a h1 h2).ext R E (by rw [upd_ne (ne_of_none e n)])
    · rw [List.getElem?_append_right (by omega)] at h1
      rw [List.getElem?_append_right (by rw [R.len]; omega)] at h2
      have hi : i - st.length = 0 := by
        have := (List.getElem?_eq_some_iff.mp h1).1
        simp at this
        omega
      rw [R.len, hi] at h2
      rw [hi] at h1
      simp at h1 h2
      subst h1 h2
      exact ho E
  · obtain ⟨h1, ys, h2⟩ := R.hid a ha
    refine ⟨fun z => ?_, ys, by rw [upd_ne (ne_of_none h2 n)]; exact h2⟩
    rcases List.mem_append.mp z with z | z
    · exact h1 z
    · exact ne_of_none h2 n (List.mem_singleton.mp z)
/-- a new list that may change -/
theorem new_loc (R : Rel K g μ st H) {p : Addr} {ds : List D} {xs : List V} (n : H p = none) (l : ds.length ≤ most) (r : Reps K g μ st H ds xs) :
    Ext μ st H (μ ++ [p]) (st ++ [.lst ds]) (upd H p (.lst xs)) ∧ Rel K g (μ ++ [p]) (st ++ [.lst ds]) (upd H p (.lst xs)) ∧ Rep K g (μ ++ [p]) (st ++ [.lst ds]) (upd H p (.lst xs)) (.loc st.length) (.ref p) :=
  new_obj R n fun E => ⟨xs, upd_same, l, r.ext R E⟩
/-- a thing that may change is changed -/
theorem put_obj (R : Rel K g μ st H) {l : Nat} {a : Addr} {o o' : O} {u : HO} (h1 : μ[l]? = some a) (h2 : st[l]? = some o) (hv : o.live) (ho : Ext μ st H μ (st.set l o') (upd H a u) → ORep K g μ (st.set l o') (upd H a u) a o') :
    Ext μ st H μ (st.set l o') (upd H a u) ∧ Rel K g μ (st.set l o') (upd H a u) := by
  have hl : l < st.length := (List.getElem?_eq_some_iff.mp h2).1
  have lv : Live μ st a := ⟨l, o, h1, h2, hv⟩
  have E : Ext μ st H μ (st.set l o') (upd H a u) := by
    refine ⟨R.len, ⟨[], by simp, by simp⟩, fun b u h n _ => ?_, fun i h => ?_, fun b u h => ?_⟩
    · rw [upd_ne (by rintro rfl; exact n lv)]; exact h
    · by_cases hi : l = i
      · subst hi; rw [h2] at h; cases h; exact hv.elim
      · rw [List.getElem?_set_ne hi]; exact h
    · by_cases hb : b = a
      · subst hb; exact ⟨_, upd_same⟩
      · exact ⟨u, by rw [upd_ne hb]; exact h⟩
  have tb : LamX.Tabs g.tb (upd H a u) := by
    have q := R.obj l o a h2 h1
    cases o with
    | lst ds => obtain ⟨xs, q1, _⟩ := q; exact tab_put R.tabs q1 (by intro _ z; cases z) fun _ => lst_code
    | dct t kvs =>
      cases t with
      | false => obtain ⟨ns, xs, q1, _⟩ := q; exact tab_put R.tabs q1 (by intro _ z; cases z) fun _ => dK_code
      | true => obtain ⟨ents, q1, _⟩ := q; exact tab_put R.tabs q1 (by intro _ z; cases z) fun _ => dct_code
    | gone => exact hv.elim
  refine ⟨E, ⟨by rw [List.length_set]; exact R.len, R.nd, fun b hb => ?_, fun i ob b e1 e2 => ?_, fun b hb => ?_, tb⟩⟩
  · obtain ⟨u, e⟩ := R.there b hb
    exact E.here b u e
  · by_cases hi : l = i
    · subst hi
      rw [h1] at e2; cases e2
      rw [List.getElem?_set_self hl] at e1
      cases e1
      exact ho E
    · rw [List.getElem?_set_ne hi] at e1
      have hb : b ≠ a := by
        rintro rfl
        obtain ⟨q1, z1⟩ := List.getElem?_eq_some_iff.mp h1
        obtain ⟨q2, z2⟩ := List.getElem?_eq_some_iff.mp e2
        exact hi ((List.getElem_inj R.nd).mp (z1.trans z2.symm))
      exact (R.obj i ob b e1 e2).ext R E (by rw [upd_ne hb])
  · obtain ⟨h3, ys, h4⟩ := R.hid b hb
    exact ⟨h3, ys, by rw [upd_ne (by rintro rfl; exact h3 (List.mem_of_getElem? h1))]; exact h4⟩
/-- a list that may change is changed -/
theorem put_loc (R : Rel K g μ st H) {l : Nat} {a : Addr} {o : O} {ds : List D} {xs : List V} {u : HO} (h1 : μ[l]? = some a) (h2 : st[l]? = some o) (hv : o.live) (hz : ds.length ≤ most) (r : Reps K g μ st H ds xs) :
    Ext μ st H μ (st.set l (.lst ds)) (upd H a (.lst xs)) ∧ Rel K g μ (st.set l (.lst ds)) (upd H a (.lst xs)) :=
  put_obj R h1 h2 hv fun E => ⟨xs, upd_same, hz, r.ext R E⟩
/-- a list that may change is frozen -/
theorem frz_loc (R : Rel K g μ st H) {l : Nat} {a : Addr} {ds : List D} (h1 : μ[l]? = some a) (h2 : st[l]? = some (.lst ds)) :
    Ext μ st H μ (st.set l .gone) H ∧ Rel K g μ (st.set l .gone) H ∧ Rep K g μ (st.set l .gone) H (.lst ds) (.ref a) := by
  have hl : l < st.length := (List.getElem?_eq_some_iff.mp h2).1
  have E : Ext μ st H μ (st.set l .gone) H := by
    refine ⟨R.len, ⟨[], by simp, by simp⟩, fun b u h n _ => h, fun i h => ?_, fun b u h => ⟨u, h⟩⟩
    by_cases hi : l = i
    · subst hi; exact List.getElem?_set_self hl
    · rw [List.getElem?_set_ne hi]; exact h
  have R' : Rel K g μ (st.set l .gone) H := by
    refine ⟨by rw [List.length_set]; exact R.len, R.nd, R.there, fun i ob b e1 e2 => ?_, R.hid, R.tabs⟩
    by_cases hi : l = i
    · subst hi
      rw [List.getElem?_set_self hl] at e1
      cases e1
      trivial
    · rw [List.getElem?_set_ne hi] at e1
      exact (R.obj i ob b e1 e2).ext R E rfl
  obtain ⟨xs, q1, q2, q3⟩ := R.obj l _ a h2 h1
  refine ⟨E, R', .lst (.inl q1) ?_ (fun z => (R.hid a z).1 (List.mem_of_getElem? h1)) q2 (q3.ext R E)⟩
  rintro ⟨i, ob, e1, e2, e3⟩
  have hi : l = i := by
    obtain ⟨q1, z1⟩ := List.getElem?_eq_some_iff.mp h1
    obtain ⟨q2, z2⟩ := List.getElem?_eq_some_iff.mp e1
    exact (List.getElem_inj R.nd).mp (z1.trans z2.symm)
  subst hi
  rw [List.getElem?_set_self hl] at e2
  cases e2
  exact e3
/-! ### a list in the making, out of reach -/
mutual
theorem Rep.hide {L : Addr} {xs : List V} (n : H L = none) : ∀ {d : D} {v : V}, Rep K g μ st H d v → Rep K (g.h (L :: g.hid)) μ st (upd H L (.lst xs)) d v
  | _, _, .non => .non
  | _, _, .bl b => .bl b
  | _, _, .int i => .int i
  | _, _, .str x => .str x
  | _, _, .tup h l r => .tup (by
      rcases h with (h | ⟨o, h⟩) | h
      · exact .inl (.inl (by rw [upd_ne (ne_of_none h n)]; exact h))
      · exact .inl (.inr ⟨o, by rw [upd_ne (ne_of_none h n)]; exact h⟩)
      · exact .inr h) l (Reps.hide n r)
  | _, _, .lst h nl nh l r => .lst (by
      rcases h with h | ⟨o, h⟩
      · exact .inl (by rw [upd_ne (ne_of_none h n)]; exact h)
      · exact .inr ⟨o, by rw [upd_ne (ne_of_none h n)]; exact h⟩) nl (by
      show _ ∉ L :: g.hid
      rw [List.mem_cons, not_or]
      refine ⟨?_, nh⟩
      rcases h with h | ⟨o, h⟩
      · exact ne_of_none h n
      · exact ne_of_none h n) l (Reps.hide n r)
  | _, _, .lstK h l r => .lstK h l (Reps.hide n r)
  | _, _, .rol h l r => .rol (by rw [upd_ne (ne_of_none h n)]; exact h) l (Reps.hide n r)
  | _, _, .dct h e q l r => .dct (by rw [upd_ne (ne_of_none h n)]; exact h) e q l (Reps.hide n r)
  | _, _, .loc h => .loc h
  | _, _, .fn k => .fn k
theorem Reps.hide {L : Addr} {xs : List V} (n : H L = none) : ∀ {ds : List D} {vs : List V}, Reps K g μ st H ds vs → Reps K (g.h (L :: g.hid)) μ st (upd H L (.lst xs)) ds vs
  | _, _, .nil => .nil
  | _, _, .cons r t => .cons (Rep.hide n r) (Reps.hide n t)
end
theorem Rel.hide (R : Rel K g μ st H) {L : Addr} {xs : List V} (n : H L = none) : Rel K (g.h (L :: g.hid)) μ st (upd H L (.lst xs)) := by
  refine ⟨R.len, R.nd, fun a ha => ?_, fun l ob a h1 h2 => ?_, fun a ha => ?_, R.tabs.ext fun b o h => by rw [upd_ne (ne_of_none h n)]; exact h⟩
  · obtain ⟨u, e⟩ := R.there a ha
    exact ⟨u, by rw [upd_ne (ne_of_none e n)]; exact e⟩
  · obtain ⟨u, e⟩ := R.there a (List.mem_of_getElem? h2)
    have := R.obj l ob a h1 h2
    cases ob with
    | lst ds =>
      obtain ⟨ys, q1, q2, q3⟩ := this
      exact ⟨ys, by rw [upd_ne (ne_of_none e n)]; exact q1, q2, q3.hide n⟩
    | dct t kvs =>
      cases t with
      | false => obtain ⟨ns, ys, q1, q2, q3⟩ := this; exact ⟨ns, ys, by rw [upd_ne (ne_of_none e n)]; exact q1, q2, q3.imp fun _ _ r => r.hide n⟩
      | true => obtain ⟨ents, q1, q2, q3⟩ := this; exact ⟨ents, by rw [upd_ne (ne_of_none e n)]; exact q1, q2, q3.imp fun _ _ r => r.hide n⟩
    | gone => trivial
  · rcases List.mem_cons.mp (show a ∈ L :: g.hid from ha) with z | z
    · subst z
      refine ⟨fun hm => ?_, xs, upd_same⟩
      obtain ⟨u, e⟩ := R.there a hm
      rw [n] at e; cases e
    · obtain ⟨h1, ys, h2⟩ := R.hid a z
      exact ⟨h1, ys, by rw [upd_ne (ne_of_none h2 n)]; exact h2⟩
/-! more lists are in the making -/
mutual
theorem Rep.extH {l : List Addr} (R : Rel K g μ st H) (E : Ext μ st H μ' st' H') (hl : ∀ a ∈ l, a ∈ g.hid ∨ H a = none) : ∀ {d : D} {v : V}, Rep K g μ st H d v → Rep K (g.h l) μ' st' H' d v
  | _, _, .non => .non
  | _, _, .bl b => .bl b
  | _, _, .int i => .int i
  | _, _, .str x => .str x
  | _, _, .tup h l r => .tup (E.seqT R h) l (Reps.extH R E hl r)
  | _, _, .lst h n nh l r => .lst (E.rd h n).1 (E.rd h n).2 (fun z => by
      rcases hl _ z with q | q
      · exact nh q
      · rcases h with h | ⟨o, h⟩
        · rw [q] at h; cases h
        · rw [q] at h; cases h) l (Reps.extH R E hl r)
  | _, _, .lstK h l r => .lstK h l (Reps.extH R E hl r)
  | _, _, .rol h l r => .rol (E.keep _ _ h (R.notLive h fun z => z)) l (Reps.extH R E hl r)
  | _, _, .dct h e n l r => .dct (E.keep _ _ h (R.notLive h fun z => z)) e n l (Reps.extH R E hl r)
  | _, _, .loc h => .loc (E.pre' h)
  | _, _, .fn k => .fn (g := g.h _) k
theorem Reps.extH {l : List Addr} (R : Rel K g μ st H) (E : Ext μ st H μ' st' H') (hl : ∀ a ∈ l, a ∈ g.hid ∨ H a = none) : ∀ {ds : List D} {vs : List V}, Reps K g μ st H ds vs → Reps K (g.h l) μ' st' H' ds vs
  | _, _, .nil => .nil
  | _, _, .cons r t => .cons (Rep.extH R E hl r) (Reps.extH R E hl t)
end
/-! it is written to -/
mutual
theorem Rep.grow {L : Addr} {xs ys : List V} (hd : L ∈ g.hid) (n : H L = some (.lst ys)) : ∀ {d : D} {v : V}, Rep K g μ st H d v → Rep K g μ st (upd H L (.lst xs)) d v
  | _, _, .non => .non
  | _, _, .bl b => .bl b
  | _, _, .int i => .int i
  | _, _, .str x => .str x
  | _, _, .tup h l r => .tup (by
      rcases h with (h | ⟨o, h⟩) | h
      · exact .inl (.inl (by rw [upd_ne (ne_of h n (by intro z; cases z))]; exact h))
      · exact .inl (.inr ⟨o, by rw [upd_ne (ne_of h n (by intro z; cases z))]; exact h⟩)
      · exact .inr h) l (Reps.grow hd n r)
  | _, _, .lst (a := a) h nl nh l r => .lst (by
      have ne : a ≠ L := fun z => nh (by rw [z]; exact hd)
      rcases h with h | ⟨o, h⟩
      · exact .inl (by rw [upd_ne ne]; exact h)
      · exact .inr ⟨o, by rw [upd_ne ne]; exact h⟩) nl nh l (Reps.grow hd n r)
  | _, _, .lstK h l r => .lstK h l (Reps.grow hd n r)
  | _, _, .rol h l r => .rol (by rw [upd_ne (ne_of h n (by intro z; cases z))]; exact h) l (Reps.grow hd n r)
  | _, _, .dct h e q l r => .dct (by rw [upd_ne (ne_of h n (by intro z; cases z))]; exact h) e q l (Reps.grow hd n r)
  | _, _, .loc h => .loc h
  | _, _, .fn k => .fn k
theorem Reps.grow {L : Addr} {xs ys : List V} (hd : L ∈ g.hid) (n : H L = some (.lst ys)) : ∀ {ds : List D} {vs : List V}, Reps K g μ st H ds vs → Reps K g μ st (upd H L (.lst xs)) ds vs
  | _, _, .nil => .nil
  | _, _, .cons r t => .cons (Rep.grow hd n r) (Reps.grow hd n t)
end
theorem Rel.grow (R : Rel K g μ st H) {L : Addr} {xs ys : List V} (hd : L ∈ g.hid) (n : H L = some (.lst ys)) : Rel K g μ st (upd H L (.lst xs)) := by
  have hm : ∀ a ∈ μ, a ≠ L := fun a ha z => (R.hid L hd).1 (z ▸ ha)
  refine ⟨R.len, R.nd, fun a ha => ?_, fun l ob a h1 h2 => ?_, fun a ha => ?_, tab_put R.tabs n (by intro _ z; cases z) fun _ => lst_code⟩
  · obtain ⟨u, e⟩ := R.there a ha
    exact ⟨u, by rw [upd_ne (hm a ha)]; exact e⟩
  · have := R.obj l ob a h1 h2
    cases ob with
    | lst ds =>
      obtain ⟨ys, q1, q2, q3⟩ := this
      exact ⟨ys, by rw [upd_ne (hm a (List.mem_of_getElem? h2))]; exact q1, q2, q3.grow hd n⟩
    | dct t kvs =>
      cases t with
      | false => obtain ⟨ns, ys, q1, q2, q3⟩ := this; exact ⟨ns, ys, by rw [upd_ne (hm a (List.mem_of_getElem? h2))]; exact q1, q2, q3.imp fun _ _ r => r.grow hd n⟩
      | true => obtain ⟨ents, q1, q2, q3⟩ := this; exact ⟨ents, by rw [upd_ne (hm a (List.mem_of_getElem? h2))]; exact q1, q2, q3.imp fun _ _ r => r.grow hd n⟩
    | gone => trivial
  · obtain ⟨h1, zs, h2⟩ := R.hid a ha
    refine ⟨h1, ?_⟩
    by_cases z : a = L
    · subst z; exact ⟨xs, upd_same⟩
    · exact ⟨zs, by rw [upd_ne z]; exact h2⟩
/-! it is shown again -/
mutual
theorem Rep.show {L : Addr} {l : List Addr} : ∀ {d : D} {v : V}, Rep K (g.h (L :: l)) μ st H d v → Rep K (g.h l) μ st H d v
  | _, _, .non => .non
  | _, _, .bl b => .bl b
  | _, _, .int i => .int i
  | _, _, .str x => .str x
  | _, _, .tup h l r => .tup h l (Reps.show r)
  | _, _, .lst h nl nh l r => .lst h nl (fun z => nh (List.mem_cons_of_mem _ z)) l (Reps.show r)
  | _, _, .lstK h l r => .lstK h l (Reps.show r)
  | _, _, .rol h l r => .rol h l (Reps.show r)
  | _, _, .dct h e n l r => .dct h e n l (Reps.show r)
  | _, _, .loc h => .loc h
  | _, _, .fn k => .fn (g := g.h l) k
theorem Reps.show {L : Addr} {l : List Addr} : ∀ {ds : List D} {vs : List V}, Reps K (g.h (L :: l)) μ st H ds vs → Reps K (g.h l) μ st H ds vs
  | _, _, .nil => .nil
  | _, _, .cons r t => .cons (Rep.show r) (Reps.show t)
end
theorem Rel.show {L : Addr} {l : List Addr} (R : Rel K (g.h (L :: l)) μ st H) : Rel K (g.h l) μ st H := by
  refine ⟨R.len, R.nd, R.there, fun i ob a h1 h2 => ?_, fun a ha => R.hid a (List.mem_cons_of_mem _ ha), R.tabs⟩
  have := R.obj i ob a h1 h2
  cases ob with
  | lst ds =>
    obtain ⟨ys, q1, q2, q3⟩ := this
    exact ⟨ys, q1, q2, q3.show⟩
  | dct t kvs =>
    cases t with
    | false => obtain ⟨ns, ys, q1, q2, q3⟩ := this; exact ⟨ns, ys, q1, q2, q3.imp fun _ _ r => r.show⟩
    | true => obtain ⟨ents, q1, q2, q3⟩ := this; exact ⟨ents, q1, q2, q3.imp fun _ _ r => r.show⟩
  | gone => trivial
theorem Live.adopt {L : Addr} {o : O} (h : Live (μ ++ [L]) (st ++ [o]) a) (len : μ.length = st.length) (ne : a ≠ L) : Live μ st a := by
  obtain ⟨l, ob, h1, h2, h3⟩ := h
  by_cases hl : l < μ.length
  · rw [List.getElem?_append_left hl] at h1
    rw [List.getElem?_append_left (by omega)] at h2
    exact ⟨l, ob, h1, h2, h3⟩
  · rw [List.getElem?_append_right (by omega)] at h1
    exact absurd (List.mem_singleton.mp (List.mem_of_getElem? h1)) ne
mutual
theorem Rep.adopt {L : Addr} {l : List Addr} {o : O} (len : μ.length = st.length) : ∀ {d : D} {v : V}, Rep K (g.h (L :: l)) μ st H d v → Rep K (g.h l) (μ ++ [L]) (st ++ [o]) H d v
  | _, _, .non => .non
  | _, _, .bl b => .bl b
  | _, _, .int i => .int i
  | _, _, .str x => .str x
  | _, _, .tup h l r => .tup h l (Reps.adopt len r)
  | _, _, .lst h nl nh l r => .lst h (fun z => nl (z.adopt len fun e => nh (e ▸ List.mem_cons_self))) (fun z => nh (List.mem_cons_of_mem _ z)) l (Reps.adopt len r)
  | _, _, .lstK h l r => .lstK h l (Reps.adopt len r)
  | _, _, .rol h l r => .rol h l (Reps.adopt len r)
  | _, _, .dct h e n l r => .dct h e n l (Reps.adopt len r)
  | _, _, .loc h => .loc (by rw [List.getElem?_append_left (List.getElem?_eq_some_iff.mp h).1]; exact h)
  | _, _, .fn k => .fn (g := g.h l) k
theorem Reps.adopt {L : Addr} {l : List Addr} {o : O} (len : μ.length = st.length) : ∀ {ds : List D} {vs : List V}, Reps K (g.h (L :: l)) μ st H ds vs → Reps K (g.h l) (μ ++ [L]) (st ++ [o]) H ds vs
  | _, _, .nil => .nil
  | _, _, .cons r t => .cons (Rep.adopt len r) (Reps.adopt len t)
end
/-- the list in the making may change from here on -/
theorem Rel.adopt {L : Addr} {l : List Addr} {ds : List D} {xs : List V} (R : Rel K (g.h (L :: l)) μ st H) (n : H L = some (.lst xs)) (hz : ds.length ≤ most) (r : Reps K (g.h (L :: l)) μ st H ds xs) (nl : L ∉ l) :
    Rel K (g.h l) (μ ++ [L]) (st ++ [.lst ds]) H ∧ Rep K (g.h l) (μ ++ [L]) (st ++ [.lst ds]) H (.loc st.length) (.ref L) := by
  obtain ⟨nm, _⟩ := R.hid L List.mem_cons_self
  refine ⟨⟨by simp [R.len], List.nodup_append.mpr ⟨R.nd, by simp, fun a ha b hb e => nm (by rw [List.mem_singleton.mp hb] at e; exact e ▸ ha)⟩, fun a ha => ?_, fun i ob a h1 h2 => ?_, fun a ha => ?_, R.tabs⟩, .loc (by rw [← R.len]; simp)⟩
  · rcases List.mem_append.mp ha with h | h
    · exact R.there a h
    · rw [List.mem_singleton.mp h]; exact ⟨_, n⟩
  · by_cases hl : i < st.length
    · rw [List.getElem?_append_left hl] at h1
      rw [List.getElem?_append_left (by rw [R.len]; exact hl)] at h2
      have := R.obj i ob a h1 h2
      cases ob with
      | lst es =>
        obtain ⟨ys, q1, q2, q3⟩ := this
        exact ⟨ys, q1, q2, q3.adopt R.len⟩
      | dct t kvs =>
        cases t with
        | false => obtain ⟨ns, ys, q1, q2, q3⟩ := this; exact ⟨ns, ys, q1, q2, q3.imp fun _ _ r => r.adopt R.len⟩
        | true => obtain ⟨ents, q1, q2, q3⟩ := this; exact ⟨ents, q1, q2, q3.imp fun _ _ r => r.adopt R.len⟩
      | gone => trivial
    · rw [List.getElem?_append_right (by omega)] at h1
      rw [List.getElem?_append_right (by rw [R.len]; omega)] at h2
      have hi : i - st.length = 0 := by
        have := (List.getElem?_eq_some_iff.mp h1).1
        simp at this
        omega
      rw [R.len, hi] at h2
      rw [hi] at h1
      simp at h1 h2
      subst h1 h2
      exact ⟨xs, n, hz, r.adopt R.len⟩
  · obtain ⟨h1, zs, h2⟩ := R.hid a (List.mem_cons_of_mem _ ha)
    refine ⟨fun z => ?_, zs, h2⟩
    rcases List.mem_append.mp z with z | z
    · exact h1 z
    · exact nl (List.mem_singleton.mp z ▸ ha)
end
end EV
/-! EvC: the operators, the calls of built-ins, by values. -/
namespace EV
open PySem PySem.Spec PyProof.Rows L2

theorem most_line : most ≤ sizeLine := by rw [sizeLine_eq]; decide
theorem _root_.L2.PE.imp {X : Cx} {e : Expr} {t t' : TE} (h : PE X e t) (w : ∀ σ H Q, t' σ H Q → t σ H Q) : PE X e t' := ⟨fun pins s σ H Q I q => h.run pins s σ H Q I (w σ H Q q)⟩
theorem _root_.L2.PT.imp {X : Cx} {e : Expr} {t t' : TT} (h : PT X e t) (w : ∀ σ H Q, t' σ H Q → t σ H Q) : PT X e t' := ⟨fun pins s σ H Q I q => h.run pins s σ H Q I (w σ H Q q)⟩
theorem _root_.L2.PW.imp {X : Cx} {e : Expr} {t t' : TT} (h : PW X e t) (w : ∀ σ H Q, t' σ H Q → t σ H Q) : PW X e t' := ⟨fun wh pins s σ H Q I q => h.run wh pins s σ H Q I (w σ H Q q)⟩
theorem _root_.L2.PA.imp {X : Cx} {es : List Expr} {t t' : TA} (h : PA X es t) (w : ∀ σ H Q, t' σ H Q → t σ H Q) : PA X es t' := ⟨fun pos pins s σ H Q I q => h.run pos pins s σ H Q I (w σ H Q q)⟩
theorem _root_.L2.PS.imp {X : Cx} {st : Stmt} {t t' : TS} (h : PS X st t) (w : ∀ D σ H, t' D σ H → t D σ H) : PS X st t' := ⟨fun pins s σ H D I q => h.run pins s σ H D I (w D σ H q)⟩
theorem _root_.L2.PSs.imp {X : Cx} {st : List Stmt} {t t' : TS} (h : PSs X st t) (w : ∀ D σ H, t' D σ H → t D σ H) : PSs X st t' := ⟨fun pins s σ H D I q => h.run pins s σ H D I (w D σ H q)⟩
theorem _root_.L2.PO.imp {X : Cx} {e : Option Expr} {t t' : TO} (h : PO X e t) (w : ∀ σ H Q, t' σ H Q → t σ H Q) : PO X e t' := ⟨fun pins s σ H Q I q => h.run pins s σ H Q I (w σ H Q q)⟩
theorem _root_.L2.PI.imp {X : Cx} {tg e : Expr} {t t' : TI} (h : PI X tg e t) (w : ∀ σ H Q, t' σ H Q → t σ H Q) : PI X tg e t' := ⟨fun pins s σ H Q I q => h.run pins s σ H Q I (w σ H Q q)⟩
theorem _root_.L2.PG.imp {X : Cx} {e : Expr} {t t' : TG} (h : PG X e t) (w : ∀ v σ H Q, t' v σ H Q → t v σ H Q) : PG X e t' := ⟨fun pins s σ H v u Q I r q => h.run pins s σ H v u Q I r (w v σ H Q q)⟩
theorem _root_.L2.PGs.imp {X : Cx} {e : List Expr} {t t' : TGs} (h : PGs X e t) (w : ∀ v σ H Q, t' v σ H Q → t v σ H Q) : PGs X e t' := ⟨fun pins s σ H v u Q I r q => h.run pins s σ H v u Q I r (w v σ H Q q)⟩

def opOf : Bop → Operator
  | .add => .Add | .sub => .Sub | .mul => .Mult | .fdiv => .FloorDiv | .mod => .Mod | .pow => .Pow
def copOf : Cop → CmpOp
  | .eq => .Eq | .ne => .NotEq | .lt => .Lt | .le => .LtE | .gt => .Gt | .ge => .GtE | .isN => .Is | .notN => .IsNot | .isIn => .In | .notIn => .NotIn

section
variable {K : PySem.W.Frag} {g : G}
/-- a two-place operation on data -/
def rOp2 (K : PySem.W.Frag) (g : G) (f : Store → D → D → Option D) : R2 := fun x y H Q => ∃ gl μ st a b d, Rel K (g.h gl) μ st H ∧ Rep K (g.h gl) μ st H a x ∧ Rep K (g.h gl) μ st H b y ∧ f st a b = some d ∧ Post K (g.h gl) (Rep K (g.h gl)) μ st H (.ok d st) Q (fun _ _ _ => False)
end
section
variable {X : Cx} {g : G} {A : Around}

/-! ### lists: + and * -/
def rCatR : R2 := fun x y H Q => ∃ l b xs zs, x = .ref l ∧ y = .ref b ∧ Rd H l (.lst xs) ∧ Rd H b (.lst zs) ∧ xs.length + zs.length ≤ sizeLine ∧ ∀ p, H p = none → Q (.ref p) (upd H p (.lst (xs ++ zs)))
theorem rdM {pins : List (Addr × Obj)} {σ : L2.St} {H : Hp} {s : Shared} {l : Addr} {xs : List V} (I : Inv X pins σ H s) (h : Rd H l (.lst xs)) : xs.length ≤ sizeLine ∧ ∃ (its : List Value) (n : Nat), Vals xs its ∧ xs.length = its.length ∧ s.heap.get? l = some { cls := .type "list", data := .seq its.toArray n } := by
  obtain ⟨z, its, n, r, e⟩ := h.ok I.hok
  exact ⟨z, its, n, r, r.length, e⟩
theorem op_catR : OpR X (binaryOp .Add) rCatR := by
  intro pins s σ H x y v u Q I rx ry h
  obtain ⟨l, b, xs, zs, rfl, rfl, hH, hB, hz, q⟩ := h
  cases rx
  cases ry
  obtain ⟨z, its, n, r, hl, e⟩ := rdM I hH
  obtain ⟨z2, its2, n2, r2, hl2, e2⟩ := rdM I hB
  refine PySem.P.add_list e e2 ?_ (by rw [List.size_toArray, List.size_toArray]; omega)
  have ea : its.toArray ++ its2.toArray = (its ++ its2).toArray := by simp
  rw [ea]
  exact ⟨.ref _, _, I.lnew (t' := s.toks) (r.append r2) (by rw [List.length_append]; omega), rfl, q _ I.fresh⟩
def rRepR : R2 := fun x y H Q => ∃ l k xs, x = .ref l ∧ y = .int k ∧ Rd H l (.lst xs) ∧ -(2 ^ 63) ≤ k ∧ k < 2 ^ 63 ∧ xs.length * k.toNat ≤ sizeLine ∧
  ∀ p, H p = none → Q (.ref p) (upd H p (.lst (List.replicate k.toNat xs).flatten))
theorem op_repR : OpR X (binaryOp .Mult) rRepR := by
  intro pins s σ H x y v u Q I rx ry h
  obtain ⟨l, k, xs, rfl, rfl, hH, h1, h2, hz, q⟩ := h
  cases rx
  obtain ⟨t, rfl⟩ := ry
  obtain ⟨z, its, n, r, hl, e⟩ := rdM I hH
  have hlen : its.toArray.size * k.toNat ≤ sizeLine := by rw [List.size_toArray, ← hl]; exact hz
  have hcap : ¬ its.toArray.size * k.toNat > (2 ^ 63 - 1) / 8 := by
    have : (sizeLine : Nat) ≤ (2 ^ 63 - 1) / 8 := by decide
    omega
  have hfit : ¬ (!Builtin.List.listFitsIndex k) = true := by
    rw [fitsIndex_both h1 h2]
    exact Bool.false_ne_true
  have hlong : ¬ Builtin.List.listTooLong (its.toArray.size * k.toNat) = true := by
    rw [notLongL hlen]
    exact Bool.false_ne_true
  have hnew : List.foldl (fun x1 x2 => x1 ++ x2) #[] (List.replicate (if its.toArray.isEmpty = true then 0 else k.toNat) its.toArray) = (List.replicate k.toNat its).flatten.toArray := by
    have f0 : ∀ m : Nat, List.foldl (fun x1 x2 => x1 ++ x2) #[] (List.replicate m its.toArray) = (List.replicate m its).flatten.toArray := fun m => by
      have := foldl_rep its m []
      rw [List.nil_append] at this
      exact this
    rw [f0]
    cases its with
    | nil => simp
    | cons a r' => rw [if_neg (by simp)]
  refine wpAny_binaryOp_repeat_ref (T := "list") (U := "int") (by decide) ⟨_, e, rfl⟩ (fun s' => typeIs_int s' k t) noFill_list_mul F.fills_int_mul F.slot_int_rmul repeat_list F.slot_int_index.lookup
    (call_meets F.slot_int_rmul (typeIs_int s k t) F.entry_int_rmul (F.args_int_rmul_2 _ _) (int___rmul___int_list k t l its.toArray n)
      ⟨e, rfl, ⟨_, e, rfl⟩, call_meets F.slot_list_mul ⟨_, e, rfl⟩ F.entry_list_mul (F.args_list_mul_2 _ _) (AutoListH.list___mul___list_int_3 l its.toArray n k t hfit hcap hlong) ⟨e, ?_⟩⟩)
  rw [hnew]
  exact ⟨.ref _, _, I.lnew (t' := s.toks) (r.rep k.toNat) (by rw [PyProof.Rows.lm_len_rep_flat, Nat.mul_comm]; exact hz), rfl, q _ I.fresh⟩
theorem op_add_ok : OpR X (binaryOp .Add) (rOp2 X.K g fun _ => evBin .add) := by
  intro pins s σ H x y v u Q I rx ry h
  obtain ⟨gl, μ, st, a, b, d, R, ra, rb, e, q⟩ := h
  cases a <;> cases b <;> simp [evBin] at e
  · cases ra; cases rb; subst e
    exact op_add pins s σ H _ _ v u Q I rx ry ⟨_, _, rfl, rfl, q.here R (.int _)⟩
  · cases ra; cases rb
    obtain ⟨hl, rfl⟩ := e
    exact op_add_str pins s σ H _ _ v u Q I rx ry ⟨_, _, rfl, rfl, Nat.le_trans hl most_line, q.here R (.str _)⟩
  · obtain ⟨p1, xs, rfl, h1, l1, r1⟩ := ra.seqT
    obtain ⟨p2, ys, rfl, h2, l2, r2⟩ := rb.seqT
    obtain ⟨hl, rfl⟩ := e
    refine op_catA pins s σ H _ _ v u Q I rx ry ⟨p1, p2, xs, ys, rfl, rfl, h1, h2, by rw [← r1.length, ← r2.length]; exact Nat.le_trans hl most_line, fun z => ?_, fun _ z => ?_, fun _ _ p np => ?_⟩
    · subst z; cases r1; exact q.here R rb
    · subst z; cases r2; rw [List.append_nil] at q; exact q.here R ra
    · obtain ⟨E, R', r'⟩ := new_tup R np (by rw [List.length_append]; exact hl) (r1.append r2)
      exact q _ _ _ E R' r'
  · obtain ⟨p1, xs, rfl, h1, l1, r1⟩ := ra.rdL
    obtain ⟨p2, ys, rfl, h2, l2, r2⟩ := rb.rdL
    obtain ⟨hl, rfl⟩ := e
    refine op_catR pins s σ H _ _ v u Q I rx ry ⟨p1, p2, xs, ys, rfl, rfl, h1, h2, by rw [← r1.length, ← r2.length]; exact Nat.le_trans hl most_line, fun p np => ?_⟩
    obtain ⟨E, R', r'⟩ := new_lst R np (by rw [List.length_append]; exact hl) (r1.append r2)
    exact q _ _ _ E R' r'

theorem op_sub_ok : OpR X (binaryOp .Sub) (rOp2 X.K g fun _ => evBin .sub) := by
  intro pins s σ H x y v u Q I rx ry h
  obtain ⟨gl, μ, st, a, b, d, R, ra, rb, e, q⟩ := h
  cases a <;> cases b <;> simp [evBin] at e
  cases ra; cases rb; subst e
  exact op_sub pins s σ H _ _ v u Q I rx ry ⟨_, _, rfl, rfl, q.here R (.int _)⟩
theorem op_mul_ok : OpR X (binaryOp .Mult) (rOp2 X.K g fun _ => evBin .mul) := by
  intro pins s σ H x y v u Q I rx ry h
  obtain ⟨gl, μ, st, a, b, d, R, ra, rb, e, q⟩ := h
  cases a <;> cases b <;> simp [evBin] at e
  · cases ra; cases rb
    obtain ⟨hs, rfl⟩ := e
    refine op_mul pins s σ H _ _ v u Q I rx ry ⟨_, _, rfl, rfl, ?_, q.here R (.int _)⟩
    unfold CMul
    rcases hs with z | z
    · left; simpa [smallI] using z
    · right; simpa [smallI] using z
  · rename_i ds i
    obtain ⟨p1, xs, rfl, h1, l1, r1⟩ := ra.seqT
    cases rb
    obtain ⟨⟨z1, z2, z3, z4⟩, rfl⟩ := e
    have hl := r1.length
    refine op_repT pins s σ H _ _ v u Q I rx ry ⟨p1, _, xs, rfl, rfl, h1, ?_, z2, z3, by omega, fun p np => ?_⟩
    · rintro rfl
      cases r1
      exact z1 rfl
    · obtain ⟨E, R', r'⟩ := new_tup R np (by
        rw [PyProof.Rows.lm_len_rep_flat]
        rw [hl]
        show _ ≤ 1000 * 1000
        exact Nat.mul_le_mul (by omega) (by omega)) (r1.rep i.toNat)
      exact q _ _ _ E R' r'
  · obtain ⟨p1, xs, rfl, h1, l1, r1⟩ := ra.rdL
    cases rb
    obtain ⟨⟨z1, z3⟩, rfl⟩ := e
    have hl := r1.length
    unfold most at z1
    refine op_repR pins s σ H _ _ v u Q I rx ry ⟨p1, _, xs, rfl, rfl, h1, by omega, by omega, ?_, fun p np => ?_⟩
    · rw [← hl]; exact Nat.le_trans z3 most_line
    · obtain ⟨E, R', r'⟩ := new_lst R np (by rw [PyProof.Rows.lm_len_rep_flat, Nat.mul_comm]; exact z3) (r1.rep _)
      exact q _ _ _ E R' r'
theorem op_fdiv_ok : OpR X (binaryOp .FloorDiv) (rOp2 X.K g fun _ => evBin .fdiv) := by
  intro pins s σ H x y v u Q I rx ry h
  obtain ⟨gl, μ, st, a, b, d, R, ra, rb, e, q⟩ := h
  cases a <;> cases b <;> simp [evBin] at e
  cases ra; cases rb
  obtain ⟨hs, rfl⟩ := e
  exact op_fdivN pins s σ H _ _ v u Q I rx ry ⟨_, _, rfl, rfl, hs, q.here R (.int _)⟩
theorem op_mod_ok : OpR X (binaryOp .Mod) (rOp2 X.K g fun _ => evBin .mod) := by
  intro pins s σ H x y v u Q I rx ry h
  obtain ⟨gl, μ, st, a, b, d, R, ra, rb, e, q⟩ := h
  cases a <;> cases b <;> simp [evBin] at e
  cases ra; cases rb
  obtain ⟨hs, rfl⟩ := e
  exact op_modN pins s σ H _ _ v u Q I rx ry ⟨_, _, rfl, rfl, hs, q.here R (.int _)⟩
theorem op_pow_ok : OpR X (binaryOp .Pow) (rOp2 X.K g fun _ => evBin .pow) := by
  intro pins s σ H x y v u Q I rx ry h
  obtain ⟨gl, μ, st, a, b, d, R, ra, rb, e, q⟩ := h
  cases a <;> cases b <;> simp [evBin] at e
  cases ra; cases rb
  obtain ⟨⟨h1, h2, h3⟩, rfl⟩ := e
  exact op_pow pins s σ H _ _ v u Q I rx ry ⟨_, _, rfl, rfl, ⟨h1, by omega, h3⟩, q.here R (.int _)⟩
theorem bin_ok (op : Bop) : OpR X (binaryOp (opOf op)) (rOp2 X.K g fun _ => evBin op) := by
  cases op
  · exact op_add_ok
  · exact op_sub_ok
  · exact op_mul_ok
  · exact op_fdiv_ok
  · exact op_mod_ok
  · exact op_pow_ok

/-! ### comparisons -/
theorem deref_rep {K : PySem.W.Frag} {μ : List Addr} {st : Store} {H : Hp} {d : D} {v : V} (R : Rel K g μ st H) (r : Rep K g μ st H d v) (ok : okD (deref st d) = true) : Dp K H v (deref st d).py ∧ SeqAt.shaped (deref st d).py = true := by
  obtain ⟨hg, hs⟩ := okD_shaped ok
  refine ⟨?_, hs⟩
  cases d with
  | loc l =>
    cases q : st[l]? with
    | none => simp [deref, q, D.good] at hg
    | some o =>
      cases o with
      | lst ds =>
        simp only [deref, q, D.good, D.py] at hg ⊢
        obtain ⟨a, xs, rfl, _, h2, _, r3⟩ := r.locL R q
        exact .lst (SqL.of h2) (r3.dp hg)
      | dct _ _ => simp [deref, q, D.good] at hg
      | gone => simp [deref, q, D.good] at hg
  | rol ds =>
    unfold deref at hg ⊢
    simp only [D.good, D.py] at hg ⊢
    obtain ⟨a, xs, rfl, h2, _, r3⟩ := r.rolL
    exact .lst h2 (r3.dp hg)
  | non => exact r.dp hg
  | bl _ => exact r.dp hg
  | int _ => exact r.dp hg
  | str _ => exact r.dp hg
  | tup _ => exact r.dp hg
  | lst _ => exact r.dp hg
  | dct _ _ => exact r.dp hg
  | fn _ => exact r.dp hg
mutual
theorem alk_py : ∀ x y : D, D.alk x y = true → PySem.W.alike x.py y.py = true ∧ x.py ≠ .none
  | .int _, y, h => by cases y <;> simp [D.alk] at h <;> simp [D.py, PySem.W.alike]
  | .tup xs, y, h => by
    cases y <;> simp [D.alk] at h
    simp only [D.py, PySem.W.alike]
    exact ⟨alks_py xs _ h, by simp⟩
  | .non, y, h | .bl _, y, h | .str _, y, h | .lst _, y, h | .rol _, y, h | .dct _ _, y, h | .loc _, y, h | .fn _, y, h => by simp [D.alk] at h
theorem alks_py : ∀ xs ys : List D, D.alks xs ys = true → PySem.W.alikeAll (D.pys xs) (D.pys ys) = true
  | [], _, _ => by simp [D.pys, PySem.W.alikeAll]
  | _ :: _, [], _ => by simp [D.pys, PySem.W.alikeAll]
  | x :: xs, y :: ys, h => by
    rw [D.alks, Bool.and_eq_true] at h
    rw [D.pys, D.pys, PySem.W.alikeAll, (alk_py x y h.1).1, alks_py xs ys h.2]; rfl
end
mutual
theorem ltn_py : ∀ x y : D, D.alk x y = true → PySem.W.dataLt x.py y.py = D.ltn x y
  | .int _, y, h => by
    cases y <;> simp [D.alk] at h
    rw [D.py, D.py, PySem.W.dataLt_int, D.ltn]
  | .tup xs, y, h => by
    cases y <;> simp [D.alk] at h
    rw [D.py, D.py, PySem.W.dataLt_tuple, D.ltn]
    exact ltns_py xs _ h
  | .non, y, h | .bl _, y, h | .str _, y, h | .lst _, y, h | .rol _, y, h | .dct _ _, y, h | .loc _, y, h | .fn _, y, h => by simp [D.alk] at h
theorem ltns_py : ∀ xs ys : List D, D.alks xs ys = true → PyProof.Rows.lexLt itemOrd (PySem.W.keyToksAll (D.pys xs)) (PySem.W.keyToksAll (D.pys ys)) = D.ltns xs ys
  | [], [], _ => by
    have := PySem.W.firstLt_toks [] [] (by simp [PySem.W.alikeAll])
    rw [D.pys, ← this, D.ltns]; rfl
  | [], y :: ys, _ => by
    have := PySem.W.firstLt_toks [] (y.py :: D.pys ys) (by simp [PySem.W.alikeAll])
    rw [D.pys, D.pys, ← this, D.ltns]; rfl
  | x :: xs, [], _ => by
    have := PySem.W.firstLt_toks (x.py :: D.pys xs) [] (by simp [PySem.W.alikeAll])
    rw [D.pys, D.pys, ← this, D.ltns]; rfl
  | x :: xs, y :: ys, h => by
    rw [D.alks, Bool.and_eq_true] at h
    have ha := (alk_py x y h.1).1
    rw [D.pys, D.pys, D.ltns]
    cases c : eqv x y with
    | true => rw [PySem.W.dataLt_all_yes ha c, if_pos rfl, ltns_py xs ys h.2]
    | false => rw [PySem.W.dataLt_all_no ha c, if_neg (by simp), ltn_py x y h.1]
end
theorem op_ltD {X : Cx} (hu : X.A.units + 64 < cLine) : OpR X (compareOp .Lt) (fun x y H Q => ∃ d e, Dp X.K H x d ∧ Dp X.K H y e ∧ SeqAt.shaped d = true ∧ SeqAt.shaped e = true ∧ (PySem.W.alike d e = true ∧ d ≠ .none) ∧ Q (.bl (PySem.W.dataLt d e)) H) := by
  intro pins s σ H x y v u Q I rx ry h
  obtain ⟨d, e, hd, he, sd, se, ⟨al, hn⟩, q⟩ := h
  obtain ⟨as, r1⟩ := Dp.reads I d x v hd rx
  obtain ⟨bs, r2⟩ := Dp.reads I e y u he ry
  have d1 := SeqAt.depth_of_shaped sd
  exact PySem.W.rcLt_alike d e X.A s v u as bs r1 r2 al hn (by omega) X.prog X.w _ _ ⟨.bl _, H, I, rfl, q⟩
theorem any_pys {a : D} : ∀ ds : List D, ((D.pys ds).any fun z => PyData.eqv z a.py) = ds.any fun z => eqv z a
  | [] => rfl
  | d :: ds => by rw [D.pys, List.any_cons, List.any_cons, any_pys ds]; rfl
theorem rep_isN {K : PySem.W.Frag} {μ : List Addr} {st : Store} {H : Hp} {d : D} {v : V} (r : Rep K g μ st H d v) : decide (v = .non) = isNon d := by
  cases r <;> simp [isNon]
theorem in_ok {st : Store} {μ : List Addr} {H : Hp} {a b : D} {x y : V} {k : Bool} {K : PySem.W.Frag} (R : Rel K g μ st H) (ra : Rep K g μ st H a x) (rb : Rep K g μ st H b y) (e : evIn st a b = some k) :
    ∃ ds p xs, y = .ref p ∧ Dp K H x a.py ∧ SeqAt.shaped a.py = true ∧ SeqAt.shaped (.list (D.pys ds)) = true ∧ DpAll K H xs (D.pys ds) ∧ (SqL K H p xs ∨ SqT K H p xs) ∧ k = (D.pys ds).any fun z => PyData.eqv z a.py := by
  unfold evIn at e
  cases q : EV.seqOf st b with
  | none => rw [q] at e; simp at e
  | some ds =>
    rw [q] at e
    simp only at e
    split at e
    · rename_i h
      rw [Bool.and_eq_true] at h
      cases e
      obtain ⟨p, xs, rfl, h2, _, r3⟩ := rb.seqOf R q
      obtain ⟨g1, s1⟩ := okD_shaped h.1
      obtain ⟨g2, s2⟩ := okD_shaped h.2
      rw [D.good] at g2
      rw [D.py] at s2
      exact ⟨ds, p, xs, rfl, ra.dp g1, s1, s2, r3.dp g2, h2, (any_pys ds).symm⟩
    · cases e
theorem op_in_ok (hu : X.A.units + 65 < cLine) : OpR X (compareOp .In) (rOp2 X.K g fun st a b => (evCmp st .isIn a b).map .bl) := by
  intro pins s σ H x y v u Q I rx ry h
  obtain ⟨gl, μ, st, a, b, d, R, ra, rb, e, q⟩ := h
  simp only [evCmp, Option.map_eq_some_iff] at e
  obtain ⟨k, e, rfl⟩ := e
  obtain ⟨ds, p, xs, rfl, hd, s1, s2, r3, h2, rfl⟩ := in_ok R ra rb e
  have q' := q.here R (.bl _)
  rcases h2 with h2 | h2
  · exact op_inD hu pins s σ H x _ v u Q I rx ry ⟨_, _, hd, .lst h2 r3, s1, s2, q'⟩
  · obtain ⟨as, r1⟩ := Dp.reads I _ x v hd rx
    obtain ⟨bs, r2⟩ := Dp.reads I (.tuple (D.pys ds)) _ u (.tup h2 r3) ry
    exact SeqAt.in_tuple_reads r2 r1 (SeqAt.canLay_of_shaped s2) (SeqAt.canLay_of_shaped s1) (room_in_shaped s1 hu) ⟨.bl _, H, I, rfl, q'⟩
theorem op_notIn_ok (hu : X.A.units + 65 < cLine) : OpR X (compareOp .NotIn) (rOp2 X.K g fun st a b => (evCmp st .notIn a b).map .bl) := by
  intro pins s σ H x y v u Q I rx ry h
  obtain ⟨gl, μ, st, a, b, d, R, ra, rb, e, q⟩ := h
  simp only [evCmp, Option.map_eq_some_iff] at e
  obtain ⟨k', ⟨k, e, rfl⟩, rfl⟩ := e
  obtain ⟨ds, p, xs, rfl, hd, s1, s2, r3, h2, rfl⟩ := in_ok R ra rb e
  have q' := q.here R (.bl _)
  rcases h2 with h2 | h2
  · exact op_notInD hu pins s σ H x _ v u Q I rx ry ⟨_, _, hd, .lst h2 r3, s1, s2, q'⟩
  · obtain ⟨as, r1⟩ := Dp.reads I _ x v hd rx
    obtain ⟨bs, r2⟩ := Dp.reads I (.tuple (D.pys ds)) _ u (.tup h2 r3) ry
    exact SeqAt.notIn_tuple_reads r2 r1 (SeqAt.canLay_of_shaped s2) (SeqAt.canLay_of_shaped s1) (room_in_shaped s1 hu) ⟨.bl _, H, I, rfl, q'⟩
theorem lexLt_eq : ∀ xs ys : List Int, lexLt xs ys = HT.lexLt xs ys
  | [], [] => rfl
  | [], _ :: _ => rfl
  | _ :: _, [] => rfl
  | x :: xs, y :: ys => by rw [lexLt, HT.lexLt_cons, lexLt_eq xs ys]
theorem cmp_ok (op : Cop) (hu : X.A.units + 65 < cLine) : OpR X (compareOp (copOf op)) (rOp2 X.K g fun st a b => (evCmp st op a b).map .bl) := by
  cases op with
  | isIn => exact op_in_ok hu
  | notIn => exact op_notIn_ok hu
  | eq =>
    intro pins s σ H x y v u Q I rx ry h
    obtain ⟨gl, μ, st, a, b, d, R, ra, rb, e, q⟩ := h
    simp only [evCmp, Option.map_eq_some_iff] at e
    obtain ⟨k, e, rfl⟩ := e
    split at e
    · rename_i h
      rw [Bool.and_eq_true] at h
      cases e
      obtain ⟨d1, s1⟩ := deref_rep R ra h.1
      obtain ⟨d2, s2⟩ := deref_rep R rb h.2
      exact op_eqD (by omega) pins s σ H x y v u Q I rx ry ⟨_, _, d1, d2, s1, s2, q.here R (.bl _)⟩
    · cases e
  | ne =>
    intro pins s σ H x y v u Q I rx ry h
    obtain ⟨gl, μ, st, a, b, d, R, ra, rb, e, q⟩ := h
    simp only [evCmp, Option.map_eq_some_iff] at e
    obtain ⟨k, e, rfl⟩ := e
    split at e
    · rename_i h
      rw [Bool.and_eq_true] at h
      cases e
      obtain ⟨d1, s1⟩ := deref_rep R ra h.1
      obtain ⟨d2, s2⟩ := deref_rep R rb h.2
      exact op_neD (by omega) pins s σ H x y v u Q I rx ry ⟨_, _, d1, d2, s1, s2, q.here R (.bl _)⟩
    · cases e
  | lt =>
    intro pins s σ H x y v u Q I rx ry h
    obtain ⟨gl, μ, st, a, b, d, R, ra, rb, e, q⟩ := h
    simp only [evCmp, Option.map_eq_some_iff] at e
    obtain ⟨k, e, rfl⟩ := e
    cases a <;> cases b <;> simp at e
    · cases ra; cases rb; subst e
      exact op_lt pins s σ H _ _ v u Q I rx ry ⟨_, _, rfl, rfl, q.here R (.bl _)⟩
    · obtain ⟨p1, xs, rfl, h1, l1, r1⟩ := ra.seqT
      obtain ⟨p2, ys, rfl, h2, l2, r2⟩ := rb.seqT
      rename_i ds es
      split at e
      · rename_i ns ms e1 e2
        simp at e
        subst e
        rw [r1.intsR e1] at h1
        rw [r2.intsR e2] at h2
        refine op_ltT (by omega) pins s σ H _ _ v u Q I rx ry ⟨p1, p2, ns, ms, rfl, rfl, h1, h2, ?_⟩
        rw [← lexLt_eq]
        exact q.here R (.bl _)
      · split at e
        · rename_i hc
          cases e
          obtain ⟨d1, s1⟩ := okD_shaped hc.1.1
          obtain ⟨d2, s2⟩ := okD_shaped hc.1.2
          have ha : D.alk (.tup ds) (.tup es) = true := by rw [D.alk]; exact hc.2
          refine op_ltD (by omega) pins s σ H _ _ v u Q I rx ry ⟨_, _, ra.dp d1, rb.dp d2, s1, s2, alk_py _ _ ha, ?_⟩
          rw [ltn_py _ _ ha, D.ltn]
          exact q.here R (.bl _)
        · cases e
  | le =>
    intro pins s σ H x y v u Q I rx ry h
    obtain ⟨gl, μ, st, a, b, d, R, ra, rb, e, q⟩ := h
    simp only [evCmp, Option.map_eq_some_iff] at e
    obtain ⟨k, e, rfl⟩ := e
    cases a <;> cases b <;> simp at e
    cases ra; cases rb; subst e
    exact op_le pins s σ H _ _ v u Q I rx ry ⟨_, _, rfl, rfl, q.here R (.bl _)⟩
  | gt =>
    intro pins s σ H x y v u Q I rx ry h
    obtain ⟨gl, μ, st, a, b, d, R, ra, rb, e, q⟩ := h
    simp only [evCmp, Option.map_eq_some_iff] at e
    obtain ⟨k, e, rfl⟩ := e
    cases a <;> cases b <;> simp at e
    cases ra; cases rb; subst e
    exact op_gt pins s σ H _ _ v u Q I rx ry ⟨_, _, rfl, rfl, q.here R (.bl _)⟩
  | ge =>
    intro pins s σ H x y v u Q I rx ry h
    obtain ⟨gl, μ, st, a, b, d, R, ra, rb, e, q⟩ := h
    simp only [evCmp, Option.map_eq_some_iff] at e
    obtain ⟨k, e, rfl⟩ := e
    cases a <;> cases b <;> simp at e
    cases ra; cases rb; subst e
    exact op_ge pins s σ H _ _ v u Q I rx ry ⟨_, _, rfl, rfl, q.here R (.bl _)⟩
  | isN =>
    intro pins s σ H x y v u Q I rx ry h
    obtain ⟨gl, μ, st, a, b, d, R, ra, rb, e, q⟩ := h
    simp only [evCmp, Option.map_eq_some_iff] at e
    obtain ⟨k, e, rfl⟩ := e
    cases b <;> simp at e
    cases rb
    subst e
    refine op_isN pins s σ H _ _ v u Q I rx ry ⟨rfl, ?_⟩
    rw [rep_isN ra]
    exact q.here R (.bl _)
  | notN =>
    intro pins s σ H x y v u Q I rx ry h
    obtain ⟨gl, μ, st, a, b, d, R, ra, rb, e, q⟩ := h
    simp only [evCmp, Option.map_eq_some_iff] at e
    obtain ⟨k, e, rfl⟩ := e
    cases b <;> simp at e
    cases rb
    obtain rfl : k = !isNon a := by rw [e, Bool.not_not]
    refine op_notN pins s σ H _ _ v u Q I rx ry ⟨rfl, ?_⟩
    rw [rep_isN ra]
    exact q.here R (.bl _)
end
end EV

namespace EV
open PySem PySem.Spec PyProof.Rows L2
section
variable {X : Cx} {g : G}
/-! ### subscripts, slices -/
theorem ixOf_eq (n : Nat) (i : Int) : ixOf n i = ixN n i := rfl
theorem ix_ok : IxR X (rOp2 X.K g evIdx) := by
  intro value slice pins s σ H x y v u Q I rx ry h hs
  obtain ⟨gl, μ, st, a, b, d, R, ra, rb, e, q⟩ := h
  unfold evIdx at e
  cases q1 : EV.seqOf st a with
  | none => rw [q1] at e; simp at e
  | some ds =>
    rw [q1] at e
    cases b <;> simp only [reduceCtorEq] at e
    rename_i k
    obtain ⟨j, e1, e2⟩ := Option.bind_eq_some_iff.mp e
    cases rb
    obtain ⟨p, xs, rfl, h2, _, r3⟩ := ra.seqOf R q1
    obtain ⟨w, e3, rw3⟩ := r3.get e2
    have e4 : atI xs k = some w := by
      unfold atI
      rw [← r3.length, ← ixOf_eq, e1]
      exact e3
    have q' := q.here R rw3
    rcases h2 with h2 | h2
    · exact ix_list value slice pins s σ H _ _ v u Q I rx ry ⟨p, xs, k, w, rfl, rfl, h2, e4, q'⟩ hs
    · exact ix_tup value slice pins s σ H _ _ v u Q I rx ry ⟨p, xs, k, w, rfl, rfl, h2, e4, q'⟩ hs
theorem cutIx_eq (n d : Nat) (o : Option Int) : cutIx n d o = HT.sIx n d o := by
  cases o with
  | none => rfl
  | some v =>
    show (if v < 0 then (max (v + n) 0).toNat else min v.toNat n) = (if v < 0 then (v + (n : Int)).toNat else min v.toNat n)
    split
    · omega
    · rfl
theorem cut_rep {K : PySem.W.Frag} {μ : List Addr} {st : Store} {H : Hp} {ds : List D} {xs : List V} (r : Reps K g μ st H ds xs) (lo hi : Option Int) : Reps K g μ st H (cut ds lo hi) (cutV xs lo hi) := by
  unfold cut cutV
  rw [cutIx_eq, cutIx_eq, r.length]
  exact (r.drop _).take _
theorem cut_len (ds : List D) (lo hi : Option Int) : (cut ds lo hi).length ≤ ds.length := by
  unfold cut
  rw [List.length_take, List.length_drop]
  omega
theorem cut_all {ds : List D} {lo hi : Option Int} (h : HT.sIx ds.length 0 lo = 0 ∧ HT.sIx ds.length ds.length hi = ds.length) : cut ds lo hi = ds := by
  unfold cut
  rw [cutIx_eq, cutIx_eq, h.1, h.2, List.drop_zero, Nat.sub_zero, List.take_length]
def rSlD (K : PySem.W.Frag) (g : G) : V → Option Int → Option Int → Hp → VK → Prop := fun x lo hi H Q => ∃ gl μ st a d, Rel K (g.h gl) μ st H ∧ Rep K (g.h gl) μ st H a x ∧ evSl st a lo hi = some d ∧ Post K (g.h gl) (Rep K (g.h gl)) μ st H (.ok d st) Q (fun _ _ _ => False)
theorem seqOf_deref {st : Store} {a : D} {ds : List D} (h : deref st a = .lst ds ∨ deref st a = .tup ds) : EV.seqOf st a = some ds := by
  unfold EV.seqOf
  rcases h with h | h <;> rw [h]
theorem deref_tup {st : Store} {a : D} {ds : List D} (h : deref st a = .tup ds) : a = .tup ds := by
  cases a with
  | loc l =>
    unfold deref at h
    simp only at h
    split at h <;> cases h
  | rol _ => cases h
  | _ => exact h
theorem deref_lst {K : PySem.W.Frag} {μ : List Addr} {st : Store} {H : Hp} {a : D} {v : V} {ds : List D} (R : Rel K g μ st H) (r : Rep K g μ st H a v) (h : deref st a = .lst ds) : ∃ p xs, v = .ref p ∧ SqL K H p xs ∧ ds.length ≤ most ∧ Reps K g μ st H ds xs := by
  cases a with
  | loc l =>
    unfold deref at h
    simp only at h
    split at h
    · rename_i es q
      cases h
      obtain ⟨p, xs, h1, _, h2, h3⟩ := r.locL R q
      exact ⟨p, xs, h1, SqL.of h2, h3⟩
    · cases h
  | rol es => cases h; exact r.rolL
  | lst es => cases h; exact r.seqL
  | _ => cases h
theorem sl_ok : SlR X (rSlD X.K g) := by
  intro pins s σ H x v vl vu lo hi sl Q I rx hs pl pu h
  obtain ⟨gl, μ, st, a, d, R, ra, e, q⟩ := h
  unfold evSl at e
  split at e
  · rename_i ds hd
    cases e
    have ha := deref_tup hd
    subst ha
    obtain ⟨p, xs, rfl, h2, l1, r3⟩ := ra.seqT
    have hl := r3.length
    refine sl_tupA pins s σ H _ v vl vu lo hi sl Q I rx hs pl pu ⟨p, xs, rfl, h2, fun hw => ?_, fun hw p' np => ?_⟩
    · rw [← hl] at hw
      rw [cut_all hw] at q
      exact q.here R ra
    · obtain ⟨E, R', r'⟩ := new_tup R np (Nat.le_trans (cut_len ds lo hi) l1) (cut_rep r3 lo hi)
      exact q _ _ _ E R' r'
  · rename_i ds hd
    cases e
    obtain ⟨p, xs, rfl, h2, l1, r3⟩ := deref_lst R ra hd
    refine sl_list pins s σ H _ v vl vu lo hi sl Q I rx hs pl pu ⟨p, xs, rfl, h2, fun p' np => ?_⟩
    obtain ⟨E, R', r'⟩ := new_lst R np (Nat.le_trans (cut_len ds lo hi) l1) (cut_rep r3 lo hi)
    exact q _ _ _ E R' r'
  · cases e

/-! ### built-ins -/
def rBlt (K : PySem.W.Frag) (g : G) (f : Store → List D → Option D) : List V → Hp → VK → Prop := fun xs H Q => ∃ gl μ st ds d, Rel K (g.h gl) μ st H ∧ Reps K (g.h gl) μ st H ds xs ∧ f st ds = some d ∧ Post K (g.h gl) (Rep K (g.h gl)) μ st H (.ok d st) Q (fun _ _ _ => False)
theorem Reps.bools {K : PySem.W.Frag} {μ : List Addr} {st : Store} {H : Hp} : ∀ {ds : List D} {vs : List V} {bs : List Bool}, Reps K g μ st H ds vs → boolsOf ds = some bs → vs = bs.map V.bl
  | _, _, _, .nil, e => by simp [boolsOf] at e; subst e; rfl
  | _, _, ns, .cons r t, e => by
    cases r <;> simp [boolsOf] at e
    obtain ⟨m, h1, h2⟩ := e
    subst h2
    rw [List.map_cons, Reps.bools t h1]
theorem foldl_min : ∀ (r : List Int) (n : Int), (r.foldl (fun m x => if x < m then x else m) n) ∈ n :: r ∧ ∀ y ∈ n :: r, (r.foldl (fun m x => if x < m then x else m) n) ≤ y
  | [], n => ⟨List.mem_cons_self, fun y hy => by simp at hy; subst hy; exact Int.le_refl _⟩
  | x :: r, n => by
    obtain ⟨h1, h2⟩ := foldl_min r (if x < n then x else n)
    rw [List.foldl_cons]
    refine ⟨?_, fun y hy => ?_⟩
    · rcases List.mem_cons.mp h1 with e | e
      · rw [e]; split <;> simp
      · simp [e]
    · have a0 := h2 _ List.mem_cons_self
      have a1 := fun hz => h2 y (List.mem_cons_of_mem _ hz)
      generalize List.foldl _ _ r = F at a0 a1 ⊢
      rcases List.mem_cons.mp hy with e | e
      · subst e; split at a0 <;> omega
      · rcases List.mem_cons.mp e with e | e
        · subst e; split at a0 <;> omega
        · exact a1 e
theorem foldl_max : ∀ (r : List Int) (n : Int), (r.foldl (fun m x => if x > m then x else m) n) ∈ n :: r ∧ ∀ y ∈ n :: r, y ≤ (r.foldl (fun m x => if x > m then x else m) n)
  | [], n => ⟨List.mem_cons_self, fun y hy => by simp at hy; subst hy; exact Int.le_refl _⟩
  | x :: r, n => by
    obtain ⟨h1, h2⟩ := foldl_max r (if x > n then x else n)
    rw [List.foldl_cons]
    refine ⟨?_, fun y hy => ?_⟩
    · rcases List.mem_cons.mp h1 with e | e
      · rw [e]; split <;> simp
      · simp [e]
    · have a0 := h2 _ List.mem_cons_self
      have a1 := fun hz => h2 y (List.mem_cons_of_mem _ hz)
      generalize List.foldl _ _ r = F at a0 a1 ⊢
      rcases List.mem_cons.mp hy with e | e
      · subst e; split at a0 <;> omega
      · rcases List.mem_cons.mp e with e | e
        · subst e; split at a0 <;> omega
        · exact a1 e
theorem insI_perm (x : Int) : ∀ l : List Int, (insI x l).Perm (x :: l)
  | [] => .refl _
  | y :: ys => by
    unfold insI
    split
    · exact .refl _
    · exact ((insI_perm x ys).cons y).trans (.swap x y ys)
theorem insI_sorted (x : Int) : ∀ l : List Int, l.Pairwise (· ≤ ·) → (insI x l).Pairwise (· ≤ ·)
  | [], _ => by simp [insI]
  | y :: ys, h => by
    obtain ⟨h1, h2⟩ := List.pairwise_cons.mp h
    unfold insI
    split
    · rename_i hxy
      refine List.pairwise_cons.mpr ⟨fun z hz => ?_, h⟩
      rcases List.mem_cons.mp hz with e | e
      · subst e; exact hxy
      · have := h1 z e; omega
    · rename_i hxy
      refine List.pairwise_cons.mpr ⟨fun z hz => ?_, insI_sorted x ys h2⟩
      rcases List.mem_cons.mp ((insI_perm x ys).mem_iff.mp hz) with e | e
      · subst e; omega
      · exact h1 z e
theorem sortI_ok : ∀ l : List Int, (sortI l).Perm l ∧ (sortI l).Pairwise (· ≤ ·)
  | [] => ⟨.refl _, .nil⟩
  | x :: l => by
    obtain ⟨h1, h2⟩ := sortI_ok l
    exact ⟨(insI_perm x _).trans (h1.cons x), insI_sorted x _ h2⟩
theorem one_rep {K : PySem.W.Frag} {μ : List Addr} {st : Store} {H : Hp} {d : D} {xs : List V} (r : Reps K g μ st H [d] xs) : ∃ v, xs = [v] ∧ Rep K g μ st H d v := by
  cases r with | cons r t => cases t; exact ⟨_, rfl, r⟩
theorem two_rep {K : PySem.W.Frag} {μ : List Addr} {st : Store} {H : Hp} {d e : D} {xs : List V} (r : Reps K g μ st H [d, e] xs) : ∃ v w, xs = [v, w] ∧ Rep K g μ st H d v ∧ Rep K g μ st H e w := by
  cases r with | cons r t => cases t with | cons r2 t => cases t; exact ⟨_, _, rfl, r, r2⟩
theorem b_len : CallR X (.builtin "len") (rBlt X.K g fun st => evBlt st .len) := by
  intro pins s σ H xs us Q I r h
  obtain ⟨gl, μ, st, ds, d, R, rs, e, q⟩ := h
  match ds, e with
  | [a], e =>
    simp only [evBlt, Option.map_eq_some_iff] at e
    obtain ⟨es, e1, rfl⟩ := e
    obtain ⟨v, rfl, ra⟩ := one_rep rs
    obtain ⟨p, ys, rfl, h2, _, r3⟩ := ra.seqOf R e1
    refine call_len_seq pins s σ H _ us Q I r ⟨p, ys, rfl, h2, ?_⟩
    rw [← r3.length]
    exact q.here R (.int _)
theorem b_abs : CallR X (.builtin "abs") (rBlt X.K g fun st => evBlt st .abs) := by
  intro pins s σ H xs us Q I r h
  obtain ⟨gl, μ, st, ds, d, R, rs, e, q⟩ := h
  match ds, e with
  | [.int i], e =>
    simp only [evBlt, Option.some.injEq] at e
    subst e
    obtain ⟨v, rfl, ra⟩ := one_rep rs
    cases ra
    exact call_abs pins s σ H _ us Q I r ⟨i, rfl, q.here R (.int _)⟩
theorem b_int : CallR X (.type "int") (rBlt X.K g fun st => evBlt st .int) := by
  intro pins s σ H xs us Q I r h
  obtain ⟨gl, μ, st, ds, d, R, rs, e, q⟩ := h
  match ds, e with
  | [.int i], e =>
    simp only [evBlt, Option.some.injEq] at e
    subst e
    obtain ⟨v, rfl, ra⟩ := one_rep rs
    cases ra
    exact call_int1 pins s σ H _ us Q I r (.inl ⟨i, rfl, q.here R (.int _)⟩)
  | [.bl b], e =>
    simp only [evBlt, Option.some.injEq] at e
    subst e
    obtain ⟨v, rfl, ra⟩ := one_rep rs
    cases ra
    exact call_int1 pins s σ H _ us Q I r (.inr ⟨b, rfl, q.here R (.int _)⟩)
theorem b_sum (hc : X.calm = true) : CallR X (.builtin "sum") (rBlt X.K g fun st => evBlt st .sum) := by
  intro pins s σ H xs us Q I r h
  obtain ⟨gl, μ, st, ds, d, R, rs, e, q⟩ := h
  match ds, e with
  | [.lst es], e =>
    simp only [evBlt, Option.map_eq_some_iff] at e
    obtain ⟨ns, e1, rfl⟩ := e
    obtain ⟨v, rfl, ra⟩ := one_rep rs
    obtain ⟨p, ys, rfl, h2, _, r3⟩ := ra.seqL
    rw [r3.intsR e1] at h2
    exact cr_sum hc pins s σ H _ us Q I r ⟨p, ns, rfl, h2, q.here R (.int _)⟩
theorem b_min1 (hc : X.calm = true) : CallR X (.builtin "min") (rBlt X.K g fun st => evBlt st .min1) := by
  intro pins s σ H xs us Q I r h
  obtain ⟨gl, μ, st, ds, d, R, rs, e, q⟩ := h
  match ds, e with
  | [.lst es], e =>
    simp only [evBlt, Option.bind_eq_some_iff] at e
    obtain ⟨ns, e1, e2⟩ := e
    obtain ⟨v, rfl, ra⟩ := one_rep rs
    obtain ⟨p, ys, rfl, h2, _, r3⟩ := ra.seqL
    rw [r3.intsR e1] at h2
    match ns, e2 with
    | n :: t, e2 =>
      cases e2
      refine cr_min hc pins s σ H _ us Q I r ⟨p, n :: t, rfl, h2, by simp, fun m h1 h3 => ?_⟩
      obtain ⟨k1, k2⟩ := foldl_min t n
      have : m = t.foldl (fun m x => if x < m then x else m) n := by
        have := h3 _ k1
        have := k2 _ h1
        omega
      subst this
      exact q.here R (.int _)
theorem b_max1 (hc : X.calm = true) : CallR X (.builtin "max") (rBlt X.K g fun st => evBlt st .max1) := by
  intro pins s σ H xs us Q I r h
  obtain ⟨gl, μ, st, ds, d, R, rs, e, q⟩ := h
  match ds, e with
  | [.lst es], e =>
    simp only [evBlt, Option.bind_eq_some_iff] at e
    obtain ⟨ns, e1, e2⟩ := e
    obtain ⟨v, rfl, ra⟩ := one_rep rs
    obtain ⟨p, ys, rfl, h2, _, r3⟩ := ra.seqL
    rw [r3.intsR e1] at h2
    match ns, e2 with
    | n :: t, e2 =>
      cases e2
      refine cr_max hc pins s σ H _ us Q I r ⟨p, n :: t, rfl, h2, by simp, fun m h1 h3 => ?_⟩
      obtain ⟨k1, k2⟩ := foldl_max t n
      have : m = t.foldl (fun m x => if x > m then x else m) n := by
        have := h3 _ k1
        have := k2 _ h1
        omega
      subst this
      exact q.here R (.int _)
theorem b_min2 (hc : X.calm = true) : CallR X (.builtin "min") (rBlt X.K g fun st => evBlt st .min2) := by
  intro pins s σ H xs us Q I r h
  obtain ⟨gl, μ, st, ds, d, R, rs, e, q⟩ := h
  match ds, e with
  | [.int i, .int j], e =>
    simp only [evBlt, Option.some.injEq] at e
    subst e
    obtain ⟨v, w, rfl, ra, rb⟩ := two_rep rs
    cases ra
    cases rb
    exact call_min2 hc pins s σ H _ us Q I r ⟨i, j, rfl, q.here R (.int _)⟩
theorem b_max2 (hc : X.calm = true) : CallR X (.builtin "max") (rBlt X.K g fun st => evBlt st .max2) := by
  intro pins s σ H xs us Q I r h
  obtain ⟨gl, μ, st, ds, d, R, rs, e, q⟩ := h
  match ds, e with
  | [.int i, .int j], e =>
    simp only [evBlt, Option.some.injEq] at e
    subst e
    obtain ⟨v, w, rfl, ra, rb⟩ := two_rep rs
    cases ra
    cases rb
    exact call_max2 hc pins s σ H _ us Q I r ⟨i, j, rfl, q.here R (.int _)⟩
theorem b_all (hc : X.calm = true) : CallR X (.builtin "all") (rBlt X.K g fun st => evBlt st .all) := by
  intro pins s σ H xs us Q I r h
  obtain ⟨gl, μ, st, ds, d, R, rs, e, q⟩ := h
  match ds, e with
  | [.lst es], e =>
    simp only [evBlt, Option.map_eq_some_iff] at e
    obtain ⟨ns, e1, rfl⟩ := e
    obtain ⟨v, rfl, ra⟩ := one_rep rs
    obtain ⟨p, ys, rfl, h2, _, r3⟩ := ra.seqL
    rw [Reps.bools r3 e1] at h2
    exact cr_all hc pins s σ H _ us Q I r ⟨p, ns, rfl, h2, q.here R (.bl _)⟩
theorem b_tuple : CallR X (.type "tuple") (rBlt X.K g fun st => evBlt st .tuple) := by
  intro pins s σ H xs us Q I r h
  obtain ⟨gl, μ, st, ds, d, R, rs, e, q⟩ := h
  match ds, e with
  | [a], e =>
    simp only [evBlt, Option.map_eq_some_iff] at e
    obtain ⟨es, e1, rfl⟩ := e
    obtain ⟨v, rfl, ra⟩ := one_rep rs
    obtain ⟨p, ys, rfl, h2, l1, r3⟩ := ra.seqOf R e1
    refine call_tuple_of pins s σ H _ us Q I r ⟨p, ys, rfl, ?_⟩
    rcases h2 with h2 | h2
    · refine .inl ⟨h2, fun l np => ?_⟩
      obtain ⟨E, R', r'⟩ := new_tup R np l1 r3
      exact q _ _ _ E R' r'
    · exact .inr ⟨h2, q.here R (.tup h2 l1 r3)⟩
theorem b_list : CallR X (.type "list") (rBlt X.K g fun st => evBlt st .list) := by
  intro pins s σ H xs us Q I r h
  obtain ⟨gl, μ, st, ds, d, R, rs, e, q⟩ := h
  match ds, e with
  | [a], e =>
    simp only [evBlt, Option.map_eq_some_iff] at e
    obtain ⟨es, e1, rfl⟩ := e
    obtain ⟨v, rfl, ra⟩ := one_rep rs
    obtain ⟨p, ys, rfl, h2, l1, r3⟩ := ra.seqOf R e1
    refine call_list_of pins s σ H _ us Q I r ⟨p, ys, rfl, h2, fun l np => ?_⟩
    obtain ⟨E, R', r'⟩ := new_lst R np l1 r3
    exact q _ _ _ E R' r'
theorem b_sortedI : CallR X (.builtin "sorted") (rBlt X.K g fun st => evBlt st .sorted) := by
  intro pins s σ H xs us Q I r h
  obtain ⟨gl, μ, st, ds, d, R, rs, e, q⟩ := h
  match ds, e with
  | [.lst es], e =>
    simp only [evBlt, Option.map_eq_some_iff] at e
    obtain ⟨ns, e1, rfl⟩ := e
    obtain ⟨v, rfl, ra⟩ := one_rep rs
    obtain ⟨p, ys, rfl, h2, l1, r3⟩ := ra.seqL
    rw [r3.intsR e1] at h2
    refine cr_sortedI pins s σ H _ us Q I r ⟨p, ns, rfl, h2, fun ns' l hp hs np => ?_⟩
    obtain ⟨k1, k2⟩ := sortI_ok ns
    have : ns' = sortI ns := PySem.W.ksm_same (hp.trans k1.symm) hs k2
    subst this
    obtain ⟨E, R', r'⟩ := new_lst R np (by rw [List.length_map, k1.length_eq, intsOf_len e1]; exact l1) (Reps.ofInts (K := X.K) (g := g.h gl) (μ := μ) (st := st) (H := H) (sortI ns))
    exact q _ _ _ E R' r'
/-- isinstance(x, T), T a built-in class -/
def tyName : Tyc → String
  | .int => "int" | .bool => "bool" | .str => "str" | .tuple => "tuple"
theorem isi_ty {K : PySem.W.Frag} {μ : List Addr} {st : Store} {H : Hp} {d : D} {v : V} {t : Tyc} {k : Bool} (R : Rel K g μ st H) (r : Rep K g μ st H d v) (e : evIsi d t = some k) : ∃ T : String, TyX K H v (.type T) ∧ kitB T (tyName t) = some k := by
  cases r with
  | non => refine ⟨_, .base .non, ?_⟩; cases t <;> simp [evIsi] at e <;> subst e <;> decide +kernel
  | bl b => refine ⟨_, .base (.bl b), ?_⟩; cases t <;> simp [evIsi] at e <;> subst e <;> decide +kernel
  | int i => refine ⟨_, .base (.int i), ?_⟩; cases t <;> simp [evIsi] at e <;> subst e <;> decide +kernel
  | str x => refine ⟨_, .base (.str x), ?_⟩; cases t <;> simp [evIsi] at e <;> subst e <;> decide +kernel
  | @tup a xs ds h l r =>
    refine ⟨"tuple", ?_, ?_⟩
    · rcases h with (h | ⟨o, h⟩) | ⟨o, its, n, h1, h2, _⟩
      · exact .base (.tup h)
      · exact .fTuple h
      · exact .kTuple h1 h2
    · cases t <;> simp [evIsi] at e <;> subst e <;> decide +kernel
  | @lst a xs ds h n _ l r =>
    refine ⟨"list", ?_, ?_⟩
    · rcases h with h | ⟨o, h⟩
      · exact .base (.lst h)
      · exact .base (.frz h)
    · cases t <;> simp [evIsi] at e <;> subst e <;> decide +kernel
  | lstK h l r => simp [evIsi] at e
  | rol h l r => simp [evIsi] at e
  | dct _ _ _ _ _ => simp [evIsi] at e
  | loc h => simp [evIsi] at e
  | fn k => simp [evIsi] at e
end
end EV
/-! EvI: enumerate and zip over lists and tuples in any mix. -/
namespace EV
open PySem PySem.Spec PyProof.Rows L2
open Sem (wp)

/-! ### enumerate(v) begins -/
theorem meets_enumerate_newB1 {v : Value} {o : Obj} {H : Heap → Prop} (B : Begins v o H) :
    Meets (Builtin.«enumerate.__new__» ⟨[.type "enumerate", v], []⟩) (fun _ R s => H s.heap ∧
      R (.ok (.ret (.ref (s.heap.push o).objs.size))) { s with heap := (s.heap.push o).push { cls := .type "enumerate", data := .fields #[.none, .bool false, .ref s.heap.objs.size, rawInt 0, .none, .none] } }) :=
  .of_wp fun prog w A R s h => by
    obtain ⟨hp, g, d, tk, os⟩ := s; obtain ⟨h1, h⟩ := h
    have hsub := PySem.sub_enumerate
    have q1 : ∀ {A' : Around} {E : Value → Shared → Prop} {Q : Value → Shared → Prop}, Q (.ref hp.objs.size) ⟨hp.push o, g, d, tk, os⟩ → wpAny (model prog w) A' (pyIter v) Q E ⟨hp, g, d, tk, os⟩ :=
      fun q => B.iter prog w _ _ ⟨hp, g, d, tk, os⟩ _ h1 q
    wp_walk using q1
    refine wpAny_stack_any fun st => wpAny_pure ?_
    split
    · rename_i c _ _ _ _ _
      cases (c == Value.type "enumerate")
      · wp_walk using q1
        exact ⟨_, rfl, h⟩
      · wp_walk using q1
        exact ⟨_, rfl, h⟩
    · wp_walk using q1
      exact ⟨_, rfl, h⟩
section
variable {prog : Program} {w : World} {A : Around} {E : Value → Shared → Prop} {s : Shared}
theorem enum_begins1 {v : Value} {o : Obj} {H : Heap → Prop} {Q : Value → Shared → Prop} (B : Begins v o H) (h1 : H s.heap)
    (h : ∀ h', IsEnum h' (s.heap.objs.size + 1) s.heap.objs.size 0 .none → h'.get? s.heap.objs.size = some o → h'.objs.size = s.heap.objs.size + 2 →
      (∀ b o, s.heap.get? b = some o → h'.get? b = some o) → Q (.ref (s.heap.objs.size + 1)) { s with heap := h' }) :
    wpAny (model prog w) A (call (.type "enumerate") [v]) Q E s := by
  refine callType_new F.called_enumerate (by decide) (F.typeCall_enumerate_1 _) (F.newCall_enumerate_1 _) (fun obj => F.args_object_init_2 obj _) F.entry_enumerate_new
    (meets_enumerate_newB1 B) ⟨h1, ?_⟩
  have hz : (s.heap.push o).objs.size = s.heap.objs.size + 1 := Heap.size_push ..
  show _ ∧ _
  rw [hz]
  have he : IsEnum ((s.heap.push o).push { cls := .type "enumerate", data := .fields #[.none, .bool false, .ref s.heap.objs.size, rawInt 0, .none, .none] }) (s.heap.objs.size + 1) s.heap.objs.size 0 .none := by
    have := Heap.get?_push_size (s.heap.push o) (o := { cls := .type "enumerate", data := .fields #[.none, .bool false, .ref s.heap.objs.size, rawInt 0, .none, .none] }) rfl
    rw [hz] at this; exact this
  refine ⟨⟨_, he, rfl⟩, h _ he (Heap.get?_push_of_some _ (Heap.get?_push_size _ B.free)) (by rw [Heap.size_push, hz]) fun b o x => Heap.get?_push_of_some _ (Heap.get?_push_of_some _ x)⟩
end

/-! ### a list (false) or a tuple (true) -/
def SqK (tp : Bool) (K : PySem.W.Frag) (H : Hp) (a : Addr) (xs : List V) : Prop := match tp with
  | true => SqT K H a xs
  | false => SqL K H a xs
def InK (tp : Bool) (h : Heap) (a : Addr) (its : Array Value) : Prop := match tp with
  | true => h.IsTuple a its
  | false => h.IsList a its
def ItK (tp : Bool) (it a : Addr) (i : Nat) (h : Heap) : Prop := match tp with
  | true => h.IsTupleIter it a i
  | false => h.IsListIter it a i
def obK (tp : Bool) (a : Addr) : Obj := match tp with
  | true => { cls := .type "tuple_iterator", data := .fields #[.ref a, .int 0 0] }
  | false => { cls := .type "list_iterator", data := .fields #[.ref a, .int 0 0] }
section
variable {X : Cx} {pins : List (Addr × Obj)} {σ : L2.St} {H : Hp} {s : Shared} {a it : Addr} {xs ys : List V} {tp : Bool} {h h' : Heap} {i : Nat}
theorem sqK_of (I : Inv X pins σ H s) (q : SqK tp X.K H a xs) : ∃ its : List Value, Vals xs its ∧ InK tp s.heap a its.toArray := by
  cases tp with
  | true => obtain ⟨its, r, p, _⟩ := I.tuple q; exact ⟨its, r, p⟩
  | false => obtain ⟨its, r, p, _⟩ := I.list q; exact ⟨its, r, p.isList⟩
theorem sqK_inj (I : Inv X pins σ H s) (q : SqK tp X.K H a xs) (q' : SqK tp X.K H a ys) : xs = ys := by
  cases tp with
  | true => exact I.tuple_inj q q'
  | false => exact I.list_inj q q'
theorem inK_lt {its : Array Value} (q : InK tp h a its) : a < h.objs.size := by
  cases tp with
  | true => obtain ⟨o, e, _⟩ := q; exact Heap.lt_size e
  | false => obtain ⟨o, e, _⟩ := q; exact Heap.lt_size e
theorem itK_at (q : ItK tp it a i h) (k : ∀ o, h.get? it = some o → h'.get? it = some o) : ItK tp it a i h' := by
  cases tp with
  | true => exact Heap.IsTupleIter.at q k
  | false => exact Heap.IsListIter.at q k
theorem itK_obj (q : ItK tp it a i h) : ∃ o, h.get? it = some o ∧ ∀ v, o.data ≠ .cell v := by
  cases tp with
  | true => obtain ⟨o, e, c, d⟩ := q; exact ⟨o, e, fun v z => by rw [d] at z; cases z⟩
  | false => obtain ⟨o, e, c, d⟩ := q; exact ⟨o, e, fun v z => by rw [d] at z; cases z⟩
theorem itK_new (e : h.get? it = some (obK tp a)) : ItK tp it a 0 h := by
  cases tp with
  | true => exact ⟨_, e, rfl, rfl⟩
  | false => exact ⟨_, e, rfl, rfl⟩
theorem beginsK (tp : Bool) (a : Addr) (its : Array Value) : Begins (.ref a) (obK tp a) (fun h => InK tp h a its) := by
  cases tp with
  | true => exact begins_tuple a its
  | false => exact begins_list a its
theorem drawsK {prog : Program} {w : World} {A : Around} (hh : A.handled = none) (hne : a ≠ it) (its : Array Value) :
    Draws prog w A it [it, a] its.size (fun i v => its[i]? = some v) (fun i h => ItK tp it a i h ∧ InK tp h a its) := by
  cases tp with
  | true => exact Draws.tuple hh it a hne its
  | false => exact Draws.list hh it a hne its
end

/-! ### enumerate -/
def IteK (tp : Bool) (K : PySem.W.Frag) (a : Addr) : It :=
  ⟨fun i H => ∃ (xs : List V) (x : V), SqK tp K H a xs ∧ xs[i]? = some x, fun i H v H' => ∃ T x, v = .ref T ∧ H T = none ∧ H' = upd H T (.tup [.int (i : Nat), x]) ∧ ∀ xs, SqK tp K H a xs → xs[i]? = some x,
    fun i H => ∃ xs : List V, SqK tp K H a xs ∧ xs.length = i⟩
theorem turn_enumK {tp : Bool} {P : Program} {w : World} {K : PySem.W.Frag} {elts : List Expr} {kk : Nat} {tpos : Pos} (a e it : Addr) :
    Turn P w K (.Tuple elts kk tpos) (IteK tp K a) [e, it] e (fun i h => (∃ old, IsEnum h e it ((i : Nat) : Int) old) ∧ ItK tp it a i h ∧ e ≠ it ∧ a ≠ it ∧ a ≠ e) where
  mem := by simp
  obj := fun i h st b hb => by
    obtain ⟨⟨old, he⟩, hit, _⟩ := st
    have e' : b = e ∨ b = it := by simpa using hb
    rcases e' with z | z
    · rw [z]; exact ⟨_, he, fun v q => nomatch q⟩
    · rw [z]; exact itK_obj hit
  keep := fun i h h' st k => let ⟨⟨old, he⟩, hi, hne⟩ := st; ⟨⟨old, k e (by simp) _ he⟩, itK_at hi fun o q => k it (by simp) o q, hne⟩
  item := by
    intro X hP hw hK hc i pins s σ H E I hf st hg
    subst hP hw hK
    obtain ⟨⟨old, he⟩, hit, hne, hai, hae⟩ := st
    obtain ⟨xs, x, hq, hx⟩ := hg
    obtain ⟨its, rv, p⟩ := sqK_of I hq
    obtain ⟨u, hu, ru⟩ := rv.get hx
    have hel : e < s.heap.objs.size := Heap.lt_size he
    have hil : it < s.heap.objs.size := by obtain ⟨_, q, _⟩ := itK_obj hit; exact Heap.lt_size q
    have hal := inK_lt p
    have hlt : i < its.toArray.size := by
      have := (List.getElem?_eq_some_iff.mp hu).1
      rw [List.size_toArray]; exact this
    refine wpAny_pyNext_enum_itemC (drawsK (A := X.A.in1) (I.ok.hd hc) hai its.toArray) he ⟨hit, p⟩ hlt hne (by simp; exact ⟨hne, Ne.symm hae⟩) fun y h' tk hy ho hit' hT hsz hk => ?_
    have hyu : y = u := by simpa [hu] using hy.symm
    subst hyu
    refine ⟨_, rfl, wpAny_letOwnedTupleGo_enum (s := { s with heap := h', toks := tk + 1 }) ho fun h'' he' sb => ?_⟩
    have hT2 : h''.get? s.heap.objs.size = some { cls := .type "tuple", data := .seq #[.int i tk, y] } := (sb.2 _ (Nat.ne_of_gt hel)).trans hT
    have new : ObjOk X.prog X.w (upd H s.heap.objs.size (.tup [.int (i : Nat), x])) h'' s.heap.objs.size (.tup [.int (i : Nat), x]) :=
      ⟨by show 2 ≤ sizeLine; decide, [.int i tk, y], .cons ⟨_, rfl⟩ (.cons ru .nil), ⟨_, hT2, rfl, _, rfl⟩⟩
    have I1 : Inv X pins σ (upd H s.heap.objs.size (.tup [.int (i : Nat), x])) { s with heap := h'', toks := tk + 1 } :=
      I.turnedNew (ch := [e, it]) (fun b ob hb q => (sb.2 b (fun z => hb (by simp [z]))).trans (hk b ob (fun z => hb (by simp [z])) (fun z => hb (by simp [z])) q)) hf (Nat.le_refl _) new
    refine ⟨.ref s.heap.objs.size, _, I1, rfl, ⟨_, x, rfl, I.hok.fresh (Nat.le_refl _), rfl, fun ys hy => by rw [sqK_inj I hy hq]; exact hx⟩, ⟨⟨y, ?_⟩, itK_at hit'.1 fun o q => (sb.2 it (Ne.symm hne)).trans q, hne, hai, hae⟩, fun b hb => ?_⟩
    · have e1 : ((i + 1 : Nat) : Int) = (i : Int) + 1 := by omega
      rw [e1]; exact he'
    · have hb' : b < s.heap.objs.size := by
        have e' : b = e ∨ b = it := by simpa using hb
        rcases e' with z | z
        · rw [z]; exact hel
        · rw [z]; exact hil
      rw [upd_ne (Nat.ne_of_lt hb')]
      exact (hf b hb).1
  done := by
    intro X hP hw hK hc i pins s σ H E I hf st hg
    subst hP hw hK
    obtain ⟨⟨old, he⟩, hit, hne, hai, hae⟩ := st
    obtain ⟨xs, hq, hx⟩ := hg
    obtain ⟨its, rv, p⟩ := sqK_of I hq
    obtain ⟨f0, f1, f2, f3, f4, f5⟩ := hf it (by simp)
    have hl := rv.length
    have hn : i = its.toArray.size := by rw [List.size_toArray]; omega
    subst hn
    exact wpAny_pyNext_enum_endD (drawsK (A := X.A.in1) (I.ok.hd hc) hai its.toArray) he ⟨hit, p⟩ fun h' eb => ⟨rfl, I.turned (t' := s.toks) (fun b o hb q => eb b o hb q) f0 f1 f3 f4 f5⟩
  self := fun A i s Q E st h => let ⟨⟨_, he⟩, _⟩ := st; wpAny_pyIter_enum he h
def iEnumK (K : PySem.W.Frag) (ta : TA) : TI := fun σ H R => ta σ H fun vs H1 => ∃ tp a xs, vs = [.ref a] ∧ SqK tp K H1 a xs ∧ R (IteK tp K a) H1
theorem pi_enumK {X : Cx} {e : Expr} {ta : TA} {p pos tpos : Pos} {elts : List Expr} {kk : Nat} (hg : Gl X "enumerate") (hm : X.mg "enumerate" = none) (ha : PA X [e] ta) (hs : starEach [e] X.env = [(false, eval e X.env)] := by rfl) :
    PI X (.Tuple elts kk tpos) (.Call (.Name "enumerate" p) [e] [] pos) (iEnumK X.K ta) := by
  refine ⟨fun pins s σ H R I h => ?_⟩
  refine Call_ (ld_blt I hg hm boot_enumerate (PyProof.Rows.callWith_type1 (thn (ha.run pos pins s σ H _ I h) fun us s1 ⟨vs, H1, I1, r1, q1⟩ => ?_) hs rfl))
  obtain ⟨tp, a, xs, ex, hq, q⟩ := q1
  subst ex
  cases r1 with
  | cons r rr =>
    cases rr
    cases r
    obtain ⟨its, rv, p'⟩ := sqK_of I1 hq
    have hal := inK_lt p'
    refine enum_begins1 (beginsK tp a its.toArray) p' fun h' he hit hsz hk => wpAny_pyIter_enum he ?_
    have I2 : Inv X pins σ H1 { s1 with heap := h' } := I1.kept (t' := s1.toks) hk
    refine ⟨s1.heap.objs.size + 1, [s1.heap.objs.size + 1, s1.heap.objs.size], _, _, H1, rfl, I2, turn_enumK a (s1.heap.objs.size + 1) s1.heap.objs.size, ⟨⟨.none, he⟩, itK_new hit, Nat.succ_ne_self _, Nat.ne_of_lt hal, Nat.ne_of_lt (Nat.lt_succ_of_lt hal)⟩, fun b hb => ?_, q⟩
    have e' : b = s1.heap.objs.size + 1 ∨ b = s1.heap.objs.size := by simpa using hb
    have hle : s1.heap.objs.size ≤ b := by
      rcases e' with z | z
      · rw [z]; exact Nat.le_add_right _ _
      · rw [z]; exact Nat.le_refl _
    exact I1.fpOk hle (I1.hok.fresh hle)

/-! ### zip -/
def ItzK (tp tq : Bool) (K : PySem.W.Frag) (a b : Addr) : It :=
  ⟨fun i H => ∃ (xs ys : List V) (x y : V), SqK tp K H a xs ∧ SqK tq K H b ys ∧ xs[i]? = some x ∧ ys[i]? = some y,
    fun i H v H' => ∃ T x y, v = .ref T ∧ H T = none ∧ H' = upd H T (.tup [x, y]) ∧ (∀ xs, SqK tp K H a xs → xs[i]? = some x) ∧ ∀ ys, SqK tq K H b ys → ys[i]? = some y,
    fun i H => ∃ xs ys : List V, SqK tp K H a xs ∧ SqK tq K H b ys ∧ i = min xs.length ys.length⟩
/-- the cells of a zip over a, b -/
structure ZpK (z TI TO i1 i2 a b : Addr) : Prop where
  S : ZipSep2 z TI TO i1 i2 [i1, a] [i2, b]
  a1 : a ≠ i1
  b2 : b ≠ i2
theorem turn_zipK {tp tq : Bool} {P : Program} {w : World} {K : PySem.W.Frag} {elts : List Expr} {kk : Nat} {tpos : Pos} {a b z TI TO i1 i2 : Addr} (D : ZpK z TI TO i1 i2 a b) :
    Turn P w K (.Tuple elts kk tpos) (ItzK tp tq K a b) [z, TI, TO, i1, i2] z (fun i h => IsZip h z TI TO .none ∧ IsTupOf2 h TI (.ref i1) (.ref i2) ∧ (∃ x y, IsTupOf2 h TO x y) ∧ ItK tp i1 a i h ∧ ItK tq i2 b i h) where
  mem := by simp
  obj := fun i h st c hc => by
    obtain ⟨hz, hTI, ⟨x, y, hTO⟩, h1, h2⟩ := st
    have e' : c = z ∨ c = TI ∨ c = TO ∨ c = i1 ∨ c = i2 := by simpa using hc
    rcases e' with q | q | q | q | q
    · rw [q]; exact ⟨_, hz, fun v q => nomatch q⟩
    · rw [q]; exact ⟨_, hTI, fun v q => nomatch q⟩
    · rw [q]; exact ⟨_, hTO, fun v q => nomatch q⟩
    · rw [q]; exact itK_obj h1
    · rw [q]; exact itK_obj h2
  keep := fun i h h' st k => by
    obtain ⟨hz, hTI, ⟨x, y, hTO⟩, h1, h2⟩ := st
    exact ⟨k z (by simp) _ hz, k TI (by simp) _ hTI, ⟨x, y, k TO (by simp) _ hTO⟩, itK_at h1 fun o q => k i1 (by simp) o q, itK_at h2 fun o q => k i2 (by simp) o q⟩
  item := by
    intro X hP hw hK hc i pins s σ H E I hf st hg
    subst hP hw hK
    obtain ⟨hz, hTI, ⟨x0, y0, hTO⟩, h1, h2⟩ := st
    obtain ⟨xs, ys, x, y, hqx, hqy, hx, hy⟩ := hg
    obtain ⟨its, rv, p⟩ := sqK_of I hqx
    obtain ⟨its2, rv2, p2⟩ := sqK_of I hqy
    obtain ⟨u, hu, ru⟩ := rv.get hx
    obtain ⟨u2, hu2, ru2⟩ := rv2.get hy
    have hzl : z < s.heap.objs.size := Heap.lt_size hz
    have hlt1 : i < its.toArray.size := by rw [List.size_toArray]; exact (List.getElem?_eq_some_iff.mp hu).1
    have hlt2 : i < its2.toArray.size := by rw [List.size_toArray]; exact (List.getElem?_eq_some_iff.mp hu2).1
    refine wpAny_pyNext_zipD2_item D.S (drawsK (A := X.A.in1) (I.ok.hd hc) D.a1 its.toArray) (drawsK (A := X.A.in1) (I.ok.hd hc) D.b2 its2.toArray) hz hTI hTO ⟨h1, p⟩ ⟨h2, p2⟩ hlt1 hlt2 fun y1 y2 h' tk e1 e2 z' TO' st1 st2 hT hsz hk => ?_
    have h1u : y1 = u := by simpa [hu] using e1.symm
    have h2u : y2 = u2 := by simpa [hu2] using e2.symm
    subst h1u h2u
    refine ⟨_, rfl, wpAny_letOwnedTupleGo_zip (s := { s with heap := h', toks := tk }) z' fun h'' z'' sb => ?_⟩
    have hT2 : h''.get? s.heap.objs.size = some { cls := .type "tuple", data := .seq #[y1, y2] } := (sb.2 _ (Nat.ne_of_gt hzl)).trans hT
    have new : ObjOk X.prog X.w (upd H s.heap.objs.size (.tup [x, y])) h'' s.heap.objs.size (.tup [x, y]) :=
      ⟨by show 2 ≤ sizeLine; decide, [y1, y2], .cons ru (.cons ru2 .nil), ⟨_, hT2, rfl, _, rfl⟩⟩
    have I1 : Inv X pins σ (upd H s.heap.objs.size (.tup [x, y])) { s with heap := h'', toks := tk } :=
      I.turnedNew (ch := [z, TI, TO, i1, i2]) (fun c o hb q => (sb.2 c (fun q' => hb (by simp [q']))).trans (hk c o (fun q' => hb (by simp [q'])) (fun q' => hb (by simp [q'])) (fun q' => hb (by simp [q'])) (fun q' => hb (by simp [q'])) q)) hf (Nat.le_refl _) new
    refine ⟨.ref s.heap.objs.size, _, I1, rfl, ⟨_, x, y, rfl, I.hok.fresh (Nat.le_refl _), rfl, fun l hl => by rw [sqK_inj I hl hqx]; exact hx, fun l hl => by rw [sqK_inj I hl hqy]; exact hy⟩, ⟨z'', ?_, ⟨y1, y2, ?_⟩, ?_, ?_⟩, fun c hcm => ?_⟩
    · exact (sb.2 _ D.S.TIz).trans (hk _ _ D.S.TIz D.S.TITO D.S.TIi1 D.S.TIi2 hTI)
    · exact (sb.2 _ D.S.TOz).trans TO'
    · exact itK_at st1.1 fun o q => (sb.2 _ (Ne.symm D.S.zi1)).trans q
    · exact itK_at st2.1 fun o q => (sb.2 _ (Ne.symm D.S.zi2)).trans q
    · have hlt : c < s.heap.objs.size := by
        have e' : c = z ∨ c = TI ∨ c = TO ∨ c = i1 ∨ c = i2 := by simpa using hcm
        rcases e' with q | q | q | q | q
        · rw [q]; exact hzl
        · rw [q]; exact Heap.lt_size hTI
        · rw [q]; exact Heap.lt_size hTO
        · rw [q]; obtain ⟨_, e1, _⟩ := itK_obj h1; exact Heap.lt_size e1
        · rw [q]; obtain ⟨_, e2, _⟩ := itK_obj h2; exact Heap.lt_size e2
      rw [upd_ne (Nat.ne_of_lt hlt)]
      exact (hf c hcm).1
  done := by
    intro X hP hw hK hc i pins s σ H E I hf st hg
    subst hP hw hK
    obtain ⟨hz, hTI, ⟨x0, y0, hTO⟩, h1, h2⟩ := st
    obtain ⟨xs, ys, hqx, hqy, hend⟩ := hg
    obtain ⟨its, rv, p⟩ := sqK_of I hqx
    obtain ⟨its2, rv2, p2⟩ := sqK_of I hqy
    have l1 := rv.length
    have l2 := rv2.length
    have s1 : its.toArray.size = xs.length := by rw [List.size_toArray]; omega
    have s2 : its2.toArray.size = ys.length := by rw [List.size_toArray]; omega
    exact wpAny_pyNext_zipD2_end D.S (drawsK (A := X.A.in1) (I.ok.hd hc) D.a1 its.toArray) (drawsK (A := X.A.in1) (I.ok.hd hc) D.b2 its2.toArray) hz hTI hTO ⟨h1, p⟩ ⟨h2, p2⟩ (by rw [s1]; omega) (by rw [s2]; omega) (by rw [s1, s2]; omega) fun h' tk hk => ⟨rfl, I.turnedL (ch := [z, TI, TO, i1, i2]) (fun c o hb q =>
      hk c o (fun q' => hb (by simp [q'])) (fun q' => hb (by simp [q'])) (fun q' => hb (by simp [q'])) (fun q' => hb (by simp [q'])) q) hf⟩
  self := fun A i s Q E st h => wpAny_pyIter_zip st.1 h
def iZipK (K : PySem.W.Frag) (ta : TA) : TI := fun σ H R => ta σ H fun vs H1 => ∃ tp tq a b xs ys, vs = [.ref a, .ref b] ∧ SqK tp K H1 a xs ∧ SqK tq K H1 b ys ∧ R (ItzK tp tq K a b) H1
theorem pi_zipK {X : Cx} {e e2 : Expr} {ta : TA} {p pos tpos : Pos} {elts : List Expr} {kk : Nat} (hg : Gl X "zip") (hm : X.mg "zip" = none) (ha : PA X [e, e2] ta)
    (hs : starEach [e, e2] X.env = (false, eval e X.env) :: starEach [e2] X.env := by rfl) (hpl : (backTo pos (starEach [e2] X.env)).any (·.1) = false := by rfl) :
    PI X (.Tuple elts kk tpos) (.Call (.Name "zip" p) [e, e2] [] pos) (iZipK X.K ta) := by
  refine ⟨fun pins s σ H R I h => ?_⟩
  refine Call_ (ld_blt I hg hm PyProof.Rows.boot_zip (PyProof.Rows.callWith_type1 (thn (ha.run pos pins s σ H _ I h) fun us s1 ⟨vs, H1, I1, r1, q1⟩ => ?_) hs hpl))
  obtain ⟨tp, tq, a, b, xs, ys, ex, hqx, hqy, q⟩ := q1
  subst ex
  cases r1 with
  | cons r rr =>
    cases rr with
    | cons r' rr =>
      cases rr
      cases r
      cases r'
      have fresh5 : ∀ c, c ∈ [s1.heap.objs.size + 4, s1.heap.objs.size + 2, s1.heap.objs.size + 3, s1.heap.objs.size, s1.heap.objs.size + 1] → FpOk X pins H1 c := fun c hcm => by
        have e' : c = s1.heap.objs.size + 4 ∨ c = s1.heap.objs.size + 2 ∨ c = s1.heap.objs.size + 3 ∨ c = s1.heap.objs.size ∨ c = s1.heap.objs.size + 1 := by simpa using hcm
        have hle : s1.heap.objs.size ≤ c := by
          rcases e' with z | z | z | z | z
          · rw [z]; exact Nat.le_add_right _ _
          · rw [z]; exact Nat.le_add_right _ _
          · rw [z]; exact Nat.le_add_right _ _
          · rw [z]; exact Nat.le_refl _
          · rw [z]; exact Nat.le_add_right _ _
        exact I1.fpOk hle (I1.hok.fresh hle)
      obtain ⟨its, rv, p1⟩ := sqK_of I1 hqx
      obtain ⟨its2, rv2, p2⟩ := sqK_of I1 hqy
      have hal := inK_lt p1
      have hbl := inK_lt p2
      refine zip_begins2 (beginsK tp a its.toArray) (beginsK tq b its2.toArray) p1 p2 fun h' hz hTI hTO h1 h2 hsz hk => wpAny_pyIter_zip hz ?_
      have I2 : Inv X pins σ H1 { s1 with heap := h' } := I1.kept (t' := s1.toks) hk
      exact ⟨s1.heap.objs.size + 4, [s1.heap.objs.size + 4, s1.heap.objs.size + 2, s1.heap.objs.size + 3, s1.heap.objs.size, s1.heap.objs.size + 1], _, _, H1, rfl, I2,
        turn_zipK ⟨zip_sep2 (fp1 := [a]) (fp2 := [b]) (by simpa using hal) (by simpa using hbl), Nat.ne_of_lt hal, Nat.ne_of_lt (Nat.lt_succ_of_lt hbl)⟩, ⟨hz, hTI, ⟨_, _, hTO⟩, itK_new h1, itK_new h2⟩, fresh5, q⟩
section
variable {K : PySem.W.Frag} {a b : Addr} {xs ys : List V} {tp tq : Bool}
theorem walk_enumK : Walk (IteK tp K a) xs.length (fun H => SqK tp K H a xs) (YPair (fun i => some (.int (i : Nat))) (fun i => xs[i]?)) := by
  refine ⟨fun i _ hi q => ⟨xs, xs[i], q, by simp [hi]⟩, fun _ q => ⟨xs, q, rfl⟩, fun i H v H' _ q y => ?_⟩
  obtain ⟨T, x, h1, h2, h3, h4⟩ := y
  exact ⟨T, .int (i : Nat), x, h1, h2, h3, rfl, h4 xs q⟩
theorem walk_zipK {n : Nat} (hn : n = min xs.length ys.length) : Walk (ItzK tp tq K a b) n (fun H => SqK tp K H a xs ∧ SqK tq K H b ys) (YPair (fun i => xs[i]?) (fun i => ys[i]?)) := by
  subst hn
  refine ⟨fun i _ hi q => ?_, fun _ q => ⟨xs, ys, q.1, q.2, rfl⟩, fun i H v H' _ q y => ?_⟩
  · have h1 : i < xs.length := by omega
    have h2 : i < ys.length := by omega
    exact ⟨xs, ys, xs[i], ys[i], q.1, q.2, by simp [h1], by simp [h2]⟩
  · obtain ⟨T, x, z, h1, h2, h3, h4, h5⟩ := y
    exact ⟨T, x, z, h1, h2, h3, h4 xs q.1, h5 ys q.2⟩
end
end EV
/-! EvT: sorted of rows of ints (the first one empty), sorted(set(row)). -/
namespace EV
open PySem PySem.W PySem.Calls PyProof.Rows

/-- v is a tuple of these numbers -/
def IsRow (h : Heap) (v : Value) (ns : List Int) : Prop := ∃ (a : Addr) (dd : Option Addr) (items : Array Value) (n : Nat) (sl : Array (Option Value)), v = .ref a ∧ h.get? a = some { cls := .type "tuple", dict := dd, data := .seq items n, slots := sl } ∧ IntsAre items.toList ns
theorem IsRow.keeps {h h' : Heap} {v : Value} {ns : List Int} (x : IsRow h v ns) (k : ∀ b o, v = .ref b → h.get? b = some o → h'.get? b = some o) : IsRow h' v ns := by
  obtain ⟨a, dd, items, n, sl, e, g, i⟩ := x
  exact ⟨a, dd, items, n, sl, e, k _ _ e g, i⟩
theorem IsRow.type {M : Model} {h : Heap} {v : Value} {ns : List Int} (x : IsRow h v ns) : Looks M h (typeOf v) (.type "tuple") := by
  obtain ⟨a, dd, items, n, sl, rfl, g, i⟩ := x
  exact (Looks.ld g).andThen .now
section
variable {prog : Program} {w : World} {A : Around} {E : Value → Shared → Prop} {s : Shared}
theorem row_lt {v u : Value} {ns ms : List Int} {Q : Bool → Shared → Prop} (hu : A.units < cLine) (hv : IsRow s.heap v ns) (hw : IsRow s.heap u ms) (h : Q (HT.lexLt ns ms) s) : wpAny (model prog w) A (keyLt' oneType' v u) Q E s := by
  have iu : ∀ M : Model, Looks M s.heap (isInstance u (.type "tuple")) true := fun M => (hw.type (M := M)).andThen (.of_pure (by kernel_rfl))
  obtain ⟨a, dd, items, n, sl, rfl, ga, ia⟩ := hv
  obtain ⟨b, dd2, items2, n2, sl2, rfl, gb, ib⟩ := hw
  rw [keyLt'_oneType, oneLt'_eq]
  simp only [if_true]
  refine wpAny_bind (wpAny_cRoomFor hu ?_)
  have ht : s.TypeIs (.ref a) "tuple" := ⟨_, ga, rfl⟩
  refine wpAny_bind (wpAny_callSpecialIfBound?_slot ht F.slot_tuple_lt (call_meets F.slot_tuple_lt ht F.entry_tuple_lt (F.args_tuple_lt_2 _ _) (NtL.nt_lt_ints a b (.type "tuple") (.type "tuple") items items2 n n2 dd dd2 sl sl2 ns ms ia ib) ⟨ga, gb, iu, ?_⟩))
  exact wpAny_truthy_bool h
theorem mapM_by {α β : Type} {M : Model} {f : α → Sem β} {P : α → β → Prop} : ∀ (l : List α) {Q : List β → Shared → Prop}, (∀ v ∈ l, ∀ (Q' : β → Shared → Prop), (∀ r, P v r → Q' r s) → wpAny M A (f v) Q' E s) → (∀ rs : List β, List.length rs = l.length → (∀ (i : Nat) v, l[i]? = some v → ∃ r, (rs : List β)[i]? = some r ∧ P v r) → Q rs s) → wpAny M A (l.mapM f) Q E s
  | [], _, _, h => by rw [List.mapM_nil]; exact wpAny_pure (h [] rfl fun i v e => by simp at e)
  | x :: l, Q, hf, h => by
    rw [List.mapM_cons]
    refine wpAny_bind (hf x (.head _) _ fun r pr => wpAny_bind (mapM_by l (fun v hv => hf v (.tail _ hv)) fun rs hl hr => wpAny_pure (h (r :: rs) (by simp [hl]) fun i v e => ?_)))
    cases i with
    | zero => simp at e; subst e; exact ⟨r, by simp, pr⟩
    | succ i => simp at e ⊢; exact hr i v e
theorem row_kind {M : Model} {vs : List Value} {k : Value → List Int} {v0 : Value} {rest : List Value} {Q : SortKind → Shared → Prop} (e0 : vs = v0 :: rest) (h0 : k v0 = []) (hv : ∀ v ∈ vs, IsRow s.heap v (k v)) (h : Q oneType' s) : wpAny M A (keyKind' vs.toArray) Q E s := by
  subst e0
  rw [keyKind'_eq, List.mapM_toArray, map_eq_pure_bind]
  refine wpAny_bind (wpAny_bind (mapM_by (P := fun v (r : Option Value) => v = v0 → r = none) _ (fun v hm Q' hq => ?_) fun rs hl hr => wpAny_pure ?_))
  · rw [kas_first_eq]
    refine wpAny_bind ((hv v hm).type.here ?_)
    rw [if_neg (by decide)]
    obtain ⟨a, dd, items, n, sl, rfl, g, i⟩ := hv v hm
    refine wpAny_bind (listItems_at g rfl (wpAny_pure (hq _ fun e => ?_)))
    have hk : k (.ref a) = [] := by rw [e]; exact h0
    rw [hk] at i
    have : items.toList = [] := by generalize items.toList = l at i; cases i; rfl
    have : items = #[] := by simpa using this
    subst this
    rfl
  · obtain ⟨r, hr0, hn⟩ := hr 0 v0 (by simp)
    have hr0 : rs[0]? = some none := by rw [hr0, hn rfl]
    have ha : (rs.toArray.all (·.isSome)) = false := by
      rw [List.all_toArray]
      cases rs with
      | nil => simp at hr0
      | cons x xs => simp at hr0; subst hr0; simp
    rw [ha, if_neg (by simp), if_neg (by simp [hr0])]
    rw [oneTypeOnly'_eq, List.mapM_toArray, map_eq_pure_bind]
    refine wpAny_bind (wpAny_bind (wpAny_bind (kas_mapM (r := Value.type "tuple") _ (fun v hm Q' hq => (hv v hm).type.here hq) (wpAny_pure ?_))))
    have hall : ((List.map (fun _ => Value.type "tuple") (v0 :: rest)).toArray.all fun x => x == Value.type "tuple") = true := by
      simp only [List.all_toArray, List.all_map, List.all_eq_true]
      intro _ _
      rfl
    have h0 : (List.map (fun _ => Value.type "tuple") (v0 :: rest)).toArray[0]? = some (Value.type "tuple") := by simp
    rw [h0]
    simp only [hall, if_true]
    exact wpAny_pure (wpAny_pure h)
theorem row_sortable {a : Addr} {vs : List Value} {k : Value → List Int} {v0 : Value} {rest : List Value} (e0 : vs = v0 :: rest) (h0 : k v0 = []) (hu : A.units < cLine) (hv : ∀ v ∈ vs, IsRow s.heap v (k v)) (ha : ∀ v ∈ vs, v ≠ .ref a) :
    SrtO.SortableO prog w A s a vs fun v u => HT.lexLt (k v) (k u) := by
  intro h' keep
  have hv' : ∀ v ∈ vs, IsRow h' v (k v) := fun v hm => (hv v hm).keeps fun b o e g => keep b o (fun z => ha v hm (by rw [e, z])) g
  exact ⟨oneType', fun Q E hq => row_kind (s := { s with heap := h' }) e0 h0 hv' hq, fun p q hp hq => row_lt (s := { s with heap := h' }) (Q := fun r s' => s' = _ ∧ r = HT.lexLt (k p.1) (k q.1)) (E := fun _ _ => False) hu (hv' p.1 hp) (hv' q.1 hq) ⟨rfl, rfl⟩⟩
theorem ints_two : ∀ {vs : List Value} {i j : Int}, IntsAre vs [i, j] → ∃ t u, vs = [.int i t, .int j u]
  | _, _, _, .cons _ t (.cons _ u .nil) => ⟨t, u, rfl⟩
theorem IsRow.pair {h : Heap} {v : Value} {i j : Int} (x : IsRow h v [i, j]) : Srt.IsPair h v i j := by
  obtain ⟨a, dd, items, n, sl, rfl, g, ia⟩ := x
  obtain ⟨t, u, e⟩ := ints_two ia
  have e' : items = #[.int i t, .int j u] := by apply Array.toList_inj.mp; exact e
  subst e'
  exact ⟨a, _, t, u, n, rfl, g, rfl, rfl⟩
theorem two_is {l : List Int} (h : l.length = 2) : l = [l.getD 0 0, l.getD 1 0] := by
  match l, h with
  | [x, y], _ => rfl
theorem lex_two (x y x' y' : Int) : SrtO.lexB (x, y) (x', y') = HT.lexLt [x, y] [x', y'] := by
  unfold SrtO.lexB
  rw [HT.lexLt_cons, HT.lexLt_cons, HT.lexLt_nil_nil]
  by_cases h : x = x'
  · simp only [h, if_true]
    by_cases h2 : y = y'
    · simp [h2]
    · simp [h2]
  · simp only [h, if_false]
theorem pair_sortable {a : Addr} {vs : List Value} {k : Value → List Int} (h0 : 0 < vs.length) (h2 : ∀ v ∈ vs, (k v).length = 2) (hv : ∀ v ∈ vs, IsRow s.heap v (k v)) (ha : ∀ o, s.heap.get? a = some o → o.cls ≠ .type "tuple") :
    SrtO.SortableO prog w A s a vs fun v u => HT.lexLt (k v) (k u) := by
  intro h' keep
  obtain ⟨κ, g1, g2⟩ := SrtO.pairs_sortableO (prog := prog) (w := w) (A := A) (s := s) (a := a) (vs := vs) (k := fun v => ((k v).getD 0 0, (k v).getD 1 0)) h0 (fun v hm => IsRow.pair (by rw [← two_is (h2 v hm)]; exact hv v hm)) ha h' keep
  refine ⟨κ, g1, fun p q hp hq => ?_⟩
  have e : SrtO.lt2 (fun v u => HT.lexLt (k v) (k u)) p q = SrtO.lt2 (fun v u => SrtO.lexB ((k v).getD 0 0, (k v).getD 1 0) ((k u).getD 0 0, (k u).getD 1 0)) p q := by
    show HT.lexLt (k p.1) (k q.1) = SrtO.lexB _ _
    rw [lex_two, ← two_is (h2 _ hp), ← two_is (h2 _ hq)]
  rw [e]
  exact g2 p q hp hq
end

open PySem.Spec L2
/-! ### in plain Lean -/
theorem lexLt_eq' : ∀ xs ys : List Int, lexLt xs ys = HT.lexLt xs ys := lexLt_eq
theorem lex_total : ∀ xs ys : List Int, lexLt xs ys = false → lexLt ys xs = false → xs = ys
  | [], [], _, _ => rfl
  | [], _ :: _, h, _ => by simp [lexLt] at h
  | _ :: _, [], _, h => by simp [lexLt] at h
  | x :: xs, y :: ys, h1, h2 => by
    rw [lexLt] at h1 h2
    by_cases e : x = y
    · subst e
      rw [if_pos rfl] at h1 h2
      rw [lex_total xs ys h1 h2]
    · rw [if_neg e] at h1
      rw [if_neg (fun z => e z.symm)] at h2
      simp at h1 h2
      omega
theorem insL_perm (x : List Int) : ∀ l : List (List Int), (insL x l).Perm (x :: l)
  | [] => .refl _
  | y :: ys => by
    rw [insL]
    split
    · exact ((insL_perm x ys).cons y).trans (.swap x y ys)
    · exact .refl _
theorem insL_sorted (x : List Int) : ∀ l : List (List Int), l.Pairwise (fun a b => lexLt b a = false) → (insL x l).Pairwise (fun a b => lexLt b a = false)
  | [], _ => List.pairwise_singleton _ _
  | y :: ys, h => by
    rw [insL]
    obtain ⟨h1, h2⟩ := List.pairwise_cons.mp h
    split
    · rename_i c
      refine List.pairwise_cons.mpr ⟨fun z hz => ?_, insL_sorted x ys h2⟩
      rcases List.mem_cons.mp ((insL_perm x ys).mem_iff.mp hz) with e | e
      · subst e
        rw [lexLt_eq] at c ⊢
        exact NtL.lex_asym _ _ c
      · exact h1 z e
    · rename_i c
      have c : lexLt y x = false := by simpa using c
      refine List.pairwise_cons.mpr ⟨fun z hz => ?_, h⟩
      rcases List.mem_cons.mp hz with e | e
      · subst e; exact c
      · have := h1 z e
        rw [lexLt_eq] at c this ⊢
        exact NtL.lex_tr _ _ _ c this
theorem sortL_ok : ∀ l : List (List Int), (sortL l).Perm l ∧ (sortL l).Pairwise (fun a b => lexLt b a = false)
  | [] => ⟨.refl _, .nil⟩
  | x :: xs => by
    obtain ⟨h1, h2⟩ := sortL_ok xs
    exact ⟨(insL_perm x _).trans (h1.cons x), insL_sorted x _ h2⟩
theorem nub_mem (k : Int) : ∀ l : List Int, k ∈ nubI l ↔ k ∈ l
  | [] => by simp [nubI]
  | x :: xs => by
    rw [nubI]
    split
    · rename_i c
      rw [nub_mem k xs, List.mem_cons]
      refine ⟨.inr, fun h => ?_⟩
      rcases h with h | h
      · subst h; simpa using c
      · exact h
    · rw [List.mem_cons, List.mem_cons, nub_mem k xs]
theorem nub_nodup : ∀ l : List Int, (nubI l).Nodup
  | [] => by simp [nubI]
  | x :: xs => by
    rw [nubI]
    split
    · exact nub_nodup xs
    · rename_i c
      refine List.nodup_cons.mpr ⟨fun h => c ?_, nub_nodup xs⟩
      have := (nub_mem x xs).mp h
      simpa using this
theorem srs_uniq {ns ns' : List Int} (h : ns'.Pairwise (· < ·)) (hk : ∀ k, k ∈ ns' ↔ k ∈ ns) : ns' = sortI (nubI ns) := by
  obtain ⟨h1, h2⟩ := sortI_ok (nubI ns)
  have nd : ns'.Nodup := h.imp fun q => by omega
  have hp : ns'.Perm (nubI ns) := (List.perm_ext_iff_of_nodup nd (nub_nodup ns)).mpr fun k => by rw [hk k, nub_mem]
  exact PySem.W.ksm_same (hp.trans h1.symm) (h.imp fun q => by omega) h2

/-! ### as rules -/
section
variable {K : PySem.W.Frag} {g : G} {μ : List Addr} {st : Store} {H : Hp}
theorem ints_back : ∀ {ds : List D} {ns : List Int}, intsOf ds = some ns → ds = ns.map .int
  | [], ns, h => by rw [intsOf] at h; cases h; rfl
  | .int i :: ds, ns, h => by
    rw [intsOf] at h
    obtain ⟨ns', h1, rfl⟩ := Option.map_eq_some_iff.mp h
    rw [List.map_cons, ← ints_back h1]
  | .non :: _, _, h | .bl _ :: _, _, h | .str _ :: _, _, h | .tup _ :: _, _, h | .lst _ :: _, _, h | .dct _ _ :: _, _, h | .rol _ :: _, _, h | .loc _ :: _, _, h | .fn _ :: _, _, h => by simp [intsOf] at h
theorem Reps.rows : ∀ {ds : List D} {vs : List V} {nss : List (List Int)}, Reps K g μ st H ds vs → rowsOf ds = some nss → ds = nss.map rowD ∧ vs.length = nss.length ∧ ∀ (i : Nat) (v : V), vs[i]? = some v → ∃ (t : Addr) (ns : List Int), v = V.ref t ∧ nss[i]? = some ns ∧ SqT K H t (ns.map V.int)
  | _, _, nss, .nil, e => by
    rw [rowsOf] at e
    cases e
    exact ⟨rfl, rfl, fun i v h => by simp at h⟩
  | _, _, nss, .cons (d := d) r t, e => by
    cases r with
    | tup h l r =>
      rw [rowsOf] at e
      obtain ⟨ns, e1, e2⟩ := Option.bind_eq_some_iff.mp e
      obtain ⟨nss', e3, rfl⟩ := Option.map_eq_some_iff.mp e2
      obtain ⟨h1, h2, h3⟩ := Reps.rows t e3
      have hx := r.intsR e1
      subst hx
      refine ⟨?_, by simp [h2], fun i v hv => ?_⟩
      · rw [List.map_cons, ← h1, rowD]
        rw [← ints_back e1]
      · cases i with
        | zero => simp at hv; subst hv; exact ⟨_, ns, rfl, by simp, h⟩
        | succ i => rw [List.getElem?_cons_succ] at hv ⊢; exact h3 i v hv
    | _ => simp [rowsOf] at e
/-- the numbers of a tuple -/
noncomputable def keyV (K : PySem.W.Frag) (H : Hp) (v : V) : List Int := open Classical in if h : ∃ (t : Addr) (ns : List Int), v = .ref t ∧ SqT K H t (ns.map V.int) then h.choose_spec.choose else []
theorem map_int_inj : ∀ {a b : List Int}, a.map V.int = b.map V.int → a = b
  | [], [], _ => rfl
  | [], _ :: _, h => by simp at h
  | _ :: _, [], h => by simp at h
  | x :: xs, y :: ys, h => by
    rw [List.map_cons, List.map_cons] at h
    injection h with h1 h2
    injection h1 with h1
    rw [h1, map_int_inj h2]
theorem keyV_is {X : Cx} {pins : List (Addr × Obj)} {σ : L2.St} {s : Shared} (I : Inv X pins σ H s) {t : Addr} {ns : List Int} (h : SqT X.K H t (ns.map V.int)) : keyV X.K H (.ref t) = ns := by
  have q : ∃ (t' : Addr) (ns' : List Int), V.ref t = .ref t' ∧ SqT X.K H t' (ns'.map V.int) := ⟨t, ns, rfl, h⟩
  unfold keyV
  rw [dif_pos q]
  have hs := q.choose_spec.choose_spec
  generalize q.choose_spec.choose = ns1 at hs ⊢
  generalize q.choose = t1 at hs
  obtain ⟨e, z⟩ := hs
  cases e
  exact map_int_inj (I.tuple_inj z h)
end
section
variable {X : Cx} {g : G}
theorem swo_key (k : V → List Int) : SrtO.Swo fun v u => HT.lexLt (k v) (k u) := ⟨fun x y h => NtL.lex_asym _ _ h, fun x y z h1 h2 => NtL.lex_tr _ _ _ h1 h2⟩
theorem swo_keyV (k : Value → List Int) : SrtO.Swo fun v u => HT.lexLt (k v) (k u) := ⟨fun x y h => NtL.lex_asym _ _ h, fun x y z h1 h2 => NtL.lex_tr _ _ _ h1 h2⟩
theorem b_sortedT (hu : X.A.units + 65 < cLine) : CallR X (.builtin "sorted") (rBlt X.K g fun st => evBlt st .sortedT) := by
  intro pins s σ H xs us Q I r h
  obtain ⟨gl, μ, st, ds, d, R, rs, e, q⟩ := h
  match ds, e with
  | [.lst es], e =>
    simp only [evBlt, Option.bind_eq_some_iff] at e
    obtain ⟨nss, e1, e⟩ := e
    split at e
    · rename_i hf
      cases e
      obtain ⟨v, rfl, ra⟩ := one_rep rs
      obtain ⟨p, ys, rfl, h2, l1, r3⟩ := ra.seqL
      obtain ⟨hes, hlen, hrow⟩ := Reps.rows r3 e1
      obtain ⟨its, rv, hl, hz⟩ := I.list h2
      obtain ⟨u, rfl, ru⟩ := vals1 r
      obtain rfl : u = Value.ref p := ru
      have hmem : ∀ y ∈ ys, ∃ (t : Addr) (ns : List Int), y = V.ref t ∧ SqT X.K H t (ns.map V.int) := fun y hy => by
        obtain ⟨i, hi⟩ := List.getElem?_of_mem hy
        obtain ⟨t, ns, h1, _, h3⟩ := hrow i y hi
        exact ⟨t, ns, h1, h3⟩
      obtain ⟨b1, b2⟩ := refs_back rv fun y hy => let ⟨t, _, e, _⟩ := hmem y hy; ⟨t, e⟩
      have hk : ys.map (keyV X.K H) = nss := by
        apply List.ext_getElem?
        intro i
        rw [List.getElem?_map]
        cases hy : ys[i]? with
        | none =>
          have : ys.length ≤ i := List.getElem?_eq_none_iff.mp hy
          rw [List.getElem?_eq_none (by omega)]
          rfl
        | some y =>
          obtain ⟨t, ns, rfl, h3, h4⟩ := hrow i y hy
          rw [h3, Option.map_some, keyV_is I h4]
      have isrow : ∀ (h' : Heap), (∀ b o, s.heap.get? b = some o → h'.get? b = some o) → ∀ u ∈ its, IsRow h' u (keyV X.K H (backV u)) := fun h' kp u hm => by
        obtain ⟨t, rfl⟩ := b2 u hm
        have hy : V.ref t ∈ ys := by rw [b1]; exact List.mem_map.mpr ⟨_, hm, rfl⟩
        obtain ⟨t', ns, e, ht⟩ := hmem _ hy
        cases e
        obtain ⟨its2, r2, ⟨o, ho, hc, n, hd⟩, _⟩ := I.tuple ht
        obtain ⟨ocl, odi, oda, osl⟩ := o
        obtain rfl : ocl = Value.type "tuple" := hc
        obtain rfl := (show oda = _ from hd)
        show IsRow h' (.ref t) (keyV X.K H (.ref t))
        rw [keyV_is I ht]
        exact ⟨t, odi, its2.toArray, n, osl, rfl, kp _ _ ho, by simpa using ints_of_vals r2⟩
      have hz' : its.length ≤ sizeLine := by rw [← rv.length]; exact hz
      refine SrtO.sorted_ord (swo_keyV fun u => keyV X.K H (backV u)) hl.isList hz' (fun h2 h₁ a ha kk => ?_) fun out hs hb => ?_
      · cases hits : its with
        | nil => rw [hits] at h2; simp at h2
        | cons v0 rest =>
          rw [hits] at ha
          have hrw := isrow h₁ fun b o e => (kk b o e).2
          rw [hits] at hrw
          have hkk : ys.map (keyV X.K H) = (v0 :: rest).map (fun u => keyV X.K H (backV u)) := by rw [b1, hits, List.map_map]; rfl
          rw [hk] at hkk
          by_cases hw : twos nss = true
          · refine pair_sortable (s := { s with heap := h₁ }) (by simp) (fun v hv => ?_) hrw fun o e => ?_
            · unfold twos at hw
              rw [hkk, List.all_map, List.all_eq_true] at hw
              simpa using hw v hv
            · have e' : some o = some (seqObj "list" (v0 :: rest).toArray 0) := e.symm.trans ha
              cases e'
              intro c
              exact absurd (Value.type.inj c) (by decide)
          have hf : firstNil nss = true := by rw [Bool.or_eq_true] at hf; exact hf.resolve_right hw
          refine row_sortable (s := { s with heap := h₁ }) rfl ?_ ?_ hrw fun v hv z => ?_
          · have : ys.map (keyV X.K H) = keyV X.K H (backV v0) :: (rest.map backV).map (keyV X.K H) := by rw [b1, hits]; rfl
            rw [hk] at this
            rw [this] at hf
            simpa [firstNil] using hf
          · show X.A.units + 1 + 1 < cLine
            omega
          · subst z
            obtain ⟨t, e⟩ := b2 (.ref a) (by rw [hits]; exact hv)
            cases e
            have := hrw _ hv
            obtain ⟨a', dd, items, n, sl, e, gg, _⟩ := this
            cases e
            rw [ha] at gg
            have := congrArg (fun x => x.map Obj.cls) gg
            exact absurd this (by simp [seqObj])
      · have h3 : ∀ u ∈ out, ∃ a, u = Value.ref a := fun u hm => b2 u (hb.perm.mem_iff.mp hm)
        have hperm : (out.map backV).Perm ys := by rw [b1]; exact hb.perm.map backV
        have hkey : (out.map backV).map (keyV X.K H) = sortL nss := by
          obtain ⟨k1, k2⟩ := sortL_ok nss
          refine List.Perm.eq_of_pairwise (le := fun a b => lexLt b a = false) (fun a b _ _ h1 h2 => lex_total a b h2 h1) ?_ k2 ?_
          · rw [List.pairwise_map, List.pairwise_map]
            refine List.Pairwise.imp ?_ hs
            intro a b q
            rw [lexLt_eq]
            exact q
          · have := hperm.map (keyV X.K H)
            rw [hk] at this
            exact this.trans k1.symm
        have hfr : H (s.heap.objs.size + 1) = none := I.hok.fresh (Nat.le_succ _)
        obtain ⟨n, hn⟩ := sortedAll_at s.heap its out.toArray
        have rr : Reps X.K (g.h gl) μ st H ((sortL nss).map rowD) (out.map backV) := by
          rw [← hkey]
          have : ∀ l : List V, (∀ y ∈ l, y ∈ ys) → Reps X.K (g.h gl) μ st H ((l.map (keyV X.K H)).map rowD) l := by
            intro l
            induction l with
            | nil => intro _; exact .nil
            | cons y l ih =>
              intro hm
              refine .cons ?_ (ih fun z hz => hm z (List.mem_cons_of_mem _ hz))
              have hy := hm y List.mem_cons_self
              obtain ⟨i, hi⟩ := List.getElem?_of_mem hy
              obtain ⟨t, ns, rfl, h4, h5⟩ := hrow i y hi
              rw [keyV_is I h5]
              obtain ⟨d, hd, rd⟩ := r3.getV hi
              rw [hes, List.getElem?_map, h4] at hd
              cases hd
              exact rd
          exact this _ fun y hy => hperm.mem_iff.mp hy
        have hl2 : ((sortL nss).map rowD).length ≤ most := by
          rw [List.length_map, (sortL_ok nss).1.length_eq, ← hlen, ← r3.length]
          exact l1
        obtain ⟨E2, R2, r2⟩ := new_lst R hfr hl2 rr
        refine ⟨.ref (s.heap.objs.size + 1), upd H (s.heap.objs.size + 1) (.lst (out.map backV)), I.laid (t' := s.toks) (fun b o e => sortedAll_old e) (Nat.le_succ _) ⟨?_, out, n, vals_back h3, hn⟩, rfl, q _ _ _ E2 R2 r2⟩
        rw [List.length_map, hb.len]
        exact hz'
    · cases e
/-- set(row) -/
theorem c_set (hc : X.calm = true) : CallR X (.type "set") (fun xs H Q => ∃ (p : Addr) (ns : List Int), xs = [.ref p] ∧ SqT X.K H p (ns.map V.int) ∧ ns.length ≤ 1000 ∧ ∀ a c, H a = none → c ≤ ns.length → Q (.ref a) (upd H a (SetO X.w a (fun j => decide (j ∈ ns)) c))) := by
  intro pins s σ H xs us Q I r h
  obtain ⟨p, ns, rfl, hq, hl, q⟩ := h
  obtain ⟨u, rfl, ru⟩ := vals1 r
  obtain rfl : u = Value.ref p := ru
  obtain ⟨its, rv, pt, hz⟩ := I.tuple hq
  have hi : IntsAre its.toArray.toList ns := ints_of_vals rv
  refine call_set_tupI ns (I.ok.hd hc) (show s.heap.IsTuple p its.toArray from pt) hi (by unfold scanBound; omega) fun h' tk c R1 hcn k => ?_
  have hfr : H s.heap.objs.size = none := I.hok.fresh (Nat.le_refl _)
  exact ⟨.ref s.heap.objs.size, upd H s.heap.objs.size (SetO X.w s.heap.objs.size (fun j => decide (j ∈ ns)) c), I.laid (t' := tk) k (Nat.le_refl _) (setO_new R1), rfl, q _ c hfr hcn⟩
end
end EV
/-! EvTo: the order of nested tuples of ints. -/
namespace EV
open PySem

mutual
theorem eqv_nk : ∀ x y : D, x.nk = true → y.nk = true → (eqv x y = true ↔ x = y)
  | .int i, y, _, hy => by
    cases y <;> simp [D.nk] at hy <;> simp [eqv, D.py, PyData.eqv]
  | .tup xs, y, hx, hy => by
    cases y <;> simp [D.nk] at hy
    · simp [eqv, D.py, PyData.eqv]
    · rename_i ys
      rw [D.nk] at hx
      have := eqv_nks xs ys hx hy
      unfold eqv
      rw [D.py, D.py, PyData.eqv, this]
      simp
  | .non, _, h, _ | .bl _, _, h, _ | .str _, _, h, _ | .lst _, _, h, _ | .rol _, _, h, _ | .dct _ _, _, h, _ | .loc _, _, h, _ | .fn _, _, h, _ => by simp [D.nk] at h
theorem eqv_nks : ∀ xs ys : List D, D.nks xs = true → D.nks ys = true → (PyData.eqvAll (D.pys xs) (D.pys ys) = true ↔ xs = ys)
  | [], [], _, _ => by simp [D.pys, PyData.eqvAll]
  | [], _ :: _, _, _ => by simp [D.pys, PyData.eqvAll]
  | _ :: _, [], _, _ => by simp [D.pys, PyData.eqvAll]
  | x :: xs, y :: ys, hx, hy => by
    rw [D.nks, Bool.and_eq_true] at hx hy
    have h1 := eqv_nk x y hx.1 hy.1
    unfold eqv at h1
    rw [D.pys, D.pys, PyData.eqvAll, Bool.and_eq_true, h1, eqv_nks xs ys hx.2 hy.2]
    simp
end
theorem eqv_no {x y : D} (hx : x.nk = true) (hy : y.nk = true) (h : x ≠ y) : eqv x y = false := by
  cases e : eqv x y with
  | false => rfl
  | true => exact absurd ((eqv_nk x y hx hy).mp e) h
mutual
theorem ltn_irr : ∀ x : D, x.nk = true → D.ltn x x = false
  | .int i, _ => by simp [D.ltn]
  | .tup xs, h => by rw [D.nk] at h; rw [D.ltn]; exact ltns_irr xs h
  | .non, h | .bl _, h | .str _, h | .lst _, h | .rol _, h | .dct _ _, h | .loc _, h | .fn _, h => by simp [D.nk] at h
theorem ltns_irr : ∀ xs : List D, D.nks xs = true → D.ltns xs xs = false
  | [], _ => by simp [D.ltns]
  | x :: xs, h => by
    rw [D.nks, Bool.and_eq_true] at h
    rw [D.ltns, (eqv_nk x x h.1 h.1).mpr rfl, if_pos rfl, ltns_irr xs h.2]
end
mutual
theorem ltn_tri : ∀ x y : D, x.nk = true → y.nk = true → D.alk x y = true → D.ltn x y = false → D.ltn y x = false → x = y
  | .int i, y, _, _, ha, h1, h2 => by
    cases y <;> simp [D.alk] at ha
    simp [D.ltn] at h1 h2
    congr 1
    omega
  | .tup xs, y, hx, hy, ha, h1, h2 => by
    cases y <;> simp [D.alk] at ha
    rw [D.nk] at hx hy
    rw [D.ltn] at h1 h2
    rw [ltns_tri xs _ hx hy ha h1 h2]
  | .non, _, h, _, _, _, _ | .bl _, _, h, _, _, _, _ | .str _, _, h, _, _, _, _ | .lst _, _, h, _, _, _, _ | .rol _, _, h, _, _, _, _ | .dct _ _, _, h, _, _, _, _ | .loc _, _, h, _, _, _, _ | .fn _, _, h, _, _, _, _ => by simp [D.nk] at h
theorem ltns_tri : ∀ xs ys : List D, D.nks xs = true → D.nks ys = true → D.alks xs ys = true → D.ltns xs ys = false → D.ltns ys xs = false → xs = ys
  | [], [], _, _, _, _, _ => rfl
  | [], _ :: _, _, _, _, h, _ => by simp [D.ltns] at h
  | _ :: _, [], _, _, _, _, h => by simp [D.ltns] at h
  | x :: xs, y :: ys, hx, hy, ha, h1, h2 => by
    rw [D.nks, Bool.and_eq_true] at hx hy
    rw [D.alks, Bool.and_eq_true] at ha
    rw [D.ltns] at h1 h2
    by_cases e : x = y
    · subst e
      rw [(eqv_nk x x hx.1 hx.1).mpr rfl, if_pos rfl] at h1 h2
      rw [ltns_tri xs ys hx.2 hy.2 ha.2 h1 h2]
    · rw [eqv_no hx.1 hy.1 e, if_neg (by simp)] at h1
      rw [eqv_no hy.1 hx.1 (fun z => e z.symm), if_neg (by simp)] at h2
      exact absurd (ltn_tri x y hx.1 hy.1 ha.1 h1 h2) e
end
mutual
theorem ltn_tr : ∀ x y z : D, x.nk = true → y.nk = true → z.nk = true → D.ltn x y = true → D.ltn y z = true → D.ltn x z = true
  | .int i, y, z, _, hy, hz, h1, h2 => by
    cases y <;> simp [D.nk] at hy
    · cases z <;> simp [D.nk] at hz
      · simp [D.ltn] at h1 h2 ⊢
        omega
      · simp [D.ltn] at h2
    · simp [D.ltn] at h1
  | .tup xs, y, z, hx, hy, hz, h1, h2 => by
    cases y <;> simp [D.nk] at hy
    · simp [D.ltn] at h1
    · cases z <;> simp [D.nk] at hz
      · simp [D.ltn] at h2
      · rw [D.nk] at hx
        rw [D.ltn] at h1 h2 ⊢
        exact ltns_tr xs _ _ hx hy hz h1 h2
  | .non, _, _, h, _, _, _, _ | .bl _, _, _, h, _, _, _, _ | .str _, _, _, h, _, _, _, _ | .lst _, _, _, h, _, _, _, _ | .rol _, _, _, h, _, _, _, _ | .dct _ _, _, _, h, _, _, _, _ | .loc _, _, _, h, _, _, _, _ | .fn _, _, _, h, _, _, _, _ => by simp [D.nk] at h
theorem ltns_tr : ∀ xs ys zs : List D, D.nks xs = true → D.nks ys = true → D.nks zs = true → D.ltns xs ys = true → D.ltns ys zs = true → D.ltns xs zs = true
  | [], [], _, _, _, _, h, _ => by simp [D.ltns] at h
  | _ :: _, [], _, _, _, _, h, _ => by simp [D.ltns] at h
  | _, _ :: _, [], _, _, _, _, h => by simp [D.ltns] at h
  | [], _ :: _, _ :: _, _, _, _, _, _ => by simp [D.ltns]
  | x :: xs, y :: ys, z :: zs, hx, hy, hz, h1, h2 => by
    rw [D.nks, Bool.and_eq_true] at hx hy hz
    rw [D.ltns] at h1 h2 ⊢
    by_cases e : x = y
    · subst e
      rw [(eqv_nk x x hx.1 hx.1).mpr rfl, if_pos rfl] at h1
      by_cases e2 : x = z
      · subst e2
        rw [(eqv_nk x x hx.1 hx.1).mpr rfl, if_pos rfl] at h2 ⊢
        exact ltns_tr xs ys zs hx.2 hy.2 hz.2 h1 h2
      · rw [eqv_no hx.1 hz.1 e2, if_neg (by simp)] at h2 ⊢
        exact h2
    · rw [eqv_no hx.1 hy.1 e, if_neg (by simp)] at h1
      by_cases e2 : y = z
      · subst e2
        rw [eqv_no hx.1 hy.1 e, if_neg (by simp)]
        exact h1
      · rw [eqv_no hy.1 hz.1 e2, if_neg (by simp)] at h2
        have h3 := ltn_tr x y z hx.1 hy.1 hz.1 h1 h2
        by_cases e3 : x = z
        · subst e3
          rw [ltn_irr x hx.1] at h3
          cases h3
        · rw [eqv_no hx.1 hz.1 e3, if_neg (by simp)]
          exact h3
end
theorem ltn_asy {x y : D} (hx : x.nk = true) (hy : y.nk = true) (h : D.ltn x y = true) : D.ltn y x = false := by
  cases e : D.ltn y x with
  | false => rfl
  | true =>
    have := ltn_tr x y x hx hy hx h e
    rw [ltn_irr x hx] at this
    cases this
/-! ### in order -/
theorem full_nk {d : D} (h : keyOk true d = true) : d.nk = true := by
  cases d <;> simp [keyOk] at h
  rw [D.nk]
  exact h.1
theorem fullN_mem {es : List D} (h : fullN es = true) {d : D} (hd : d ∈ es) : d.full = true ∧ keyOk true d = true ∧ d.nk = true ∧ ∀ e ∈ es, D.alk d e = true := by
  unfold fullN at h
  have := List.all_eq_true.mp h d hd
  simp only [Bool.and_eq_true] at this
  exact ⟨this.1.1, this.1.2, full_nk this.1.2, fun e he => List.all_eq_true.mp this.2 e he⟩
theorem sortN_perm (l : List D) : (sortN l).Perm l := List.mergeSort_perm l _
/-- behind one another, each below the next or equal -/
theorem sortN_sorted {l : List D} (h : fullN l = true) : (sortN l).Pairwise fun a b => D.leN a b = true := by
  -- on the list's own items the order is total and carries on
  have tot : ∀ a b : {d // d ∈ l}, (D.leN a.1 b.1 || D.leN b.1 a.1) = true := by
    rintro ⟨a, ha⟩ ⟨b, hb⟩
    have na := (fullN_mem h ha).2.2.1
    have nb := (fullN_mem h hb).2.2.1
    unfold D.leN
    cases e : D.ltn b a with
    | false => simp
    | true => simp [ltn_asy nb na e]
  have tr : ∀ a b c : {d // d ∈ l}, D.leN a.1 b.1 = true → D.leN b.1 c.1 = true → D.leN a.1 c.1 = true := by
    rintro ⟨a, ha⟩ ⟨b, hb⟩ ⟨c, hc⟩ h1 h2
    obtain ⟨_, _, na, aa⟩ := fullN_mem h ha
    obtain ⟨_, _, nb, ab⟩ := fullN_mem h hb
    obtain ⟨_, _, nc, ac⟩ := fullN_mem h hc
    unfold D.leN at h1 h2 ⊢
    simp only [Bool.not_eq_true'] at h1 h2 ⊢
    cases e : D.ltn c a with
    | false => rfl
    | true =>
      exfalso
      cases e1 : D.ltn a b with
      | true =>
        have := ltn_tr c a b nc na nb e e1
        rw [h2] at this
        cases this
      | false =>
        have := ltn_tri a b na nb (aa b hb) e1 h1
        subst this
        rw [h2] at e
        cases e
  have att : sortN l = ((l.attach.mergeSort fun a b => D.leN a.1 b.1)).map (·.1) := by
    unfold sortN
    rw [List.map_mergeSort (s := D.leN) (fun _ _ _ _ => rfl), List.attach_map_subtype_val]
  rw [att, List.pairwise_map]
  exact List.pairwise_mergeSort (le := fun (a b : {d // d ∈ l}) => D.leN a.1 b.1) tr tot l.attach
/-- what is in order is so in one way alone -/
theorem sorted_one {l m : List D} (h : fullN l = true) (p : m.Perm l) (s : m.Pairwise fun a b => D.leN a b = true) : m = sortN l := by
  refine List.Perm.eq_of_pairwise (le := fun a b => D.leN a b = true) (fun a b ha hb h1 h2 => ?_) s (sortN_sorted h) (p.trans (sortN_perm l).symm)
  have ha := p.mem_iff.mp ha
  have hb := (sortN_perm l).mem_iff.mp hb
  unfold D.leN at h1 h2
  simp only [Bool.not_eq_true'] at h1 h2
  exact ltn_tri a b (fullN_mem h ha).2.2.1 (fullN_mem h hb).2.2.1 ((fullN_mem h ha).2.2.2 b hb) h2 h1
theorem fullN_perm {l m : List D} (p : m.Perm l) (h : fullN l = true) : fullN m = true := by
  unfold fullN
  rw [List.all_eq_true]
  intro d hd
  obtain ⟨h1, h2, _, h4⟩ := fullN_mem h (p.mem_iff.mp hd)
  simp only [Bool.and_eq_true, List.all_eq_true]
  exact ⟨⟨h1, h2⟩, fun e he => h4 e (p.mem_iff.mp he)⟩
theorem sortN_of_perm {l m : List D} (h : fullN l = true) (p : m.Perm l) : sortN m = sortN l := sorted_one h ((sortN_perm m).trans p) (sortN_sorted (fullN_perm p h))
/-! ### each once -/
theorem nubD_mem {l : List D} (h : ∀ d ∈ l, d.nk = true) (x : D) : x ∈ nubD l ↔ x ∈ l := by
  induction l with
  | nil => simp [nubD]
  | cons y l ih =>
    have ih := ih fun d hd => h d (List.mem_cons_of_mem _ hd)
    rw [nubD]
    split
    · rename_i hc
      rw [ih, List.mem_cons]
      constructor
      · exact .inr
      · rintro (rfl | h')
        · obtain ⟨z, hz, e⟩ := List.any_eq_true.mp hc
          rw [← D.beq_eq _ _ e]
          exact hz
        · exact h'
    · rw [List.mem_cons, List.mem_cons, ih]
theorem nk_beqR : ∀ (d : D), d.nk = true → D.beq d d = true := by
  have key : ∀ x y : D, x.nk = true → x = y → D.beq x y = true := by
    intro x y hx e
    subst e
    exact D.rec (motive_1 := fun d => d.nk = true → D.beq d d = true) (motive_2 := fun ds => D.nks ds = true → D.beqs ds ds = true)
      (fun h => by simp [D.nk] at h) (fun _ h => by simp [D.nk] at h) (fun _ _ => by simp [D.beq]) (fun _ h => by simp [D.nk] at h) (fun ds ih h => by rw [D.nk] at h; rw [D.beq]; exact ih h) (fun _ _ h => by simp [D.nk] at h) (fun _ _ _ _ h => by simp [D.nk] at h) (fun _ _ h => by simp [D.nk] at h)
      (fun _ h => by simp [D.nk] at h) (fun _ h => by simp [D.nk] at h) (fun _ => by simp [D.beqs]) (fun d ds h1 h2 h => by rw [D.nks, Bool.and_eq_true] at h; rw [D.beqs, h1 h.1, h2 h.2]; rfl) x hx
  exact fun d h => key d d h rfl
theorem nubD_nodup {l : List D} (h : ∀ d ∈ l, d.nk = true) : (nubD l).Nodup := by
  induction l with
  | nil => simp [nubD]
  | cons y l ih =>
    have ih := ih fun d hd => h d (List.mem_cons_of_mem _ hd)
    rw [nubD]
    split
    · exact ih
    · rename_i hc
      refine List.nodup_cons.mpr ⟨fun hm => hc ?_, ih⟩
      rw [nubD_mem (fun d hd => h d (List.mem_cons_of_mem _ hd))] at hm
      exact List.any_eq_true.mpr ⟨y, hm, nk_beqR y (h y List.mem_cons_self)⟩
theorem nubD_perm {l m : List D} (h : ∀ d ∈ l, d.nk = true) (n : m.Nodup) (e : ∀ x, x ∈ m ↔ x ∈ l) : m.Perm (nubD l) :=
  (List.perm_ext_iff_of_nodup n (nubD_nodup h)).mpr fun x => (e x).trans (nubD_mem h x).symm
end EV
/-! EvTn: sorted of nested tuples of ints. -/
namespace EV
open PySem PySem.Spec PyProof.Rows L2

section
variable {K : PySem.W.Frag} {g : G} {μ : List Addr} {st : Store} {H : Hp}
theorem keyT_good {d : D} (h : keyOk true d = true) : d.good = true ∧ d.dep ≤ 8 := by
  have nk_good : (∀ d : D, d.nk = true → d.good = true) := fun d => D.rec (motive_1 := fun d => d.nk = true → d.good = true) (motive_2 := fun ds => D.nks ds = true → D.goods ds = true)
    (fun h => by simp [D.nk] at h) (fun _ h => by simp [D.nk] at h) (fun _ _ => by simp [D.good]) (fun _ h => by simp [D.nk] at h) (fun ds ih h => by rw [D.nk] at h; rw [D.good]; exact ih h) (fun _ _ h => by simp [D.nk] at h) (fun _ _ _ _ h => by simp [D.nk] at h) (fun _ _ h => by simp [D.nk] at h)
    (fun _ h => by simp [D.nk] at h) (fun _ h => by simp [D.nk] at h) (fun _ => by simp [D.goods]) (fun d ds h1 h2 h => by rw [D.nks, Bool.and_eq_true] at h; rw [D.goods, h1 h.1, h2 h.2]; rfl) d
  cases d <;> simp [keyOk] at h
  rename_i ds
  refine ⟨nk_good _ (by rw [D.nk]; exact h.1), ?_⟩
  rw [D.dep]
  have := h.2
  omega
/-- pairs of data and value -/
theorem Reps.pairs : ∀ {ds : List D} {vs : List V}, Reps K g μ st H ds vs → ∀ p ∈ ds.zip vs, Rep K g μ st H p.1 p.2
  | _, _, .nil, p, h => by simp at h
  | _, _, .cons r t, p, h => by
    rw [List.zip_cons_cons, List.mem_cons] at h
    rcases h with rfl | h
    · exact r
    · exact Reps.pairs t p h
theorem Reps.unpair : ∀ {ps : List (D × V)}, (∀ p ∈ ps, Rep K g μ st H p.1 p.2) → Reps K g μ st H (ps.map (·.1)) (ps.map (·.2))
  | [], _ => .nil
  | p :: ps, h => .cons (h p List.mem_cons_self) (Reps.unpair fun q hq => h q (List.mem_cons_of_mem _ hq))
theorem each_rel : ∀ {ds : List D} {ys : List V} {us : List Value}, ds.length = ys.length → Vals ys us → PySem.W.EachIs (fun v (p : D × V) => RelV p.2 v) us (ds.zip ys)
  | [], _, _, _, .nil => .nil
  | _ :: _, _, _, h, .cons r t => .cons r (each_rel (by simpa using h) t)
  | [], _, _, h, .cons _ _ => by simp at h
  | _ :: _, _, _, h, .nil => by simp at h
theorem vals_of_each : ∀ {ps : List (D × V)} {us : List Value}, PySem.W.EachIs (fun v (p : D × V) => RelV p.2 v) us ps → Vals (ps.map (·.2)) us
  | _, _, .nil => .nil
  | _, _, .cons r t => .cons r (vals_of_each t)
theorem fullN_at {es : List D} (h : fullN es = true) {d : D} (hd : d ∈ es) : d.full = true ∧ keyOk true d = true ∧ ∀ e ∈ es, D.alk d e = true := by
  unfold fullN at h
  have := List.all_eq_true.mp h d hd
  simp only [Bool.and_eq_true] at this
  exact ⟨this.1.1, this.1.2, fun e he => List.all_eq_true.mp this.2 e he⟩
end
section
variable {X : Cx} {pins : List (Addr × Obj)} {σ : L2.St} {H : Hp} {s : Shared} {g : G} {μ : List Addr} {st : Store}
/-- what sorting asks of nested tuples, and what comes of it -/
structure SortsN (K : PySem.W.Frag) (g : G) (μ : List Addr) (st : Store) (H : Hp) (h : Heap) (es : List D) (ys : List V) (its : List Value) : Prop where
  rel : PySem.W.EachIs (fun v (p : D × V) => RelV p.2 v) its (es.zip ys)
  reads : PySem.W.EachIs (fun v (p : D × V) => ∃ as, Reads h v p.1.py as) its (es.zip ys)
  alike : PySem.W.AllAlike ((es.zip ys).map fun p => p.1.py)
  able : PySem.W.Sortable ((es.zip ys).map fun p => p.1.py)
  deep : ∀ p ∈ es.zip ys, p.1.py.depth ≤ 8
  done : ∀ out, PySem.W.EachIs (fun v (p : D × V) => RelV p.2 v) out ((es.zip ys).mergeSort (PySem.W.dataLe false fun p => p.1.py)) → ∃ zs, Reps K g μ st H (sortN es) zs ∧ Vals zs out
theorem each_reads (I : Inv X pins σ H s) : ∀ {es : List D} {ys : List V} {its : List Value}, Reps X.K g μ st H es ys → (∀ d ∈ es, d.good = true) → Vals ys its → PySem.W.EachIs (fun v (p : D × V) => ∃ as, Reads s.heap v p.1.py as) its (es.zip ys)
  | _, _, _, .nil, _, .nil => .nil
  | _, _, _, .cons r t, hg, .cons q qs => .cons (Dp.reads I _ _ _ (r.dp (hg _ List.mem_cons_self)) q) (each_reads I t (fun d hd => hg d (List.mem_cons_of_mem _ hd)) qs)
theorem sortsN (I : Inv X pins σ H s) {es : List D} {ys : List V} {its : List Value} (hf : fullN es = true) (r : Reps X.K g μ st H es ys) (rv : Vals ys its) : SortsN X.K g μ st H s.heap es ys its := by
  have hmem : ∀ p ∈ es.zip ys, p.1 ∈ es := fun p hp => (List.of_mem_zip hp).1
  refine ⟨each_rel r.length rv, each_reads I r (fun d hd => (keyT_good (fullN_at hf hd).2.1).1) rv, ?_, .inl ?_, ?_, fun out ho => ?_⟩
  · intro d hd d' hd'
    obtain ⟨p, hp, rfl⟩ := List.mem_map.mp hd
    obtain ⟨q, hq, rfl⟩ := List.mem_map.mp hd'
    exact (alk_py _ _ ((fullN_at hf (hmem p hp)).2.2 _ (hmem q hq))).1
  · intro d hd
    obtain ⟨p, hp, rfl⟩ := List.mem_map.mp hd
    have := (fullN_at hf (hmem p hp)).1
    cases e : p.1 with
    | tup xs =>
      rw [e] at this
      cases xs with
      | nil => simp [D.full] at this
      | cons x xs => exact ⟨_, _, by rw [D.py, D.pys]⟩
    | _ => rw [e] at this; simp [D.full] at this
  · intro p hp
    have := (keyT_good (fullN_at hf (hmem p hp)).2.1)
    exact Nat.le_trans (dep_py _) this.2
  · have hperm := List.mergeSort_perm (es.zip ys) (PySem.W.dataLe false fun p => p.1.py)
    have hfst : ((es.zip ys).mergeSort (PySem.W.dataLe false fun p => p.1.py)).map (·.1) = sortN es := by
      unfold sortN
      rw [List.map_mergeSort (s := D.leN)]
      · congr 1
        exact List.map_fst_zip (by rw [r.length]; exact Nat.le_refl _)
      · intro a ha b hb
        rw [PySem.W.dataLe_eq]
        show (!PySem.W.dataLt b.1.py a.1.py) = _
        rw [ltn_py _ _ ((fullN_at hf (hmem b hb)).2.2 _ (hmem a ha))]
        rfl
    refine ⟨_, ?_, vals_of_each ho⟩
    rw [← hfst]
    exact Reps.unpair fun p hp => Reps.pairs r p (hperm.mem_iff.mp hp)
theorem b_sortedN (hu : X.A.units + 65 < cLine) : CallR X (.builtin "sorted") (rBlt X.K g fun st => evBlt st .sortedN) := by
  intro pins s σ H xs us Q I r h
  obtain ⟨gl, μ, st, ds, d, R, rs, e, q⟩ := h
  match ds, e with
  | [.lst es], e =>
    simp only [evBlt] at e
    split at e
    · rename_i hf
      cases e
      obtain ⟨v, rfl, ra⟩ := one_rep rs
      obtain ⟨p, ys, rfl, h2, l1, r3⟩ := ra.seqL
      obtain ⟨its, rv, hl, hz⟩ := I.list h2
      obtain ⟨u, rfl, ru⟩ := vals1 r
      obtain rfl : u = Value.ref p := ru
      have N := sortsN I hf r3 rv
      have len : (es.zip ys).length = ys.length := by rw [List.length_zip, r3.length, Nat.min_self]
      refine PySem.W.sorted_data hl.isList N.rel N.reads N.alike N.able (by rw [len]; exact hz) (fun b hb => by have := N.deep b hb; show X.A.units + 2 + _ < _; omega) fun out hlen ho => ?_
      obtain ⟨zs, rz, vz⟩ := N.done out ho
      have hfr : H (s.heap.objs.size + 1) = none := I.hok.fresh (Nat.le_succ _)
      obtain ⟨n, hn⟩ := sortedAll_at s.heap its out.toArray
      have hl2 : (sortN es).length ≤ most := by
        unfold sortN
        rw [List.length_mergeSort]
        exact l1
      obtain ⟨E2, R2, r2⟩ := new_lst R hfr hl2 rz
      refine ⟨.ref (s.heap.objs.size + 1), upd H (s.heap.objs.size + 1) (.lst zs), I.laid (t' := s.toks) (fun b o e => sortedAll_old e) (Nat.le_succ _) ⟨?_, out, n, vz, hn⟩, rfl, q _ _ _ E2 R2 r2⟩
      rw [vz.length, hlen, len]
      exact hz
    · split at e
      · cases e
        exact b_sortedT hu pins s σ H xs us Q I r ⟨gl, μ, st, _, _, R, rs, rfl, q⟩
      · cases e
  | [], e | _ :: _ :: _, e | [.non], e | [.bl _], e | [.int _], e | [.str _], e | [.tup _], e | [.rol _], e | [.dct _ _], e | [.loc _], e | [.fn _], e => simp [evBlt] at e
end
end EV
/-! EvX: lambdas without parameters, handed to defs that call them in a try. -/
namespace EV
open PySem PySem.Spec PyProof.Rows L2 LamX

section
variable {X : Cx} {pins : List (Addr × Obj)} {σ : L2.St} {H : Hp} {s : Shared}
theorem after_kept {b : Addr} {ps more : Array Value} {P c : Addr} {u : HO} {o : HO} (e : H b = some o) : ∃ o', upd (upd H P (.tbl (ps ++ more))) c u b = some o' := by
  by_cases hc : b = c
  · exact ⟨u, by rw [hc, upd_same]⟩
  · by_cases hP : b = P
    · exact ⟨_, by rw [upd_ne hc, hP, upd_same]⟩
    · exact ⟨o, by rw [upd_ne hc, upd_ne hP]; exact e⟩
/-- a lambda comes to be: what the heap knows by then -/
theorem lam_mk {T : List (Addr × Str)} {c P : Addr} {params : Arguments} {body : Expr} {scope : Scope} {pos : Pos} {E : Value → Shared → Prop} {Q : Value → Shared → Prop} {q : Str} (hq : q = X.env.qual ++ "<lambda>") (I : Inv X pins σ H s) (TB : TabB X.base X.mg c P) (hcode : X.env.code = .ref c)
    (hm : (P, q) ∈ T) (hu : ∀ p ∈ T, p.1 = P → p.2 = q) (hT : Tabs T H) (hdef : defaultsOf params X.env = ([], [])) (hfree : ∀ y ∈ scope.names, y.2 = .free → ∃ c, X.env.cells.lookup y.1 = some c)
    (h : ∀ (f c' : Addr) (pm ctv : Value) (H1 : Hp) (s' : Shared), Inv X pins σ H1 s' → ExtN H H1 → (∀ b o, H b = some o → ∃ o', H1 b = some o') → Tabs T H1 →
      s'.heap.get? f = some (PySem.W.kla_obj "<lambda>" q params body scope (cloFrom X.env.cells scope.names []) pm c' ctv) → H1 f = none → f ∉ frs X.stack → H1 c' = some (CodeO c' q) → Q (.ref f) s') :
    wpAny (model X.prog X.w) X.A (eval (.Lambda params body scope pos) X.env) Q E s := by
  subst hq
  obtain ⟨ps, tP, triples, among⟩ := hT _ hm
  have heapP : s.heap.get? P = some { cls := .none, data := .fields ps } := I.hok P _ tP
  have above : ∀ f, s.heap.objs.size ≤ f → f ∉ frs X.stack := by
    intro f hf z
    cases List.mem_cons.mp (I.stkSub _ z) with
    | inl e => exact absurd I.lt (by rw [← e]; exact Nat.not_lt.mpr hf)
    | inr e => exact I.nofs hf e
  refine PySem.W.kla_eval hdef ?_
  cases found : codeAmong pos ps.toList with
  | some cv =>
    obtain ⟨c', rfl, known⟩ := among pos cv found
    refine PySem.W.kla_makeFunctionHit (mg := X.mg) (c := c) (P := P) (ps := ps) (closure_ok hfree) I.ok.glob (I.mod.glob.keeps I.bk) hcode (TB.code.keeps I.bk) heapP triples found (TB.bm.keeps I.bk) ?_
    intro ctv h' tk grew size
    exact h h'.objs.size c' ((X.mg "__name__").getD .none) ctv H _ (I.kept fun b o e => Heap.get?_push_of_some _ (grew b o e)) (ExtN.refl H) (fun b o e => ⟨o, e⟩) hT (Heap.get?_push_size _ rfl) (I.hok.fresh size) (above _ size) known
  | none =>
    refine PySem.W.kla_makeFunction (mg := X.mg) (c := c) (P := P) (ps := ps) (closure_ok hfree) I.ok.glob (I.mod.glob.keeps I.bk) hcode (TB.code.keeps I.bk) heapP triples found TB.gP (TB.bm.keeps I.bk) ?_
    intro c' ctv h' tk grew ge lt rec tab
    obtain ⟨c2, oc, vs, t, e2, isC, isF, isQ⟩ := rec
    cases e2
    have size : s.heap.objs.size ≤ h'.objs.size := Nat.le_trans ge (Nat.le_of_lt lt)
    have newC : H c' = none := I.hok.fresh ge
    generalize hmore : #[rawInt pos.line, rawInt pos.col, Value.ref c'] = more at tab
    generalize hfo : PySem.W.kla_obj "<lambda>" (X.env.qual ++ "<lambda>") params body scope (cloFrom X.env.cells scope.names []) ((X.mg "__name__").getD .none) c' ctv = fo at *
    have J := inv_table (t' := tk) (more := more) (h' := h'.push fo) (q := X.env.qual ++ "<lambda>") (c := c') I tP (fun b o hb e => Heap.get?_push_of_some _ (grew b o hb e)) (Heap.get?_push_of_some _ tab) ge ⟨oc, vs, t, Heap.get?_push_of_some _ isC, isF, isQ⟩
    have ext : ExtN H (upd (upd H P (.tbl (ps ++ more))) c' (CodeO c' (X.env.qual ++ "<lambda>"))) := by
      intro b o e n
      have nb : b ≠ P := fun z => n ps (Option.some.inj (e.symm.trans (z ▸ tP)))
      rw [upd_ne (ne_of_none e newC), upd_ne nb, e]
    have list : (ps ++ more).toList = ps.toList ++ [rawInt pos.line, rawInt pos.col, .ref c'] := by rw [← hmore]; simp
    refine h h'.objs.size c' ((X.mg "__name__").getD .none) ctv _ _ J ext (fun b o e => after_kept e) ?_ (by rw [hfo]; exact Heap.get?_push_size _ (by rw [← hfo]; rfl)) ?_ (above _ size) upd_same
    · intro p hp
      by_cases hb : p.1 = P
      · rw [hu p hp hb, hb]
        refine ⟨_, by rw [upd_ne (ne_of_none tP newC), upd_same], by rw [list]; exact PySem.TriplesOk_snoc _ _ _ _ triples, ?_⟩
        intro p' cv hcv
        rw [list] at hcv
        cases among_app _ triples hcv with
        | inl z => obtain ⟨c0, e1, e2⟩ := among p' cv z; exact ⟨c0, e1, ext _ _ e2 codeO_ne⟩
        | inr z => exact ⟨c', z, upd_same⟩
      · obtain ⟨ps', a1, a2, a3⟩ := hT p hp
        refine ⟨ps', by rw [upd_ne (ne_of_none a1 newC), upd_ne hb]; exact a1, a2, ?_⟩
        intro p' cv hcv
        obtain ⟨c0, e1, e2⟩ := a3 p' cv hcv
        exact ⟨c0, e1, ext _ _ e2 codeO_ne⟩
    · have n1 : h'.objs.size ≠ c' := Nat.ne_of_gt lt
      have n2 : h'.objs.size ≠ P := Nat.ne_of_gt (Nat.lt_of_lt_of_le (Heap.lt_size heapP) size)
      rw [upd_ne n1, upd_ne n2]
      exact I.hok.fresh size
end

/-! ### the lambda is called, in the def that got it -/
section
variable {X : Cx} {pins : List (Addr × Obj)} {σ : L2.St} {H : Hp} {s : Shared}
theorem pe_actS {Eg : XK} {Ng : List Str} {qg q : Str} {sg : Scope} {g f c' : Addr} {cdg pm ctv : Value} {params : Arguments} {body : Expr} {scope : Scope} {k i : Nat} {a : Str} {pn : List (Addr × Obj)} {xe : Value → Shared → Prop} {W : WX} {tb : XK → TE} {p1 p2 : Pos} (hq : q = X.env.qual ++ "<lambda>")
    (I : Inv X pins σ H s) (L : LamS X.env.scope scope) (hf : s.heap.get? f = some (PySem.W.kla_obj "<lambda>" q params body scope (cloFrom X.env.cells scope.names []) pm c' ctv)) (hfn : H f = none) (hfr : f ∉ frs X.stack)
    (hbind : bindArgs (PySem.W.kla_fn "<lambda>" q params body scope (cloFrom X.env.cells scope.names []) pm (.ref c') ctv) ⟨[], []⟩ = pure [])
    (tk : Takes ((cxOf (L2.CX X.prog X.w) X.prog X.w X.K X.mg X.base Ng qg sg g cdg X.A X.stack s H Eg).tr pn xe) W) (hr : Room (k + 1) (X.A.deeper (envOfC qg sg s.heap.objs.size g cdg)))
    (hbody : ∀ (E : XK) (A : Around) (outer : List Env) (s : Shared) (H : Hp), Room k (A.deeper (lamEnv X scope s.heap.objs.size f c')) → PE (lamCx X A outer s H E scope f c') body (tb E))
    (hN : Ng[i]? = some a) (hv : Vis sg a) (hd : (a == ("__debug__" : Str)) = false) (hcd : (a == ("__classdict__" : Str)) = false) :
    PE ((cxOf (L2.CX X.prog X.w) X.prog X.w X.K X.mg X.base Ng qg sg g cdg X.A X.stack s H Eg).tr pn xe) (.Call (.Name a p1) [] [] p2)
      (fun σZ HZ Q => σZ[i]? = some (some (.ref f)) ∧ HZ c' = some (CodeO c' q) ∧ tb (WE W σZ) σ HZ Q) := by
  subst hq
  refine ⟨fun pinsZ sZ σZ HZ Q IZ h => ?_⟩
  obtain ⟨slot, code, ht⟩ := h
  have look := (pe_var (pos := p1) (i := i) hN hv hd hcd).run pinsZ sZ σZ HZ (fun v H1 => v = .ref f ∧ H1 = HZ) IZ ⟨.ref f, slot, rfl, rfl⟩
  refine wpAny_Call_Name_kw (thn look fun u s1 ⟨v, H1, I1, r1, q1⟩ => ?_)
  obtain ⟨rfl, rfl⟩ := q1
  obtain rfl : u = Value.ref f := r1
  have there : s1.heap.get? f = some (PySem.W.kla_obj "<lambda>" (X.env.qual ++ "<lambda>") params body scope (cloFrom X.env.cells scope.names []) pm c' ctv) := I1.base.keep f _ hf hfn hfr (fun z => nomatch (show f ∈ ([] : List Addr) from z))
  obtain ⟨⟨oc, vs, t, hoc, hdc, hvc⟩, _, _⟩ := I1.hok c' _ code
  have runs : codeAny (model X.prog X.w) (X.A.deeper (envOfC qg sg s.heap.objs.size g cdg)) (.call (.ref f) ⟨[], []⟩) (CR (L2.CX X.prog X.w) (envOfC qg sg s.heap.objs.size g cdg :: X.stack) X.prog X.w H1 s1 Q (WE W σZ)) s1 := by
    refine PySem.W.kla_callFunE hr.depth there rfl L.co L.gen rfl ⟨c', oc, vs, t, rfl, hoc, hdc, hvc⟩ ?_
    rw [hbind]
    refine wpAny_pure (wpAny_newFunctionEnv (fun y hy => (L.own y hy).2) (fun y hy => absurd hy (by simp)) (fun h₁ hns hsb => ⟨I1.nolimit.fresh _ hsb, ?_⟩) L.kind)
    show codeAny _ _ (.expr body (lamEnv X scope s1.heap.objs.size f c')) _ _
    have grown : ∀ b o, s1.heap.get? b = some o → h₁.get? b = some o := fun b o e => hsb.extBut b o (Nat.ne_of_lt (Heap.lt_size e)) (Heap.get?_push_of_some _ e)
    have J : Inv (lamCx X (X.A.deeper (envOfC qg sg s.heap.objs.size g cdg)) (envOfC qg sg s.heap.objs.size g cdg :: X.stack) s1 H1 (WE W σZ) scope f c') [] σ H1 { s1 with heap := h₁, toks := s1.toks + ([] : List (Str × Value)).length } :=
      lam_start2 I L I1.env0 hr.hd I1.base hns grown
    have body := (hbody (WE W σZ) _ _ s1 H1 (hr.deeper _)).run [] _ _ H1 Q J ht
    refine PySem.W.kla_codeExpr (wpAny_mono body (fun v s' hq => ?_) fun e s' hq => hq)
    obtain ⟨w', H', J', rv, q⟩ := hq
    exact ⟨w', H', J'.os, J'.bare, J'.base, J'.hok, rv, q⟩
  refine PySem.W.callWith_F0 ⟨_, _, _, _, there⟩ ?_
  refine wpAny_call (codeAny_mono runs fun r s' hq => ?_)
  cases r with
  | error e => exact passAt tk σZ pinsZ H1 s1 e s' I1 hq
  | ok fl =>
    cases fl with
    | ret u => exact I1.after hq
    | next => exact hq.elim
    | brk => exact hq.elim
    | cont => exact hq.elim
end
/-- more may follow, more errors may leave -/
def Mono (tl : XK → Hp → VK → Prop) : Prop := ∀ (E E' : XK) (H : Hp) (Q Q' : VK), (∀ cls dd H', E cls dd H' → E' cls dd H') → (∀ v H', Q v H' → Q' v H') → tl E H Q → tl E' H Q'
/-- what a def makes of the lambda that it gets: TT, of the lambda's own reading -/
def GivesW (P : Program) (w : World) (K : PySem.W.Frag) (mg : Str → Option Value) (base : Heap) (Ng : List Str) (x : Str) (sg : Scope) (g : Addr) (cdg : Value) (bg : List Stmt) (a : Str) (TT : (XK → Hp → VK → Prop) → Hp → VK → XK → Prop) : Prop :=
  ∀ (A : Around) (outer : List Env) (s : Shared) (H : Hp) (Q : VK) (E : XK) (f c' : Addr) (q : Str) (tl : XK → Hp → VK → Prop), Mono tl →
    (∀ (W : WX) (pn : List (Addr × Obj)) (xe : Value → Shared → Prop) (p1 p2 : Pos), Takes ((cxOf (L2.CX P w) P w K mg base Ng x sg g cdg A outer s H E).tr pn xe) W →
      PE ((cxOf (L2.CX P w) P w K mg base Ng x sg g cdg A outer s H E).tr pn xe) (.Call (.Name a p1) [] [] p2) (fun σZ HZ Q => σZ[0]? = some (some (.ref f)) ∧ HZ c' = some (CodeO c' q) ∧ tl (WE W σZ) HZ Q)) →
    H c' = some (CodeO c' q) → TT tl H Q E → ∃ t, PSs (cxOf (L2.CX P w) P w K mg base Ng x sg g cdg A outer s H E) bg t ∧ t { nx := fun _ H' => Q .non H', rt := Q } (L2.start Ng [.ref f]) H
/-- a def that wants a lambda: its text, its promise -/
def WordDef (P : Program) (w : World) (K : PySem.W.Frag) (mg : Str → Option Value) (base : Heap) (x : Str) (TT : (XK → Hp → VK → Prop) → Hp → VK → XK → Prop) : Prop :=
  ∃ (g : Addr) (pg : Arguments) (bg : List Stmt) (sg : Scope) (dV kV doc pm cdv ct oc : Value) (an od : Option Addr) (osl : Array (Option Value)) (Ng : List Str) (a : Str),
    mg x = some (.ref g) ∧ PySem.W.keepIn K (.ref g) = true ∧ K.lookup g = some ⟨oc, od, .func (PySem.W.fnOf x x pg bg sg dV kV doc pm an cdv ct), osl⟩ ∧ PySem.W.codeIn K cdv x = true ∧
    L2.Binds K (PySem.W.fnOf x x pg bg sg dV kV doc pm an cdv ct) [a] [] ∧ FnScope Ng [a] sg ∧ Ng[0]? = some a ∧ Vis sg a ∧ (a == ("__debug__" : Str)) = false ∧ (a == ("__classdict__" : Str)) = false ∧ GivesW P w K mg base Ng x sg g cdv bg a TT
/-- the maker's code object and its table -/
def LamAt (X : Cx) (T : List (Addr × Str)) : Prop := ∃ c P, TabB X.base X.mg c P ∧ X.env.code = .ref c ∧ (P, X.env.qual ++ "<lambda>") ∈ T ∧ ∀ p ∈ T, p.1 = P → p.2 = X.env.qual ++ "<lambda>"
def noParams (params : Arguments) : Prop := (∀ env : Env, defaultsOf params env = ([], [])) ∧ ∀ (q : Str) (body : Expr) (scope : Scope) (cl : List (Str × Addr)) (pm cv ctv : Value), bindArgs (PySem.W.kla_fn "<lambda>" q params body scope cl pm cv ctv) ⟨[], []⟩ = pure []
section
variable {X : Cx}
def tLamW (T : List (Addr × Str)) (TT : (XK → Hp → VK → Prop) → Hp → VK → XK → Prop) (W : WX) (t : XK → TE) : TE := fun σ H Q => Tabs T H ∧ ∀ H1, ExtN H H1 → (∀ b o, H b = some o → ∃ o', H1 b = some o') → Tabs T H1 → TT (fun E H' Q' => t E σ H' Q') H1 Q (WE W σ)
theorem pe_lamW {T : List (Addr × Str)} {TT : (XK → Hp → VK → Prop) → Hp → VK → XK → Prop} {W : WX} {x : Str} {k : Nat} {params : Arguments} {body : Expr} {scope : Scope} {t : XK → TE} {p lpos pos : Pos} (tk : Takes X W) (D : WordDef X.prog X.w X.K X.mg X.base x TT) (M : LamAt X T) (hg : Gl X x) (hdb : (x == ("__debug__" : Str)) = false)
    (hr : Room (k + 2) X.A) (L : LamS X.env.scope scope) (np : noParams params) (mono : ∀ σ, Mono fun E H Q => t E σ H Q)
    (hbody : ∀ (E : XK) (A : Around) (outer : List Env) (s : Shared) (H : Hp) (f c' : Addr), Room k (A.deeper (lamEnv X scope s.heap.objs.size f c')) → PE (lamCx X A outer s H E scope f c') body (t E)) :
    PE X (.Call (.Name x p) [.Lambda params body scope lpos] [] pos) (tLamW T TT W t) := by
  obtain ⟨g, pg, bg, sg, dV, kV, doc, pm, cdv, ct, oc, an, od, osl, Ng, a, d1, d2, d3, d4, d5, d6, d7, d8, d9, d10, gives⟩ := D
  obtain ⟨c, P, TB, hcode, hmT, hu⟩ := M
  obtain ⟨np1, np2⟩ := np
  refine ⟨fun pins s σ H Q I h => ?_⟩
  obtain ⟨hT, h⟩ := h
  refine wpAny_Call_Name_kw (ld_glob I hg d1 ?_ hdb)
  refine PySem.W.callWith_K (h₀ := X.base) I.ok.mod.kin d2 ?_ (by rfl) (by rfl)
  show wpAny _ _ (spliced ((false, eval (.Lambda params body scope lpos) X.env) :: backTo pos (starEach [] X.env))) _ _ s
  refine Calls.spliced_cons (lam_mk rfl I TB hcode hmT hu hT (np1 _) (L.has I.ok) fun f c' pm' ctv H1 s' I1 eN here T1 hf hfn hfr hco => ?_)
  refine Calls.spliced_nil ⟨I1.kIn, ?_⟩
  have runs : codeAny (model X.prog X.w) X.A (.call (.ref g) ⟨[.ref f], []⟩) (CR (L2.CX X.prog X.w) X.stack X.prog X.w H1 s' Q (WE W σ)) s' := by
    refine run_ofS (N := Ng) (ps := [a]) (us := [.ref f]) (vs := [.ref f]) d3 d4 d6 hr I1.env0 (d5 s' [.ref f] I1.kIn rfl) (.cons rfl .nil) rfl fun hr' => ?_
    refine gives X.A X.stack s' H1 Q (WE W σ) f c' _ (fun E H' Q' => t E σ H' Q') (mono σ) (fun W' pn xe p1 p2 tk' => ?_) hco (h H1 eN here T1)
    exact pe_actS (i := 0) rfl I1 L hf hfn hfr (np2 _ _ _ _ _ _ _) tk' hr' (fun E A outer s H hr2 => hbody E A outer s H f c' hr2) d7 d8 d9 d10
  refine wpAny_call (codeAny_mono runs fun r s2 hq => ?_)
  cases r with
  | error e => exact passAt tk σ pins H1 s' e s2 I1 hq
  | ok fl =>
    cases fl with
    | ret u => exact I1.after hq
    | next => exact hq.elim
    | brk => exact hq.elim
    | cont => exact hq.elim
end

/-! ### a try with several clauses, some of them with a name -/
abbrev Clause := Value × Option Nat × (Addr → Value → Option Addr → TS)
/-- behind a clause with a name, the name is gone -/
def goneD (D : Ends) (i : Nat) : Ends := { nx := fun σ' H' => D.nx (σ'.set i none) H', rt := D.rt, bk := fun σ' H' => D.bk (σ'.set i none) H', ct := fun σ' H' => D.ct (σ'.set i none) H' }
def wClauses (K : PySem.W.Frag) (Wout : WX) (D : Ends) : List Clause → WX
  | [] => Wout
  | (c, o, ts) :: r => fun cls d σ H => ∃ b, PySem.W.exmOne K cls c = some b ∧ (b = true → ∀ a, H a = none → match o with
      | none => ts a cls d D σ H
      | some i => ts a cls d (goneD D i) (σ.set i (some (.ref a))) H) ∧ (b = false → wClauses K Wout D r cls d σ H)
inductive Clauses (X : Cx) : List ExceptHandler → List Clause → Prop
  | nil : Clauses X [] []
  | plain {x : Str} {c : Value} {ts : Addr → Value → Option Addr → TS} {b₀ : Stmt} {suite : List Stmt} {np pos' : Pos} {hds : List ExceptHandler} {l : List Clause} (hc : Names X x c)
      (hsu : ∀ (a : Addr) (oe : Obj) (cls : Value) (d : Option Addr) (pn : List (Addr × Obj)), Zc cls d oe → (∃ vs, oe.data = .fields vs) → PSs (X.suite a ((a, oe) :: pn)) (b₀ :: suite) (ts a cls d)) (r : Clauses X hds l) :
      Clauses X (.ExceptHandler (some (.Name x np)) none (b₀ :: suite) pos' :: hds) ((c, none, ts) :: l)
  | named {x n : Str} {i : Nat} {c : Value} {ts : Addr → Value → Option Addr → TS} {b₀ : Stmt} {suite : List Stmt} {np pos' : Pos} {hds : List ExceptHandler} {l : List Clause} (hc : Names X x c) (hi : X.N[i]? = some n) (hln : X.env.kindOf n = some .local)
      (hsu : ∀ (a : Addr) (oe : Obj) (cls : Value) (d : Option Addr) (pn : List (Addr × Obj)), Zc cls d oe → (∃ vs, oe.data = .fields vs) → PSs (X.suite a ((a, oe) :: pn)) (b₀ :: suite) (ts a cls d)) (r : Clauses X hds l) :
      Clauses X (.ExceptHandler (some (.Name x np)) (some n) (b₀ :: suite) pos' :: hds) ((c, some i, ts) :: l)
section
variable {X : Cx} {body : List Stmt} {h₀ : ExceptHandler} {hds : List ExceptHandler} {l : List Clause} {pos : Pos} {tb : WX → TS} {Wout : WX}
theorem ps_try_clauses (hs : X.stack = X.env :: X.outer) (hf : X.env.frame = some X.env.locals) (hN : X.N.Nodup) (tk : Takes X Wout)
    (hb : ∀ (W : WX) (pn : List (Addr × Obj)) (xe : Value → Shared → Prop), Takes (X.tr pn xe) W → PassesOwn (model X.prog X.w) X.A X.env xe → PSs (X.tr pn xe) body (tb W))
    (hh : Clauses X (h₀ :: hds) l) : PS X (.Try body (h₀ :: hds) [] [] pos) (fun D σ H => tb (wClauses X.K Wout D l) D σ H) := by
  refine ⟨fun pins s σ H D I h => ?_⟩
  have ok := I.ok
  have frames : X.A.frames = some (X.env :: X.outer) := by rw [ok.frames, hs]
  refine wpAny_Try_except ?_
  have inside := (hb (wClauses X.K Wout D l) (X.pn ++ pins) (fun e s₁ => wpAny (model X.prog X.w) X.A (noteFrame e X.env) (fun _ s₂ => wpAny (model X.prog X.w) X.A (setFlight e none) (fun _ s₃ =>
    wpAny (model X.prog X.w) X.A (handleBy e X.env (h₀ :: hds)) (SP X pins D) X.xe s₃) X.xe s₂) X.xe s₁) (fun u s' xx => ?_) PassesOwn.looking).run [] s σ H D (I.toTry _) h
  · refine wpAny_mono inside (fun f s1 hsp => ?_) (fun e s1 he => he)
    cases f with
    | next => obtain ⟨σ', H', J', q⟩ := hsp; exact wpAny_execs_nil ⟨σ', H', J'.ofTry ok, q⟩
    | brk => obtain ⟨σ', H', J', q⟩ := hsp; exact ⟨σ', H', J'.ofTry ok, q⟩
    | cont => obtain ⟨σ', H', J', q⟩ := hsp; exact ⟨σ', H', J'.ofTry ok, q⟩
    | ret u => obtain ⟨v, σ', H', J', r, q⟩ := hsp; exact ⟨v, σ', H', J'.ofTry ok, r, q⟩
  · obtain ⟨a, B, sI, pins', σ', H', cls, d, rfl, J', nb, up, sky, na, os, ag, w⟩ := xx
    have J : Inv X pins σ' H' sI := J'.ofTry ok
    have sky' : Sky B (X.env :: X.outer) a (Zc cls d) X.env.locals s'.heap := by rw [← hs]; exact sky
    show wpAny (model X.prog X.w) X.A (noteFrame (.ref a) X.env) _ _ _
    refine Sky.land Zc.steady frames hf sky' fun h3 fl3 up3 => ?_
    have J3 : Inv X pins σ' H' { s' with heap := h3 } := J.landed nb fl3.1 (up.trans up3) os ag
    obtain ⟨oe3, vs3, he3, hz3, hd3⟩ := fl3.there
    have nfr : a ∉ frs (X.env :: X.outer) := fun hm => by
      obtain ⟨_, o', e', hnf⟩ := fl3.2.2.1.mem hm
      rw [he3] at e'
      cases e'
      exact hnf _ hd3
    have nL : a ≠ X.env.locals := fun z => nfr (List.mem_filterMap.mpr ⟨X.env, List.mem_cons_self, by rw [hf, z]⟩)
    have nF : a ∉ X.fs := fun hm => by
      obtain ⟨e, he, q⟩ := List.mem_filterMap.mp hm
      exact nfr (List.mem_filterMap.mpr ⟨e, List.mem_cons_of_mem _ he, q⟩)
    have S3 := J3.suite he3 hd3 na nL nF
    have LT : PySem.W.Looks (model X.prog X.w) h3 (typeOf (.ref a)) cls := fun A Q E s k q => wpAny_typeOf_ref (k _ _ he3) (by rw [hz3.1]; exact q)
    have test : ∀ {x : Str} {c : Value} {np : Pos} {Q : Value → Shared → Prop} {E : Value → Shared → Prop}, Names X x c → Q c { s' with heap := h3 } → wpAny (model X.prog X.w) (X.A.mark (some (.ref a))) (eval (.Name x np) X.env) Q E { s' with heap := h3 } := by
      intro x c np Q E hc q
      obtain ⟨hg, hdbg, hm | ⟨hm, hv, hnn⟩⟩ := hc
      · exact ld_glob (X := X.suite a ((a, oe3) :: (X.pn ++ pins))) S3 hg hm q hdbg
      · exact ld_blt (X := X.suite a ((a, oe3) :: (X.pn ++ pins))) S3 hg hm hv q hnn hdbg
    have go : ∀ {hds' : List ExceptHandler} {l' : List Clause}, Clauses X hds' l' → wClauses X.K Wout D l' cls d σ' H' →
        wpAny (model X.prog X.w) X.A (handleBy (.ref a) X.env hds') (SP X pins D) X.xe { s' with heap := h3 } := by
      intro hds' l' hk
      induction hk with
      | nil =>
        intro w
        refine wpAny_handleBy_nil ?_
        obtain ⟨k1, k2, k3, oe, vs, T, oT, ts', he, hz, hd, h1, hr⟩ := id fl3
        unfold PySem.passOn
        refine wpAny_bind (wpAny_field he hd h1 ?_)
        rw [if_neg (show ¬ ((Value.ref T == Value.none) = true) from by simp)]
        have out : wpAny (model X.prog X.w) X.A (setFlight (.ref a) X.env.frame) (fun _ s4 => wpAny (model X.prog X.w) X.A (throw (.ref a) : Sem Flow) (SP X pins D) X.xe s4) X.xe { s' with heap := h3 } := by
          rw [hf]
          refine HandSPX.setFlight_upZ fl3 fun h4 hh4 up4 => wpAny_throw (tk _ _ ?_)
          exact ⟨a, B, sI, pins, σ', H', cls, d, rfl, J, nb, (up.trans up3).trans up4, .inr (.inr (by rw [hs]; exact hh4)), na, os, ag, w⟩
        first
          | exact wpAny_bind (wpAny_pure (wpAny_bind out))
          | exact wpAny_bind out
      | @plain x c ts b₀ suite np pos' hds2 l2 hc hsu r ih =>
        intro w
        obtain ⟨b, hb1, yes, no⟩ := w
        refine wpAny_handleBy_cons (codeAny_handlers_test ?_) (by intro q; cases q)
        refine test hc ((PySem.W.exm_one (M := model X.prog X.w) (J3.kIn) LT hb1).here ?_)
        cases b with
        | false => exact ih (no rfl)
        | true =>
          refine codeAny_handlers_suite ?_
          refine HandSPX.lands_againZ fl3 fun h4 fl4 up4 => ?_
          obtain ⟨oe4, vs4, he4, hz4, hd4⟩ := fl4.there
          have J4 : Inv X pins σ' H' { s' with heap := h4 } := J.landed nb fl4.1 ((up.trans up3).trans up4) os ag
          have S4 := J4.suite he4 hd4 na nL nF
          refine wpAny_mono ((hsu a oe4 cls d (X.pn ++ pins) hz4 ⟨_, hd4⟩).run [] _ _ H' _ S4 (yes rfl a na)) (fun f s6 hsp => ?_) (fun _ _ z => z.elim)
          cases f with
          | next => obtain ⟨σ6, H6, S6, q6⟩ := hsp; exact ⟨_, _, S6.unsuite ok, q6⟩
          | brk => obtain ⟨σ6, H6, S6, q6⟩ := hsp; exact ⟨_, _, S6.unsuite ok, q6⟩
          | cont => obtain ⟨σ6, H6, S6, q6⟩ := hsp; exact ⟨_, _, S6.unsuite ok, q6⟩
          | ret u => obtain ⟨v6, σ6, H6, S6, r6, q6⟩ := hsp; exact ⟨_, _, _, S6.unsuite ok, r6, q6⟩
      | @named x n i c ts b₀ suite np pos' hds2 l2 hc hi hln hsu r ih =>
        intro w
        obtain ⟨b, hb1, yes, no⟩ := w
        refine wpAny_handleBy_cons (codeAny_handlers_test ?_) (by intro q; cases q)
        refine test hc ((PySem.W.exm_one (M := model X.prog X.w) (J3.kIn) LT hb1).here ?_)
        cases b with
        | false => exact ih (no rfl)
        | true =>
          refine codeAny_handlers_suite_as ?_
          refine HandSPX.lands_againZ fl3 fun h4 fl4 up4 => ?_
          obtain ⟨oe4, vs4, he4, hz4, hd4⟩ := fl4.there
          have J4 : Inv X pins σ' H' { s' with heap := h4 } := J.landed nb fl4.1 ((up.trans up3).trans up4) os ag
          have S4 := J4.suite he4 hd4 na nL nF
          refine store_ok (X := X.suite a ((a, oe4) :: (X.pn ++ pins))) (v := .ref a) S4 hN hi (.inl hln) rfl (fun s5 S5 => ?_) (.inr hln)
          have ends : ∀ {s6 : Shared} {σ6 : L2.St} {H6 : Hp} {Q : Shared → Prop}, Inv (X.suite a ((a, oe4) :: (X.pn ++ pins))) [] σ6 H6 s6 → (∀ s7, Inv X pins (σ6.set i none) H6 s7 → Q s7) →
              wpAny (model X.prog X.w) X.A (do bindName X.env n .none; unbindBehindTheSuite X.env n pos') (fun _ s7 => Q s7) X.xe s6 := fun S6 hq => gone_ok (S6.unsuite ok) hN hi hln hq
          refine wpAny_mono ((hsu a oe4 cls d (X.pn ++ pins) hz4 ⟨_, hd4⟩).run [] s5 _ H' _ S5 (yes rfl a na)) (fun f s6 hsp => ?_) (fun _ _ z => z.elim)
          cases f with
          | next => obtain ⟨σ6, H6, S6, q6⟩ := hsp; exact ends S6 fun s7 J7 => ⟨_, _, J7, q6⟩
          | brk => obtain ⟨σ6, H6, S6, q6⟩ := hsp; exact ends S6 fun s7 J7 => ⟨_, _, J7, q6⟩
          | cont => obtain ⟨σ6, H6, S6, q6⟩ := hsp; exact ends S6 fun s7 J7 => ⟨_, _, J7, q6⟩
          | ret u => obtain ⟨v6, σ6, H6, S6, r6, q6⟩ := hsp; exact ends S6 fun s7 J7 => ⟨_, _, _, J7, r6, q6⟩
    exact go hh w
end

/-! ### found = c0; try: [found =] call(); except C: found = ..; return found -/
def isCon : D → Bool
  | .non | .bl _ | .int _ | .str _ => true
  | _ => false
def conV : D → V
  | .bl b => .bl b
  | .int i => .int i
  | .str x => .str x
  | _ => .non
theorem Rep.con {K : PySem.W.Frag} {g : G} {μ : List Addr} {st : Store} {H : Hp} {d : D} (h : isCon d = true) : Rep K g μ st H d (conV d) := by
  cases d <;> first | (simp [isCon] at h; done) | exact .non | exact .bl _ | exact .int _ | exact .str _
def wWd (g : G) (c : Nat) (dd : Option Addr) (H : Hp) (Q : VK) : Wd → Prop
  | .con d => Q (conV d) H
  | .atr => ∃ dx v, dd = some dx ∧ H dx = some (.xd [(g.xa c, v)]) ∧ Q v H
def wHs (g : G) : List (Nat × Wd) → Nat → Option Addr → Hp → VK → Prop
  | [], _, _, _, _ => False
  | (k, w) :: r, c, dd, H, Q => if c = k then wWd g c dd H Q w else wHs g r c dd H Q
def TTw (g : G) (keep : Bool) (c0 : D) (hs : List (Nat × Wd)) : (XK → Hp → VK → Prop) → Hp → VK → XK → Prop := fun tl H Q _ =>
  tl (fun cls dd H' => ∃ c, cls = .ref (g.ca c) ∧ wHs g hs c dd H' Q) H (fun v H' => Q (if keep = true then v else conV c0) H')
def wdCon : List (Nat × Wd) → Bool
  | [] => true
  | (_, .con d) :: r => isCon d && wdCon r
  | (_, .atr) :: r => wdCon r
theorem wHs_of {K : PySem.W.Frag} {g : G} {μ μ' : List Addr} {st st' : Store} {H H' : Hp} {Q : VK} {Wx : Value → Option Addr → Hp → Prop} {c : Nat} {fs : List D} {cls : Value} {dd : Option Addr} (E : Ext μ st H μ' st' H') (R : Rel K g μ' st' H') (x : XRep K g μ' st' H' c fs cls dd) :
    ∀ {hs : List (Nat × Wd)}, wdCon hs = true → Post K g (Rep K g) μ st H (triOf hs c fs st') Q Wx → wHs g hs c dd H' Q
  | [], _, P => P.elim
  | (k, w) :: r, hw, P => by
    rw [triOf] at P
    rw [wHs]
    by_cases hc : c = k
    · rw [if_pos hc] at P ⊢
      cases w with
      | con d =>
        rw [wdCon, Bool.and_eq_true] at hw
        exact P _ _ _ E R (Rep.con hw.1)
      | atr =>
        match fs, x.2, P with
        | [d], ⟨dx, v, h1, h2, h3⟩, P => exact ⟨dx, v, h1, h2, P _ _ _ E R h3⟩
        | [], _, P => exact P.elim
        | _ :: _ :: _, _, P => exact P.elim
    · rw [if_neg hc] at P ⊢
      refine wHs_of E R x ?_ P
      cases w with
      | con d => rw [wdCon, Bool.and_eq_true] at hw; exact hw.2
      | atr => exact hw
end EV
/-! EvD: the text is held against the language; expressions are sound. -/
namespace EV
open PySem PySem.Spec PyProof.Rows L2

/-- what is known of a def's text: names by slot, scope, the defs that may be called, constants, own errors -/
structure Gm where
  N : List Str
  sc : Scope
  fnb : Option Scope := none
  fns : List (Str × Nat)
  cs : List (Str × D) := []
  cls : List Str := []
  /-- classes that are raised with a text -/
  rs : List Nat := []
  lvl : Nat
  top : Bool := true
  calm : Bool := true
  /-- defs that want a lambda; whether lambdas may be made here; the level of the defs that may be called -/
  wd : List (Str × Bool × D × List (Nat × Wd)) := []
  lam : Bool := false
  tl : Nat := lvl

def bnames : List Str := ["len", "abs", "int", "sum", "min", "max", "all", "tuple", "list", "sorted", "set", "isinstance", "range", "enumerate", "zip", "str", "bool"]
def vis (sc : Scope) (x : Str) : Bool := match sc.names.lookup x with
  | some .local | some .cell | some .free => true
  | _ => false
def glb (sc : Scope) (x : Str) : Bool := sc.names.lookup x == some .globalImplicit
/-- a name that may be stored to -/
def sto (Γ : Gm) (x : Str) : Bool := Γ.sc.names.lookup x == some .local || (Γ.sc.names.lookup x == some .cell && (match Γ.fnb with | none => true | some s => s.names.lookup x == some .cell))
def dbg (x : Str) : Bool := x == ("__debug__" : Str)
def cdc (x : Str) : Bool := x == ("__classdict__" : Str)

def conIs (d : D) : Const → Bool
  | .none => (match d with | .non => true | _ => false)
  | .bool b => (match d with | .bl a => a == b | _ => false)
  | .int i => (match d with | .int a => decide (a = i) | _ => false)
  | .str x => (match d with | .str a => decide (a = x) | _ => false)
  | _ => false
/-- a built-in's name; whether it is a class; whether it wants calm -/
def bltName : Blt → Str
  | .len => "len" | .abs => "abs" | .int => "int" | .sum => "sum" | .min1 => "min" | .max1 => "max" | .min2 => "min" | .max2 => "max" | .all => "all"
  | .tuple => "tuple" | .list => "list" | .sorted => "sorted" | .sortedT => "sorted" | .sortedN => "sorted" | .sortedSet => "sorted" | .tupRange => "tuple" | .str => "str"
def bltOk : Blt → Bool
  | .sortedSet | .tupRange | .str => false
  | _ => true

mutual
def chkTg (Γ : Gm) : Tg → Expr → Bool
  | .name i, .Name x _ => decide (Γ.N[i]? = some x) && sto Γ x
  | .tup ts, .Tuple es _ _ => Γ.calm && chkTgs Γ ts es
  | _, _ => false
def chkTgs (Γ : Gm) : Tgs → List Expr → Bool
  | .nil, [] => true
  | .cons t ts, e :: es => chkTg Γ t e && chkTgs Γ ts es
  | _, _ => false
end
def isTup : Expr → Bool
  | .Tuple _ _ _ => true
  | _ => false
def isSet : Expr → Bool
  | .Set _ _ _ => true
  | _ => false
def isStar : Expr → Bool
  | .Starred _ _ => true
  | _ => false
/-- a test of it looks at its value -/
def plainT : Expr → Bool
  | .UnaryOp .Not _ _ => false
  | .BoolOp _ _ _ => false
  | .IfExp _ _ _ _ => false
  | .Compare _ _ _ _ => false
  | _ => true
/-- what stands ahead of a dot, by itself -/
def plainB : Expr → Bool
  | .Name _ _ => true
  | _ => false
def isSlice : Expr → Bool
  | .Slice _ _ _ _ => true
  | _ => false
def ownN (N : List Str) (own : List Nat) : List (Str × Nat) := own.map fun j => (N.getD j Str.empty, j)
/-- what an assignment of a written tuple to a written tuple does: none where nothing is known; the names where the stores are swapped -/
def locN (sc : Scope) (line : Nat) : Expr → Option Str
  | .Name id pos => if sc.names.lookup id == some .local && pos.line == line then some id else none
  | _ => none
def swOpt (sc : Scope) (ts vs : List Expr) : Option (Option (List Str)) :=
  if !(ts.length == 2 || ts.length == 3) || vs.length != ts.length then some none
  else if vs.any isStar then some none
  else if (ts.filterMap (locN sc ((ts.head?.map (·.pos.line)).getD 0))).length != ts.length || (ts.filterMap (locN sc ((ts.head?.map (·.pos.line)).getD 0))).eraseDups.length != (ts.filterMap (locN sc ((ts.head?.map (·.pos.line)).getD 0))).length then some none
  else if vs.all (foldedForSure 8) then some none
  else if vs.all (constantsAlone 8) then none
  else some (some (ts.filterMap (locN sc ((ts.head?.map (·.pos.line)).getD 0))))
/-- the inside of a comprehension -/
def Gm.blk (Γ : Gm) (scope : Scope) : Gm := { Γ with sc := relS scope Γ.sc, fnb := some scope, top := false }
/-- the inside of a lambda -/
def Gm.lamG (Γ : Gm) (scope : Scope) : Gm := { Γ with sc := scope, fnb := some scope, top := false, lam := false, lvl := Γ.tl }
def noPar (p : Arguments) : Bool := match p with
  | ⟨[], [], none, [], [], none, []⟩ => true
  | _ => false
theorem noPar_ok {p : Arguments} (h : noPar p = true) : noParams p := by
  unfold noPar at h
  split at h
  · exact ⟨fun env => rfl, fun q body scope cl pm cv ctv => rfl⟩
  · cases h
/-- word(lambda: e) -/
def wdIs (Γ : Gm) (x : Str) (keep : Bool) (c0 : D) (hs : List (Nat × Wd)) : Bool := match Γ.wd.lookup x with
  | some (k, c, h) => k == keep && D.beq c c0 && wdsBeq h hs
  | none => false
def triCond (Γ : Gm) (keep : Bool) (c0 : D) (hs : List (Nat × Wd)) (x : Str) (params : Arguments) (scope : Scope) : Bool :=
  Γ.calm && Γ.lam && glb Γ.sc x && !dbg x && noPar params && LamX.lamSB Γ.sc scope && isCon c0 && wdCon hs && wdIs Γ x keep c0 hs
def triArg (Γ : Gm) (keep : Bool) (c0 : D) (hs : List (Nat × Wd)) : Expr → Option (Scope × Expr)
  | .Call (.Name x _) [.Lambda params body scope _] [] _ => if triCond Γ keep c0 hs x params scope then some (scope, body) else none
  | _ => none
/-- sorted(set(e)) -/
def srsArg (Γ : Gm) : Expr → Option Expr
  | .Call (.Name x _) [.Call (.Name y _) [e] [] _] [] _ => if Γ.calm && decide (x = ("sorted" : Str)) && decide (y = ("set" : Str)) && glb Γ.sc x && glb Γ.sc y && !isStar e then some e else none
  | _ => none
/-- tuple(range(e)) -/
def trgArg (Γ : Gm) : Expr → Option Expr
  | .Call (.Name x _) [.Call (.Name y _) [e] [] _] [] _ => if Γ.calm && decide (x = ("tuple" : Str)) && decide (y = ("range" : Str)) && glb Γ.sc x && glb Γ.sc y && !isStar e then some e else none
  | _ => none
/-- d.get(k, z); a.index(z); a[::-1]; {k: v} -/
def dgeArg : Expr → Option (Expr × Expr × Expr)
  | .Call (.Attribute eo m ap) [e1, e2] [] cp => if decide (m = ("get" : Str)) && (ap.endLine == cp.line) && plainB eo && !isStar e1 && !isStar e2 then some (eo, e1, e2) else none
  | _ => none
def lixArg : Expr → Option (Expr × Expr)
  | .Call (.Attribute eo m ap) [e1] [] cp => if decide (m = ("index" : Str)) && (ap.endLine == cp.line) && plainB eo && !isStar e1 then some (eo, e1) else none
  | _ => none
def isDnew : Expr → Bool
  | .Dict [] [] _ => true
  | _ => false
def dspArg : Expr → Option (Expr × Expr)
  | .Dict [some ek] [ev] _ => some (ek, ev)
  | _ => none
def revArg : Expr → Option Expr
  | .Subscript ea (.Slice none none (some (.UnaryOp .USub (.Constant (.int 1) _ _) _)) _) _ => some ea
  | _ => none
/-- {k1: e1, k2: e2}.get(e3, e4) -/
def dgtArg (k1 k2 : Str) : Expr → Option (Expr × Expr × Expr × Expr)
  | .Call (.Attribute (.Dict [some (.Constant (.str x1) _ _), some (.Constant (.str x2) _ _)] [e1, e2] _) m ap) [e3, e4] [] cp => if decide (x1 = k1) && decide (x2 = k2) && decide (k1 ≠ k2) && decide (m = ("get" : Str)) && (ap.endLine == cp.line) && !isStar e3 && !isStar e4 then some (e1, e2, e3, e4) else none
  | _ => none
mutual
def chkX : X → Gm → Expr → Bool
  | .var i, Γ, .Name x _ => decide (Γ.N[i]? = some x) && vis Γ.sc x && !dbg x && !cdc x
  | .con d, _, .Constant c _ _ => conIs d c
  | .con d, Γ, .Name x _ => glb Γ.sc x && !dbg x && (match Γ.cs.lookup x with | some d' => D.beq d d' | none => false)
  | .gfn k, Γ, .Name x _ => glb Γ.sc x && !dbg x && (match Γ.fns[k]? with | some p => decide (p.1 = x) | none => false)
  | .bin op a b, Γ, .BinOp ea o eb _ => decide (o = opOf op) && chkX a Γ ea && chkX b Γ eb
  | .neg a, Γ, .UnaryOp .USub ea _ => chkX a Γ ea
  | .not a, Γ, .UnaryOp .Not ea _ => chkX a Γ ea
  | .bop isAnd xs, Γ, .BoolOp o es _ => decide (o = if isAnd then .And else .Or) && chkXs xs Γ es
  | .cmp op a b, Γ, .Compare ea [o] [eb] _ => decide (o = copOf op) && chkX a Γ ea && chkX b Γ eb && !isSet eb
  | .chn op op' a b c, Γ, .Compare ea [o, o'] [eb, ec] _ => decide (o = copOf op) && decide (o' = copOf op') && chkX a Γ ea && chkX b Γ eb && chkX c Γ ec && !isSet eb && !isSet ec
  | .ife c a b, Γ, .IfExp ec ea eb _ => chkX c Γ ec && chkX a Γ ea && chkX b Γ eb
  | .tup xs, Γ, .Tuple es _ _ => chkXs xs Γ es && decide (es.length ≤ 1000)
  | .lst _ xs, Γ, .List es _ => chkXs xs Γ es && decide (es.length ≤ 1000)
  | .idx a i, Γ, .Subscript ea ei _ => chkX a Γ ea && chkX i Γ ei && !isSlice ei
  | .sl a lo hi, Γ, .Subscript ea (.Slice l h none _) _ => chkX a Γ ea && chkXo lo Γ l && chkXo hi Γ h
  | .call k args, Γ, .Call (.Name x _) (e :: es) [] _ => Γ.calm && glb Γ.sc x && !dbg x && decide (Γ.fns[k]? = some (x, (e :: es).length)) && chkXs args Γ (e :: es)
  | .callv i ks args, Γ, .Call (.Name x _) (e :: es) [] _ => Γ.calm && decide (Γ.N[i]? = some x) && vis Γ.sc x && !dbg x && !cdc x && (ks.all fun k => match Γ.fns[k]? with | some p => decide (p.2 = (e :: es).length) | none => false) && chkXs args Γ (e :: es)
  | .blt f args, Γ, .Call (.Name x _) (e :: es) [] _ => Γ.calm && bltOk f && decide (x = bltName f) && glb Γ.sc x && chkXs args Γ (e :: es)
  | .isi a t, Γ, .Call (.Name x _) [ea, .Name y _] [] _ => decide (x = ("isinstance" : Str)) && decide (y = Str.ofString (tyName t)) && glb Γ.sc x && glb Γ.sc y && chkX a Γ ea && !isStar ea
  | .lc _ elt tg src cond own, Γ, .ListComp eelt [⟨etg, eiter, ifs, ia⟩] scope _ =>
    decide (ia = 0) && Γ.calm && blkC Γ.N Γ.sc scope (ownN Γ.N own) && chkSr src Γ etg eiter && chkTg (Γ.blk scope) tg etg && (tg.slots.all fun j => own.contains j) && chkXc cond (Γ.blk scope) ifs && chkX elt (Γ.blk scope) eelt
  | .frz a, Γ, e => chkX a Γ e && plainT e
  | .catm a b, Γ, .BinOp ea .Add eb _ => chkX a Γ ea && chkX b Γ eb
  | .trg a, Γ, e => (match trgArg Γ e with | some e1 => chkX a Γ e1 | none => false)
  | .dgt k1 k2 a b k d, Γ, e => (match dgtArg k1 k2 e with | some (e1, e2, e3, e4) => chkX a Γ e1 && chkX b Γ e2 && chkX k Γ e3 && chkX d Γ e4 | none => false)
  | .srs a, Γ, e => (match srsArg Γ e with | some e1 => chkX a Γ e1 | none => false)
  | .dnew _, _, e => isDnew e
  | .dsp k v, Γ, e => (match dspArg e with | some (ek, ev) => chkX k Γ ek && chkX v Γ ev && !isStar ek && !isStar ev | none => false)
  | .dix d k, Γ, .Subscript ed ek _ => chkX d Γ ed && chkX k Γ ek && !isSlice ek
  | .din neg k d, Γ, .Compare ek [o] [ed] _ => decide (o = if neg then .NotIn else .In) && chkX k Γ ek && chkX d Γ ed && !isSet ed
  | .dge d k z, Γ, e => (match dgeArg e with | some (ed, ek, ez) => chkX d Γ ed && chkX k Γ ek && chkX z Γ ez | none => false)
  | .lix a z, Γ, e => (match lixArg e with | some (ea, ez) => chkX a Γ ea && chkX z Γ ez | none => false)
  | .rev a, Γ, e => (match revArg e with | some ea => chkX a Γ ea | none => false)
  | .srn a, Γ, e => (match srsArg Γ e with | some e1 => chkX a Γ e1 | none => false)
  | .tri keep c0 hs x, Γ, e => (match triArg Γ keep c0 hs e with | some (scope, body) => chkX x (Γ.lamG scope) body | none => false)
  | _, _, _ => false
def chkXs : Xs → Gm → List Expr → Bool
  | .nil, _, [] => true
  | .cons x xs, Γ, e :: es => chkX x Γ e && !isStar e && chkXs xs Γ es
  | _, _, _ => false
def chkXo : Xo → Gm → Option Expr → Bool
  | .none, _, none => true
  | .some x, Γ, some e => chkX x Γ e
  | _, _, _ => false
def chkXc : Xo → Gm → List Expr → Bool
  | .none, _, [] => true
  | .some x, Γ, [e] => chkX x Γ e
  | _, _, _ => false
def chkSr : Sr → Gm → Expr → Expr → Bool
  | .val a, Γ, _, e => chkX a Γ e && !isSet e
  | .keys a, Γ, _, e => chkX a Γ e && !isSet e
  | .rng a, Γ, _, .Call (.Name x _) [e] [] _ => decide (x = ("range" : Str)) && glb Γ.sc x && chkX a Γ e && !isStar e
  | .rng2 a b, Γ, _, .Call (.Name x _) [e, e2] [] _ => decide (x = ("range" : Str)) && glb Γ.sc x && chkX a Γ e && chkX b Γ e2 && !isStar e && !isStar e2
  | .enm a, Γ, .Tuple _ _ _, .Call (.Name x _) [e] [] _ => decide (x = ("enumerate" : Str)) && glb Γ.sc x && chkX a Γ e && !isStar e
  | .zip a b, Γ, .Tuple _ _ _, .Call (.Name x _) [e, e2] [] _ => decide (x = ("zip" : Str)) && glb Γ.sc x && chkX a Γ e && chkX b Γ e2 && !isStar e && !isStar e2
  | _, _, _, _ => false
end
/-- a def as a value of data: what it makes of its arguments -/
def spOf (K : PySem.W.Frag) (g : G) (n : Nat) (m : List D → Store → R D) : Sp := fun vs H Q E => vs.length = n ∧ ∃ l μ st ds, Rel K (g.h l) μ st H ∧ Reps K (g.h l) μ st H ds vs ∧ Post K (g.h l) (Rep K (g.h l)) μ st H (m ds st) Q E
/-- the defs that may be called -/
def TabOk (g : G) (cf : Call) (fns : List (Str × Nat)) (lvl : Nat) (P : Program) (w : World) (K : PySem.W.Frag) (mg : Str → Option Value) (base : Heap) : Prop :=
  ∀ (k : Nat) x n, fns[k]? = some (x, n) → ∃ fd ps lv, ps.length = n ∧ mg x = some (.ref (g.fa k)) ∧ PySem.W.keepIn K (.ref (g.fa k)) = true ∧ Binds K fd ps [] ∧ lv ≤ lvl ∧ FnOk P w K mg base (L2.CX P w) lv (g.fa k) fd ps (spOf K g ps.length (cf k))
structure Good (g : G) (cf : Call) (Γ : Gm) (X : Cx) (W : WX) : Prop where
  N : X.N = Γ.N
  nd : X.N.Nodup
  sc : X.env.scope = Γ.sc
  calm : Γ.calm = true → X.calm = true
  room : Γ.calm = true → Room Γ.lvl X.A
  hu : X.A.units + 65 < cLine
  tk : Takes X W
  po : Γ.top = true → PassesOwn (model X.prog X.w) X.A X.env X.xe
  fk : Γ.top = true → X.env.scope.kind = .function
  fn : ∀ x, (match Γ.fnb with | none => True | some s => s.names.lookup x = some .cell) → X.fn x = true
  stk : Γ.top = true → X.stack = X.env :: X.outer ∧ X.env.frame = some X.env.locals
  bn : ∀ x ∈ bnames, X.mg x = none
  tab : TabOk g cf Γ.fns Γ.tl X.prog X.w X.K X.mg X.base
  tlv : Γ.tl ≤ Γ.lvl
  wrd : ∀ x k c h, Γ.wd.lookup x = some (k, c, h) → WordDef X.prog X.w X.K X.mg X.base x (TTw g k c h)
  lamk : Γ.lam = true → LamAt X g.tb ∧ Γ.tl + 2 ≤ Γ.lvl
  cst : ∀ x d, Γ.cs.lookup x = some d → ∃ u v, X.mg x = some u ∧ RelV v u ∧ ∀ l μ st H, Rep X.K (g.h l) μ st H d v
  gp : g.P = X.prog ∧ g.w = X.w

/-! ### readings -/
section
variable {α β : Type}
def rd (K : PySem.W.Frag) (g : G) (RA : G → List Addr → Store → Hp → α → β → Prop) (m : Sl → Store → R α) (W : WX) : L2.St → Hp → (β → Hp → Prop) → Prop := fun σ H Q =>
  ∃ l e st μ, Rel K (g.h l) μ st H ∧ SlRep K (g.h l) μ st H e σ ∧ Post K (g.h l) (RA (g.h l)) μ st H (m e st) Q (fun c d H' => W c d σ H')
end
abbrev rdX (K : PySem.W.Frag) (g : G) (m : Sl → Store → R D) (W : WX) : TE := rd K g (Rep K) m W
abbrev rdXs (K : PySem.W.Frag) (g : G) (m : Sl → Store → R (List D)) (W : WX) : TA := rd K g (Reps K) m W
abbrev EqR {α : Type} : G → List Addr → Store → Hp → α → α → Prop := fun _ _ _ _ a b => a = b
abbrev rdB (K : PySem.W.Frag) (g : G) (m : Sl → Store → R Bool) (W : WX) : TT := rd K g EqR m W
abbrev rdO (K : PySem.W.Frag) (g : G) (m : Sl → Store → R (Option Int)) (W : WX) : TO := rd K g EqR m W
def asB (m : Sl → Store → R D) : Sl → Store → R Bool := fun e st => (m e st).bind fun d st1 => match d with
  | .bl b => .ok b st1
  | _ => .fail
/-- what is walked gives the items -/
def IterOk (K : PySem.W.Frag) (g : G) (μ : List Addr) (st : Store) (H : Hp) (items : List D) (J : It) : Prop :=
  items.length ≤ most ∧ ∃ G Y, L2.Walk J items.length G Y ∧ (∀ μ' st' H', Ext μ st H μ' st' H' → G H') ∧
    ∀ (i : Nat) x H1 H2 d l μ1 st1, (∀ a ∈ l, a ∈ g.hid ∨ H a = none) → Ext μ st H μ1 st1 H1 → Rel K (g.h l) μ1 st1 H1 → items[i]? = some d → Y i H1 x H2 → Ext μ1 st1 H1 μ1 st1 H2 ∧ Rel K (g.h l) μ1 st1 H2 ∧ Rep K (g.h l) μ1 st1 H2 d x
abbrev rdI (K : PySem.W.Frag) (g : G) (m : Sl → Store → R (List D)) (W : WX) : TI := rd K g (IterOk K) m W

section
variable {g : G} {cf : Call} {Γ : Gm} {X : Cx} {W : WX} {e ea eb ec : Expr} {pos : Pos}
theorem lookup_vis {sc : Scope} {x : Str} (h : vis sc x = true) : Vis sc x := by
  unfold vis at h
  split at h
  · left; assumption
  · right; left; assumption
  · right; right; assumption
  · cases h
theorem Good.vis (G : Good g cf Γ X W) {x : Str} (h : EV.vis Γ.sc x = true) : Vis X.env.scope x := by rw [G.sc]; exact lookup_vis h
theorem Good.gl (G : Good g cf Γ X W) {x : Str} (h : glb Γ.sc x = true) : Gl X x := by
  unfold glb at h
  show X.env.scope.names.lookup x = _
  rw [G.sc]
  exact beq_iff_eq.mp h
theorem Good.loc (G : Good g cf Γ X W) {x : Str} (h : EV.sto Γ x = true) : Loc X.env.scope x ∧ (X.fn x = true ∨ X.env.scope.names.lookup x = some .local) := by
  unfold EV.sto at h
  rw [Bool.or_eq_true, Bool.and_eq_true, beq_iff_eq, beq_iff_eq] at h
  rw [G.sc]
  rcases h with h | ⟨h, h2⟩
  · exact ⟨.inl h, .inr h⟩
  · refine ⟨.inr h, .inl (G.fn x ?_)⟩
    split
    · trivial
    · rename_i s hs
      rw [hs] at h2
      exact beq_iff_eq.mp h2
theorem dbg_ne {x : Str} (h : (!dbg x) = true) : (x == ("__debug__" : Str)) = false := by unfold dbg at h; simpa using h
theorem cdc_ne {x : Str} (h : (!cdc x) = true) : (x == ("__classdict__" : Str)) = false := by unfold cdc at h; simpa using h
end
end EV
/-! EvE: each construct of an expression is sound. -/
namespace EV
open PySem PySem.Spec PyProof.Rows L2

section
variable {K : PySem.W.Frag} {g : G} {μ μ1 : List Addr} {st st1 : Store} {H H1 : Hp} {α β γ δ : Type}
/-- as Post.seq, with what the first part gives -/
theorem Post.seqE {RA : List Addr → Store → Hp → α → β → Prop} {RB : List Addr → Store → Hp → γ → δ → Prop} {r : R α} {f : α → Store → R γ} {Q : δ → Hp → Prop} {Q1 : β → Hp → Prop} {W : Value → Option Addr → Hp → Prop}
    (h : Post K g RB μ st H (r.bind f) Q W) (k : ∀ a st1 μ1 H1 v1, r = .ok a st1 → Ext μ st H μ1 st1 H1 → Rel K g μ1 st1 H1 → RA μ1 st1 H1 a v1 → Post K g RB μ1 st1 H1 (f a st1) Q W → Q1 v1 H1) : Post K g RA μ st H r Q1 W := by
  cases r with
  | ok a st' => intro μ' H' v E' R' r'; exact k a st' μ' H' v rfl E' R' r' (Post.rebase h E')
  | exc c fs st' => exact h
  | fail => exact h
theorem Post.bool {RB : List Addr → Store → Hp → γ → δ → Prop} {d : D} {f : Bool → R γ} {Q : δ → Hp → Prop} {W : Value → Option Addr → Hp → Prop}
    (h : Post K g RB μ st H (match d with | .bl b => f b | _ => .fail) Q W) : ∃ b, d = .bl b ∧ Post K g RB μ st H (f b) Q W := by
  cases d with
  | bl b => exact ⟨b, rfl, h⟩
  | _ => exact h.elim
end
section
variable {g : G} {cf : Call} {Γ : Gm} {X : Cx} {W : WX} {e ea eb ec : Expr} {es : List Expr} {pos : Pos} {a b c x y : EV.X} {xs : Xs}

/-! ### names and constants -/
theorem c_var {i : Nat} {n : Str} (G : Good g cf Γ X W) (h1 : Γ.N[i]? = some n) (h2 : vis Γ.sc n = true) (h3 : (!dbg n) = true) (h4 : (!cdc n) = true) : PE X (.Name n pos) (rdX X.K g (evX cf (.var i)) W) := by
  refine (pe_var (i := i) (by rw [G.N]; exact h1) (G.vis h2) (dbg_ne h3) (cdc_ne h4)).imp fun σ H Q ⟨l, e, st, μ, R, S, P⟩ => ?_
  rw [evX] at P
  cases q : e[i]? with
  | none => rw [q] at P; exact P.elim
  | some o =>
    cases o with
    | none => rw [q] at P; exact P.elim
    | some d =>
      rw [q] at P
      obtain ⟨v, e1, r⟩ := S.2 i d q
      exact ⟨v, e1, P.here R r⟩
theorem c_con {d : D} {k : Const} {j : Nat} (h : conIs d k = true) : PE X (.Constant k j pos) (rdX X.K g (evX cf (.con d)) W) := by
  cases k with
  | none =>
    cases d <;> simp [conIs] at h
    exact pe_non.imp fun σ H Q ⟨l, e, st, μ, R, S, P⟩ => by rw [evX] at P; exact P.here R .non
  | bool b =>
    cases d <;> simp [conIs] at h
    subst h
    exact pe_bl.imp fun σ H Q ⟨l, e, st, μ, R, S, P⟩ => by rw [evX] at P; exact P.here R (.bl _)
  | int i =>
    cases d <;> simp [conIs] at h
    subst h
    exact pe_int.imp fun σ H Q ⟨l, e, st, μ, R, S, P⟩ => by rw [evX] at P; exact P.here R (.int _)
  | str s =>
    cases d <;> simp [conIs] at h
    subst h
    exact pe_str.imp fun σ H Q ⟨l, e, st, μ, R, S, P⟩ => by rw [evX] at P; exact P.here R (.str _)
  | float _ => simp [conIs] at h
  | complex _ _ => simp [conIs] at h
  | bytes _ => simp [conIs] at h
  | ellipsis => simp [conIs] at h
theorem c_cst {d d' : D} {n : Str} (G : Good g cf Γ X W) (h1 : glb Γ.sc n = true) (h2 : (!dbg n) = true) (h3 : Γ.cs.lookup n = some d') (h4 : d = d') : PE X (.Name n pos) (rdX X.K g (evX cf (.con d)) W) := by
  subst h4
  obtain ⟨u, v, hm, r, rp⟩ := G.cst n d h3
  exact (pe_glob (G.gl h1) hm r (dbg_ne h2)).imp fun σ H Q ⟨l, e, st, μ, R, S, P⟩ => by rw [evX] at P; exact P.here R (rp _ _ _ _)
theorem c_gfn {k m : Nat} {n : Str} (G : Good g cf Γ X W) (h1 : glb Γ.sc n = true) (h2 : (!dbg n) = true) (h3 : Γ.fns[k]? = some (n, m)) : PE X (.Name n pos) (rdX X.K g (evX cf (.gfn k)) W) := by
  obtain ⟨fd, ps, lv, _, hm, _⟩ := G.tab k n m h3
  exact (pe_glob (v := .ref (g.fa k)) (G.gl h1) hm rfl (dbg_ne h2)).imp fun σ H Q ⟨l, e, st, μ, R, S, P⟩ => by rw [evX] at P; exact P.here R (.fn (g := g.h l) k)

/-! ### operators -/
theorem c_bin {op : Bop} (ha : PE X ea (rdX X.K g (evX cf a) W)) (hb : PE X eb (rdX X.K g (evX cf b) W)) : PE X (.BinOp ea (opOf op) eb pos) (rdX X.K g (evX cf (.bin op a b)) W) := by
  refine (pe_op (bin_ok (g := g) op) ha hb).imp fun σ H Q ⟨l, e, st, μ, R, S, P⟩ => ?_
  rw [evX] at P
  exact ⟨l, e, st, μ, R, S, P.seq fun x st1 μ1 H1 v1 E1 R1 r1 P1 => ⟨l, e, st1, μ1, R1, S.ext R E1, P1.seq fun y st2 μ2 H2 v2 E2 R2 r2 P2 =>
    let ⟨d, hd, P3⟩ := P2.ofOpt
    ⟨l, μ2, st2, x, y, d, R2, r1.ext R1 E2, r2, hd, P3⟩⟩⟩

/-- a new list that may change -/
def rCatm (K : PySem.W.Frag) (g : G) : R2 := fun x y H Q => ∃ gl μ st a b, Rel K (g.h gl) μ st H ∧ Rep K (g.h gl) μ st H a x ∧ Rep K (g.h gl) μ st H b y ∧ Post K (g.h gl) (Rep K (g.h gl)) μ st H (evCatm a b st) Q (fun _ _ _ => False)
theorem op_catm_ok : OpR X (binaryOp .Add) (rCatm X.K g) := by
  intro pins s σ H x y v u Q I rx ry h
  obtain ⟨gl, μ, st, a, b, R, ra, rb, q⟩ := h
  unfold evCatm at q
  split at q
  · rename_i xs0 ys0
    split at q
    · rename_i hl
      simp only [decide_eq_true_eq] at hl
      obtain ⟨p1, xs, rfl, h1, l1, r1⟩ := ra.rdL
      obtain ⟨p2, ys, rfl, h2, l2, r2⟩ := rb.rdL
      refine op_catR pins s σ H _ _ v u Q I rx ry ⟨p1, p2, xs, ys, rfl, rfl, h1, h2, by rw [← r1.length, ← r2.length, sizeLine_eq]; unfold most at hl; omega, fun p np => ?_⟩
      obtain ⟨E, R', r'⟩ := new_loc R np (by rw [List.length_append]; exact hl) (r1.append r2)
      exact q _ _ _ E R' r'
    · exact q.elim
  · exact q.elim
theorem c_catm (ha : PE X ea (rdX X.K g (evX cf a) W)) (hb : PE X eb (rdX X.K g (evX cf b) W)) : PE X (.BinOp ea .Add eb pos) (rdX X.K g (evX cf (.catm a b)) W) := by
  refine (pe_op (op_catm_ok (g := g)) ha hb).imp fun σ H Q ⟨l, e, st, μ, R, S, P⟩ => ?_
  rw [evX] at P
  refine ⟨l, e, st, μ, R, S, P.seq fun x st1 μ1 H1 v1 E1 R1 r1 P1 => ⟨l, e, st1, μ1, R1, S.ext R E1, P1.seq fun y st2 μ2 H2 v2 E2 R2 r2 P2 => ⟨l, μ2, st2, x, y, R2, r1.ext R1 E2, r2, ?_⟩⟩⟩
  unfold evCatm at P2 ⊢
  split
  · split
    · rename_i hl
      simp only [hl, if_true] at P2
      exact P2
    · rename_i hl
      simp only [hl] at P2
      exact P2.elim
  · rename_i hn
    split at P2
    · exact absurd rfl (hn _ _ rfl)
    · exact P2.elim
theorem marks_of {op : CmpOp} {e : Expr} (h : (!isSet e) = true) : behindInMarks op e = false := by
  cases e <;> first | rfl | (simp [isSet] at h)
theorem c_neg (ha : PE X ea (rdX X.K g (evX cf a) W)) : PE X (.UnaryOp .USub ea pos) (rdX X.K g (evX cf (.neg a)) W) := by
  refine (pe_un un_neg ha).imp fun σ H Q ⟨l, e, st, μ, R, S, P⟩ => ?_
  rw [evX] at P
  refine ⟨l, e, st, μ, R, S, P.seq fun x st1 μ1 H1 v1 E1 R1 r1 P1 => ?_⟩
  cases x with
  | int i => cases r1; exact ⟨i, rfl, P1.here R1 (.int _)⟩
  | _ => exact P1.elim
theorem c_not (ha : PE X ea (rdX X.K g (evX cf a) W)) : PE X (.UnaryOp .Not ea pos) (rdX X.K g (evX cf (.not a)) W) := by
  refine (pe_not ha).imp fun σ H Q ⟨l, e, st, μ, R, S, P⟩ => ?_
  rw [evX] at P
  refine ⟨l, e, st, μ, R, S, P.seq fun x st1 μ1 H1 v1 E1 R1 r1 P1 => ?_⟩
  obtain ⟨b, rfl, P2⟩ := P1.bool
  cases r1
  exact ⟨b, rfl, P2.here R1 (.bl _)⟩
theorem asB_seq {K : PySem.W.Frag} {μ : List Addr} {st : Store} {H : Hp} {r : R D} {Q : Bool → Hp → Prop} {Wx : Value → Option Addr → Hp → Prop} {Q1 : V → Hp → Prop}
    (P : Post K g (EqR g) μ st H (r.bind fun d st1 => match d with | .bl b => .ok b st1 | _ => .fail) Q Wx) (k : ∀ b st1 μ1 H1, Ext μ st H μ1 st1 H1 → Rel K g μ1 st1 H1 → Q b H1 → Q1 (.bl b) H1) : Post K g (Rep K g) μ st H r Q1 Wx :=
  P.seq fun d st1 μ1 H1 v1 E1 R1 r1 P1 => by
    obtain ⟨b, rfl, P2⟩ := P1.bool
    cases r1
    exact k b st1 μ1 H1 E1 R1 (P2.here R1 rfl)
/-- a test by its value -/
theorem t_val (h : PE X e (rdX X.K g (evX cf a) W)) (he : ∀ whole, isTrue e X.env whole = (do let v ← whole; standAt e.pos; holding [v] (truthy v))) : PT X e (rdB X.K g (asB (evX cf a)) W) :=
  (pt_val h he).imp fun σ H Q ⟨l, e, st, μ, R, S, P⟩ => ⟨l, e, st, μ, R, S, asB_seq P fun b st1 μ1 H1 E1 R1 q => ⟨b, rfl, q⟩⟩
theorem t_not (ha : PT X ea (rdB X.K g (asB (evX cf a)) W)) : PT X (.UnaryOp .Not ea pos) (rdB X.K g (asB (evX cf (.not a))) W) := by
  refine (pt_not ha).imp fun σ H Q ⟨l, e, st, μ, R, S, P⟩ => ⟨l, e, st, μ, R, S, ?_⟩
  unfold asB at P ⊢
  rw [evX] at P
  generalize evX cf a e st = r at P ⊢
  cases r with
  | ok d st1 =>
    cases d with
    | bl b => intro μ' H' v E' R' r'; subst r'; exact P μ' H' _ E' R' rfl
    | _ => exact P.elim
  | exc c fs st1 => exact P
  | fail => exact P
theorem c_cmp {op : Cop} (G : Good g cf Γ X W) (hm : (!isSet eb) = true) (ha : PE X ea (rdX X.K g (evX cf a) W)) (hb : PE X eb (rdX X.K g (evX cf b) W)) : PE X (.Compare ea [copOf op] [eb] pos) (rdX X.K g (evX cf (.cmp op a b)) W) := by
  refine (pe_cmpR (cmp_ok (g := g) op G.hu) ha hb (marks_of hm)).imp fun σ H Q ⟨l, e, st, μ, R, S, P⟩ => ?_
  rw [evX] at P
  exact ⟨l, e, st, μ, R, S, P.seq fun x st1 μ1 H1 v1 E1 R1 r1 P1 => ⟨l, e, st1, μ1, R1, S.ext R E1, P1.seq fun y st2 μ2 H2 v2 E2 R2 r2 P2 =>
    let ⟨d, hd, P3⟩ := P2.ofOpt
    ⟨l, μ2, st2, x, y, d, R2, r1.ext R1 E2, r2, hd, P3⟩⟩⟩
theorem cmp_bl {st : Store} {op : Cop} {x y d : D} (h : (evCmp st op x y).map D.bl = some d) : ∃ b, evCmp st op x y = some b ∧ d = .bl b := by
  obtain ⟨b, h1, h2⟩ := Option.map_eq_some_iff.mp h
  exact ⟨b, h1, h2.symm⟩
theorem t_cmp {op : Cop} (G : Good g cf Γ X W) (hm : (!isSet eb) = true) (ha : PE X ea (rdX X.K g (evX cf a) W)) (hb : PE X eb (rdX X.K g (evX cf b) W)) : PT X (.Compare ea [copOf op] [eb] pos) (rdB X.K g (asB (evX cf (.cmp op a b))) W) := by
  refine (pt_cmpR (cmp_ok (g := g) op G.hu) ha hb (marks_of hm)).imp fun σ H Q ⟨l, e, st, μ, R, S, P⟩ => ?_
  unfold asB at P
  rw [evX] at P
  refine ⟨l, e, st, μ, R, S, ?_⟩
  have P : Post X.K (g.h l) (EqR (g.h l)) μ st H ((evX cf a e st).bind fun x st1 => (evX cf b e st1).bind fun y st2 => (ofOpt ((evCmp st2 op x y).map D.bl) st2).bind fun d st1 => match d with | .bl b => .ok b st1 | _ => .fail) Q (fun c d H' => W c d σ H') := by
    generalize evX cf a e st = r at P ⊢
    cases r with
    | ok x st1 =>
      simp only [EV.R.bind_ok] at P ⊢
      generalize evX cf b e st1 = r at P ⊢
      cases r with
      | ok y st2 => exact P
      | exc c fs st1 => exact P
      | fail => exact P
    | exc c fs st1 => exact P
    | fail => exact P
  exact P.seq fun x st1 μ1 H1 v1 E1 R1 r1 P1 => ⟨l, e, st1, μ1, R1, S.ext R E1, P1.seq fun y st2 μ2 H2 v2 E2 R2 r2 P2 => by
    cases q : evCmp st2 op x y with
    | none => rw [q] at P2; exact P2.elim
    | some k =>
      rw [q] at P2
      exact ⟨l, μ2, st2, x, y, .bl k, R2, r1.ext R1 E2, r2, by simp [q], fun μ' H' v' E' R' r' => by cases r'; exact ⟨k, rfl, P2 μ' H' k E' R' rfl⟩⟩⟩
theorem c_chn {op op' : Cop} (G : Good g cf Γ X W) (hm : (!isSet ec) = true) (ha : PE X ea (rdX X.K g (evX cf a) W)) (hb : PE X eb (rdX X.K g (evX cf b) W)) (hc : PE X ec (rdX X.K g (evX cf c) W)) :
    PE X (.Compare ea [copOf op, copOf op'] [eb, ec] pos) (rdX X.K g (evX cf (.chn op op' a b c)) W) := by
  refine (pe_chain (cmp_ok (g := g) op G.hu) (cmp_ok (g := g) op' G.hu) ha hb hc (marks_of (op := copOf op') hm)).imp fun σ H Q ⟨l, e, st, μ, R, S, P⟩ => ?_
  rw [evX] at P
  exact ⟨l, e, st, μ, R, S, P.seq fun x st1 μ1 H1 v1 E1 R1 r1 P1 => ⟨l, e, st1, μ1, R1, S.ext R E1, P1.seq fun y st2 μ2 H2 v2 E2 R2 r2 P2 => by
    cases q : evCmp st2 op x y with
    | none => rw [q] at P2; exact P2.elim
    | some k =>
      rw [q] at P2
      refine ⟨l, μ2, st2, x, y, .bl k, R2, r1.ext R1 E2, r2, by simp [q], fun μ' H' v' E' R' r' => ?_⟩
      cases r'
      refine ⟨k, rfl, ?_⟩
      have P3 := P2.rebase E'
      have S3 := ((S.ext R E1).ext R1 E2).ext R2 E'
      have r3 := r2.ext R2 E'
      cases k with
      | false => exact P3.here R' (.bl _)
      | true => exact ⟨l, e, st2, μ', R', S3, P3.seq fun z st3 μ3 H3 v3 E3 R3 rz P4 =>
          let ⟨d, hd, P5⟩ := P4.ofOpt
          ⟨l, μ3, st3, y, z, d, R3, r3.ext R' E3, rz, hd, P5⟩⟩⟩⟩
/-- the result of a comparison is a truth value -/
theorem chn_bl {op op' : Cop} {e : Sl} {st : Store} {d : D} {st' : Store} (h : evX cf (.chn op op' a b c) e st = .ok d st') : ∃ k, d = .bl k := by
  rw [evX] at h
  generalize evX cf a e st = r at h
  cases r with
  | ok x st1 =>
    simp only [EV.R.bind_ok] at h
    generalize evX cf b e st1 = r at h
    cases r with
    | ok y st2 =>
      simp only [EV.R.bind_ok] at h
      split at h
      · cases h
      · cases h; exact ⟨_, rfl⟩
      · generalize evX cf c e st2 = r at h
        cases r with
        | ok z st3 =>
          simp only [EV.R.bind_ok] at h
          cases q : evCmp st3 op' y z with
          | none => rw [q] at h; cases h
          | some k => rw [q] at h; cases h; exact ⟨k, rfl⟩
        | exc c fs st1 => cases h
        | fail => cases h
    | exc c fs st1 => cases h
    | fail => cases h
  | exc c fs st1 => cases h
  | fail => cases h
theorem t_chn {op op' : Cop} (G : Good g cf Γ X W) (hm : (!isSet ec) = true) (ha : PE X ea (rdX X.K g (evX cf a) W)) (hb : PE X eb (rdX X.K g (evX cf b) W)) (hc : PE X ec (rdX X.K g (evX cf c) W)) :
    PT X (.Compare ea [copOf op, copOf op'] [eb, ec] pos) (rdB X.K g (asB (evX cf (.chn op op' a b c))) W) := by
  refine (pt_chain (cmp_ok (g := g) op G.hu) (cmp_ok (g := g) op' G.hu) ha hb hc (marks_of (op := copOf op') hm)).imp fun σ H Q ⟨l, e, st, μ, R, S, P⟩ => ?_
  have P' : Post X.K (g.h l) (Rep X.K (g.h l)) μ st H (evX cf (.chn op op' a b c) e st) (fun x H' => ∃ k, x = .bl k ∧ Q k H') (fun c d H' => W c d σ H') := asB_seq P fun b st1 μ1 H1 E1 R1 q => ⟨b, rfl, q⟩
  rw [evX] at P'
  exact ⟨l, e, st, μ, R, S, P'.seq fun x st1 μ1 H1 v1 E1 R1 r1 P1 => ⟨l, e, st1, μ1, R1, S.ext R E1, P1.seq fun y st2 μ2 H2 v2 E2 R2 r2 P2 => by
    cases q : evCmp st2 op x y with
    | none => rw [q] at P2; exact P2.elim
    | some k =>
      rw [q] at P2
      refine ⟨l, μ2, st2, x, y, .bl k, R2, r1.ext R1 E2, r2, by simp [q], fun μ' H' v' E' R' r' => ?_⟩
      cases r'
      refine ⟨k, rfl, ?_⟩
      have P3 := P2.rebase E'
      have S3 := ((S.ext R E1).ext R1 E2).ext R2 E'
      have r3 := r2.ext R2 E'
      cases k with
      | false => exact P3.here R' (.bl _)
      | true => exact ⟨l, e, st2, μ', R', S3, P3.seq fun z st3 μ3 H3 v3 E3 R3 rz P4 =>
          let ⟨d, hd, P5⟩ := P4.ofOpt
          ⟨l, μ3, st3, y, z, d, R3, r3.ext R' E3, rz, hd, P5⟩⟩⟩⟩
theorem c_ife (hc : PT X ec (rdB X.K g (asB (evX cf c)) W)) (ha : PE X ea (rdX X.K g (evX cf a) W)) (hb : PE X eb (rdX X.K g (evX cf b) W)) : PE X (.IfExp ec ea eb pos) (rdX X.K g (evX cf (.ife c a b)) W) := by
  refine (pe_ifExp hc ha hb).imp fun σ H Q ⟨l, e, st, μ, R, S, P⟩ => ⟨l, e, st, μ, R, S, ?_⟩
  rw [evX] at P
  unfold asB
  generalize evX cf c e st = r at P ⊢
  cases r with
  | ok d st1 =>
    cases d with
    | bl k =>
      intro μ' H' v E' R' r'
      subst r'
      cases k with
      | true => exact ⟨l, e, st1, μ', R', S.ext R E', Post.rebase P E'⟩
      | false => exact ⟨l, e, st1, μ', R', S.ext R E', Post.rebase P E'⟩
    | _ => exact P.elim
  | exc c fs st1 => exact P
  | fail => exact P
theorem t_ife (hc : PT X ec (rdB X.K g (asB (evX cf c)) W)) (ha : PT X ea (rdB X.K g (asB (evX cf a)) W)) (hb : PT X eb (rdB X.K g (asB (evX cf b)) W)) : PT X (.IfExp ec ea eb pos) (rdB X.K g (asB (evX cf (.ife c a b))) W) := by
  refine ⟨fun pins s σ H Q I ⟨l, e, st, μ, R, S, P⟩ => ?_⟩
  unfold asB at P
  rw [evX] at P
  have h1 : rdB X.K g (asB (evX cf c)) W σ H (fun k H' => if k = true then rdB X.K g (asB (evX cf a)) W σ H' Q else rdB X.K g (asB (evX cf b)) W σ H' Q) := by
    refine ⟨l, e, st, μ, R, S, ?_⟩
    unfold asB
    generalize evX cf c e st = r at P ⊢
    cases r with
    | ok d st1 =>
      cases d with
      | bl k =>
        intro μ' H' v E' R' r'
        subst r'
        cases k with
        | true => exact ⟨l, e, st1, μ', R', S.ext R E', Post.rebase P E'⟩
        | false => exact ⟨l, e, st1, μ', R', S.ext R E', Post.rebase P E'⟩
      | _ => exact P.elim
    | exc c fs st1 => exact P
    | fail => exact P
  refine isTrue_IfExp (thn (hc.run pins s σ H _ I h1) fun k s1 ⟨H1, I1, q1⟩ => ?_)
  cases k with
  | true => exact ha.run pins s1 σ H1 Q I1 q1
  | false => exact hb.run pins s1 σ H1 Q I1 q1
end
end EV
/-! EvF: the other constructs of an expression; targets; what is walked. -/
namespace EV
open PySem PySem.Spec PyProof.Rows L2

/-! ### lengths -/
def Xs.len : Xs → Nat
  | .nil => 0
  | .cons _ xs => xs.len + 1
theorem evXs_len {cf : Call} : ∀ {xs : Xs} {e : Sl} {st : Store} {ds : List D} {st' : Store}, evXs cf xs e st = .ok ds st' → ds.length = xs.len
  | .nil, e, st, ds, st', h => by rw [evXs] at h; cases h; rfl
  | .cons x xs, e, st, ds, st', h => by
    rw [evXs] at h
    generalize evX cf x e st = r at h
    cases r with
    | ok d st1 =>
      simp only [EV.R.bind_ok] at h
      generalize q : evXs cf xs e st1 = r at h
      cases r with
      | ok ds st2 => cases h; rw [List.length_cons, evXs_len q, Xs.len]
      | exc c fs st2 => cases h
      | fail => cases h
    | exc c fs st1 => cases h
    | fail => cases h
theorem chkXs_len {Γ : Gm} : ∀ {xs : Xs} {es : List Expr}, chkXs xs Γ es = true → es.length = xs.len
  | .nil, [], _ => rfl
  | .nil, _ :: _, h => by simp [chkXs] at h
  | .cons _ _, [], h => by simp [chkXs] at h
  | .cons x xs, e :: es, h => by
    simp only [chkXs, Bool.and_eq_true] at h
    rw [List.length_cons, chkXs_len h.2, Xs.len]

/-! ### stars -/
theorem star_one {e : Expr} {es : List Expr} {env : Env} (h : (!isStar e) = true) : starEach (e :: es) env = (false, eval e env) :: starEach es env := by
  cases e <;> first | rfl | (simp [isStar] at h)
theorem stars {Γ : Gm} {env : Env} : ∀ {xs : Xs} {es : List Expr}, chkXs xs Γ es = true → (starEach es env).any (·.1) = false
  | .nil, [], _ => rfl
  | .nil, _ :: _, h => by simp [chkXs] at h
  | .cons _ _, [], h => by simp [chkXs] at h
  | .cons x xs, e :: es, h => by
    simp only [chkXs, Bool.and_eq_true] at h
    rw [star_one h.1.2, List.any_cons, stars h.2]
    rfl
theorem backTo_any {pos : Pos} {ts : List (Bool × Sem Value)} : (backTo pos ts).any (·.1) = ts.any (·.1) := by
  unfold backTo
  rw [List.any_map]
  congr 1
theorem starsB {Γ : Gm} {env : Env} {pos : Pos} {xs : Xs} {es : List Expr} (h : chkXs xs Γ es = true) : (backTo pos (starEach es env)).any (·.1) = false := by rw [backTo_any]; exact stars h
theorem star1B {env : Env} {pos : Pos} {e : Expr} (h : (!isStar e) = true) : (backTo pos (starEach [e] env)).any (·.1) = false := by rw [backTo_any, star_one h]; rfl
theorem plain_ix {b : Expr} (h : (!isSlice b) = true) : PlainIx b := by
  intro o i
  cases b <;> first | rfl | (simp [isSlice] at h)

section
variable {g : G} {cf : Call} {Γ : Gm} {X : Cx} {W : WX} {e ea eb ec : Expr} {es : List Expr} {pos p : Pos} {a b c x y : EV.X} {xs : Xs}

/-! ### argument lists, displays -/
theorem a_nil : PA X [] (rdXs X.K g (evXs cf .nil) W) := by
  refine pa_nil.imp fun σ H Q ⟨l, e, st, μ, R, S, P⟩ => ?_
  rw [evXs] at P
  exact P.here R .nil
theorem a_cons (hs : (!isStar e) = true) (ha : PE X e (rdX X.K g (evX cf x) W)) (hr : PA X es (rdXs X.K g (evXs cf xs) W)) : PA X (e :: es) (rdXs X.K g (evXs cf (.cons x xs)) W) := by
  refine (pa_cons ha hr (star_one hs)).imp fun σ H Q ⟨l, e, st, μ, R, S, P⟩ => ?_
  rw [evXs] at P
  exact ⟨l, e, st, μ, R, S, P.seq fun x st1 μ1 H1 v1 E1 R1 r1 P1 => ⟨l, e, st1, μ1, R1, S.ext R E1, P1.seq fun ds st2 μ2 H2 vs E2 R2 rs P2 => P2.here R2 (.cons (r1.ext R1 E2) rs)⟩⟩
theorem c_tup {k : Nat} (hl : es.length ≤ 1000) (hk : chkXs xs Γ es = true) (ha : PA X es (rdXs X.K g (evXs cf xs) W)) : PE X (.Tuple es k pos) (rdX X.K g (evX cf (.tup xs)) W) := by
  refine (pe_tup ha).imp fun σ H Q ⟨l, e, st, μ, R, S, P⟩ => ?_
  rw [evX] at P
  refine ⟨l, e, st, μ, R, S, P.seqE fun ds st1 μ1 H1 vs hr E1 R1 rs P1 => ?_⟩
  have n1 : ds.length ≤ 1000 := by rw [evXs_len hr, ← chkXs_len hk]; exact hl
  refine ⟨by rw [← rs.length, sizeLine_eq]; omega, fun p n => ?_⟩
  obtain ⟨E, R2, r⟩ := new_tup R1 n (by unfold most; omega) rs
  exact P1 _ _ _ E R2 r
theorem c_lst {mu : Bool} (hl : es.length ≤ 1000) (hk : chkXs xs Γ es = true) (ha : PA X es (rdXs X.K g (evXs cf xs) W)) : PE X (.List es pos) (rdX X.K g (evX cf (.lst mu xs)) W) := by
  refine (pe_lst ha).imp fun σ H Q ⟨l, e, st, μ, R, S, P⟩ => ?_
  rw [evX] at P
  refine ⟨l, e, st, μ, R, S, P.seqE fun ds st1 μ1 H1 vs hr E1 R1 rs P1 => ?_⟩
  have n1 : ds.length ≤ 1000 := by rw [evXs_len hr, ← chkXs_len hk]; exact hl
  refine ⟨by rw [← rs.length, sizeLine_eq]; omega, fun p n => ?_⟩
  cases mu with
  | true =>
    obtain ⟨E, R2, r⟩ := new_loc R1 n (by unfold most; omega) rs
    exact P1 _ _ _ E R2 r
  | false =>
    obtain ⟨E, R2, r⟩ := new_lst R1 n (by unfold most; omega) rs
    exact P1 _ _ _ E R2 r

/-! ### subscripts -/
theorem c_idx (hs : (!isSlice eb) = true) (ha : PE X ea (rdX X.K g (evX cf a) W)) (hb : PE X eb (rdX X.K g (evX cf b) W)) : PE X (.Subscript ea eb pos) (rdX X.K g (evX cf (.idx a b)) W) := by
  refine (pe_ix (ix_ok (g := g)) ha hb (plain_ix hs)).imp fun σ H Q ⟨l, e, st, μ, R, S, P⟩ => ?_
  rw [evX] at P
  exact ⟨l, e, st, μ, R, S, P.seq fun x st1 μ1 H1 v1 E1 R1 r1 P1 => ⟨l, e, st1, μ1, R1, S.ext R E1, P1.seq fun y st2 μ2 H2 v2 E2 R2 r2 P2 =>
    let ⟨d, hd, P3⟩ := P2.ofOpt
    ⟨l, μ2, st2, x, y, d, R2, r1.ext R1 E2, r2, hd, P3⟩⟩⟩
theorem o_none : PO X none (rdO X.K g (evXo cf .none) W) := by
  refine po_none.imp fun σ H Q ⟨l, e, st, μ, R, S, P⟩ => ?_
  rw [evXo] at P
  exact P.here R rfl
theorem o_some (ha : PE X ea (rdX X.K g (evX cf a) W)) : PO X (some ea) (rdO X.K g (evXo cf (.some a)) W) := by
  refine (po_some ha).imp fun σ H Q ⟨l, e, st, μ, R, S, P⟩ => ?_
  rw [evXo] at P
  refine ⟨l, e, st, μ, R, S, P.seq fun x st1 μ1 H1 v1 E1 R1 r1 P1 => ?_⟩
  cases x with
  | int i => cases r1; exact ⟨i, rfl, P1.here R1 rfl⟩
  | _ => exact P1.elim
theorem c_sl {lo hi : Xo} {l h : Option Expr} {p2 : Pos} (ha : PE X ea (rdX X.K g (evX cf a) W)) (hl : PO X l (rdO X.K g (evXo cf lo) W)) (hh : PO X h (rdO X.K g (evXo cf hi) W)) :
    PE X (.Subscript ea (.Slice l h none p2) pos) (rdX X.K g (evX cf (.sl a lo hi)) W) := by
  refine (pe_slice (sl_ok (g := g)) ha hl hh).imp fun σ H Q ⟨l, e, st, μ, R, S, P⟩ => ?_
  rw [evX] at P
  exact ⟨l, e, st, μ, R, S, P.seq fun x st1 μ1 H1 v1 E1 R1 r1 P1 => ⟨l, e, st1, μ1, R1, S.ext R E1, P1.seq fun o st2 μ2 H2 v2 E2 R2 r2 P2 =>
    ⟨l, e, st2, μ2, R2, (S.ext R E1).ext R1 E2, P2.seq fun o3 st3 μ3 H3 v3 E3 R3 r3 P3 => by
      cases r2; cases r3
      obtain ⟨d, hd, P4⟩ := P3.ofOpt
      exact ⟨l, μ3, st3, x, d, R3, (r1.ext R1 E2).ext R2 E3, hd, P4⟩⟩⟩⟩

/-! ### calls -/
theorem c_call {k : Nat} {n : Str} (G : Good g cf Γ X W) (hc : Γ.calm = true) (h1 : glb Γ.sc n = true) (h2 : (!dbg n) = true) (h3 : Γ.fns[k]? = some (n, (e :: es).length)) (hk : chkXs xs Γ (e :: es) = true) (ha : PA X (e :: es) (rdXs X.K g (evXs cf xs) W)) :
    PE X (.Call (.Name n p) (e :: es) [] pos) (rdX X.K g (evX cf (.call k xs)) W) := by
  obtain ⟨fd, ps, lv, hl, hm, hkp, hb, hle, F⟩ := G.tab k _ _ h3
  have hs : (!isStar e) = true ∧ ∃ xs', chkXs xs' Γ es = true := by
    cases xs with
    | nil => simp [chkXs] at hk
    | cons x xs => simp only [chkXs, Bool.and_eq_true] at hk; exact ⟨hk.1.2, _, hk.2⟩
  obtain ⟨hs, xs', hk'⟩ := hs
  refine (pe_callS (E := WE W) F ((G.room hc).mono (Nat.le_trans hle G.tlv)) (G.gl h1) hm hkp hb (passAt G.tk) ha (dbg_ne h2) (star_one hs) (starsB hk')).imp fun σ H Q ⟨l, e', st, μ, R, S, P⟩ => ?_
  rw [evX] at P
  refine ⟨l, e', st, μ, R, S, P.seqE fun ds st1 μ1 H1 vs hr E1 R1 rs P1 => ⟨?_, l, μ1, st1, ds, R1, rs, P1⟩⟩
  rw [← rs.length, evXs_len hr, ← chkXs_len hk, hl]
/-- of several defs that the slot may hold -/
theorem pe_callV {i lvl n : Nat} {x : Str} {E : L2.St → XK} {ks : List Nat} {t : TA} (A : ∀ k ∈ ks, ∃ fd ps lv, ps.length = n ∧ PySem.W.keepIn X.K (.ref (g.fa k)) = true ∧ Binds X.K fd ps [] ∧ lv ≤ lvl ∧ FnOk X.prog X.w X.K X.mg X.base (L2.CX X.prog X.w) lv (g.fa k) fd ps (spOf X.K g ps.length (cf k)))
    (hr : Room lvl X.A) (hN : X.N[i]? = some x) (hv : Vis X.env.scope x) (hx : ∀ σ, PassesAt (L2.CX X.prog X.w) X σ (E σ)) (ha : PA X (e :: es) t) (hdb : (x == ("__debug__" : Str)) = false) (hcd : (x == ("__classdict__" : Str)) = false)
    (he : starEach (e :: es) X.env = (false, eval e X.env) :: starEach es X.env) (hpl : (backTo pos (starEach es X.env)).any (·.1) = false) :
    PE X (.Call (.Name x p) (e :: es) [] pos) (fun σ H Q => ∃ k ∈ ks, σ[i]? = some (some (.ref (g.fa k))) ∧ t σ H fun vs H1 => spOf X.K g n (cf k) vs H1 Q (E σ)) := by
  refine ⟨fun pins s σ H Q I h => ?_⟩
  obtain ⟨k, hk, hs, ht⟩ := h
  obtain ⟨fd, ps, lv, hl, hkp, hb, hle, F⟩ := A k hk
  refine wpAny_Call_Name_kw (thn ((pe_var (pos := p) hN hv hdb hcd).run pins s σ H (fun v H1 => v = .ref (g.fa k) ∧ H1 = H) I ⟨.ref (g.fa k), hs, rfl, rfl⟩) fun u s1 ⟨v, H1, I1, r1, q1⟩ => ?_)
  obtain ⟨rfl, rfl⟩ := q1
  cases r1
  refine PySem.W.callWith_K (h₀ := X.base) I.ok.mod.kin hkp (thn (ha.run pos pins s1 σ _ _ I1 ht) fun us s2 ⟨vs, H2, I2, r, q⟩ => ⟨I2.kIn, ?_⟩) he hpl
  refine run_fnS (E := E) F (hr.mono hle) hb (hx σ) I2 r ?_
  rw [hl]
  exact q
theorem c_callv {i : Nat} {ks : List Nat} {n : Str} (G : Good g cf Γ X W) (hc : Γ.calm = true) (h1 : Γ.N[i]? = some n) (h2 : vis Γ.sc n = true) (h3 : (!dbg n) = true) (h4 : (!cdc n) = true)
    (h5 : ∀ k ∈ ks, ∃ x, Γ.fns[k]? = some (x, (e :: es).length)) (hk : chkXs xs Γ (e :: es) = true) (ha : PA X (e :: es) (rdXs X.K g (evXs cf xs) W)) :
    PE X (.Call (.Name n p) (e :: es) [] pos) (rdX X.K g (evX cf (.callv i ks xs)) W) := by
  have hs : (!isStar e) = true ∧ ∃ xs', chkXs xs' Γ es = true := by
    cases xs with
    | nil => simp [chkXs] at hk
    | cons x xs => simp only [chkXs, Bool.and_eq_true] at hk; exact ⟨hk.1.2, _, hk.2⟩
  obtain ⟨hs, xs', hk'⟩ := hs
  refine (pe_callV (ks := ks) (cf := cf) (g := g) (n := (e :: es).length) (lvl := Γ.tl) (E := WE W) (fun k hk => ?_) ((G.room hc).mono G.tlv) (by rw [G.N]; exact h1) (G.vis h2) (passAt G.tk) ha (dbg_ne h3) (cdc_ne h4) (star_one hs) (starsB hk')).imp fun σ H Q ⟨l, e', st, μ, R, S, P⟩ => ?_
  · obtain ⟨x, hx⟩ := h5 k hk
    obtain ⟨fd, ps, lv, hl, hm, hkp, hb, hle, F⟩ := G.tab k _ _ hx
    exact ⟨fd, ps, lv, hl, hkp, hb, hle, F⟩
  · rw [evX] at P
    split at P
    · rename_i k hi
      split at P
      · rename_i hk1
        obtain ⟨v, hv, rv⟩ := S.2 i _ hi
        cases rv
        refine ⟨k, by simpa using hk1, hv, l, e', st, μ, R, S, P.seqE fun ds st1 μ1 H1 vs hr E1 R1 rs P1 => ⟨?_, l, μ1, st1, ds, R1, rs, P1⟩⟩
        rw [← rs.length, evXs_len hr, ← chkXs_len hk]
      · exact P.elim
    · exact P.elim

/-! ### built-ins -/
theorem blt_rd {f : Blt} {n : Str} (ha : PA X (e :: es) (rdXs X.K g (evXs cf xs) W)) {t : TE} (h : PE X (.Call (.Name n p) (e :: es) [] pos) (tCB (rBlt X.K g fun st => evBlt st f) (rdXs X.K g (evXs cf xs) W))) : PE X (.Call (.Name n p) (e :: es) [] pos) (rdX X.K g (evX cf (.blt f xs)) W) := by
  refine h.imp fun σ H Q ⟨l, e, st, μ, R, S, P⟩ => ?_
  rw [evX] at P
  exact ⟨l, e, st, μ, R, S, P.seq fun ds st1 μ1 H1 vs E1 R1 rs P1 => let ⟨d, hd, P2⟩ := P1.ofOpt; ⟨l, μ1, st1, ds, d, R1, rs, hd, P2⟩⟩
theorem bn_of {n : Str} (G : Good g cf Γ X W) (h : n ∈ bnames) : X.mg n = none := G.bn n h
theorem c_blt {f : Blt} {n : Str} (G : Good g cf Γ X W) (hc : Γ.calm = true) (ho : bltOk f = true) (hn : n = bltName f) (h1 : glb Γ.sc n = true) (hk : chkXs xs Γ (e :: es) = true) (ha : PA X (e :: es) (rdXs X.K g (evXs cf xs) W)) :
    PE X (.Call (.Name n p) (e :: es) [] pos) (rdX X.K g (evX cf (.blt f xs)) W) := by
  have hs : (!isStar e) = true ∧ ∃ xs', chkXs xs' Γ es = true := by
    cases xs with
    | nil => simp [chkXs] at hk
    | cons x xs => simp only [chkXs, Bool.and_eq_true] at hk; exact ⟨hk.1.2, _, hk.2⟩
  obtain ⟨hs, xs', hk'⟩ := hs
  have cl := G.calm hc
  have gl := G.gl h1
  subst hn
  cases f <;> first
    | (simp [bltOk] at ho; done)
    | exact blt_rd (t := fun _ _ _ => True) ha (pe_callB b_len gl (G.bn _ (by decide)) (by decide +kernel) ha (by decide) (by decide) (star_one hs) (starsB hk'))
    | exact blt_rd (t := fun _ _ _ => True) ha (pe_callB b_abs gl (G.bn _ (by decide)) (by decide +kernel) ha (by decide) (by decide) (star_one hs) (starsB hk'))
    | exact blt_rd (t := fun _ _ _ => True) ha (pe_callTy b_int gl (G.bn _ (by decide)) (by decide +kernel) ha (by decide) (by decide) (star_one hs) (starsB hk'))
    | exact blt_rd (t := fun _ _ _ => True) ha (pe_callB (b_sum cl) gl (G.bn _ (by decide)) (by decide +kernel) ha (by decide) (by decide) (star_one hs) (starsB hk'))
    | exact blt_rd (t := fun _ _ _ => True) ha (pe_callB (b_min1 cl) gl (G.bn _ (by decide)) (by decide +kernel) ha (by decide) (by decide) (star_one hs) (starsB hk'))
    | exact blt_rd (t := fun _ _ _ => True) ha (pe_callB (b_max1 cl) gl (G.bn _ (by decide)) (by decide +kernel) ha (by decide) (by decide) (star_one hs) (starsB hk'))
    | exact blt_rd (t := fun _ _ _ => True) ha (pe_callB (b_min2 cl) gl (G.bn _ (by decide)) (by decide +kernel) ha (by decide) (by decide) (star_one hs) (starsB hk'))
    | exact blt_rd (t := fun _ _ _ => True) ha (pe_callB (b_max2 cl) gl (G.bn _ (by decide)) (by decide +kernel) ha (by decide) (by decide) (star_one hs) (starsB hk'))
    | exact blt_rd (t := fun _ _ _ => True) ha (pe_callB (b_all cl) gl (G.bn _ (by decide)) (by decide +kernel) ha (by decide) (by decide) (star_one hs) (starsB hk'))
    | exact blt_rd (t := fun _ _ _ => True) ha (pe_callTy b_tuple gl (G.bn _ (by decide)) (by decide +kernel) ha (by decide) (by decide) (star_one hs) (starsB hk'))
    | exact blt_rd (t := fun _ _ _ => True) ha (pe_callTy b_list gl (G.bn _ (by decide)) (by decide +kernel) ha (by decide) (by decide) (star_one hs) (starsB hk'))
    | exact blt_rd (t := fun _ _ _ => True) ha (pe_callB b_sortedI gl (G.bn _ (by decide)) (by decide +kernel) ha (by decide) (by decide) (star_one hs) (starsB hk'))
    | exact blt_rd (t := fun _ _ _ => True) ha (pe_callB (b_sortedT G.hu) gl (G.bn _ (by decide)) (by decide +kernel) ha (by decide) (by decide) (star_one hs) (starsB hk'))
    | exact blt_rd (t := fun _ _ _ => True) ha (pe_callB (b_sortedN G.hu) gl (G.bn _ (by decide)) (by decide +kernel) ha (by decide) (by decide) (star_one hs) (starsB hk'))
theorem c_srs {p2 pos2 : Pos} (G : Good g cf Γ X W) (hc : Γ.calm = true) (h1 : glb Γ.sc "sorted" = true) (h2 : glb Γ.sc "set" = true) (hs : (!isStar e) = true) (ha : PE X e (rdX X.K g (evX cf a) W)) :
    PE X (.Call (.Name "sorted" p) [.Call (.Name "set" p2) [e] [] pos2] [] pos) (rdX X.K g (evX cf (.srs a)) W) := by
  refine (pe_callB (cr_sortedSet (G.calm hc)) (G.gl h1) (G.bn _ (by decide)) (by decide +kernel) (pa_cons (pe_callTy (c_set (G.calm hc)) (G.gl h2) (G.bn _ (by decide)) (by decide +kernel) (pa_cons ha pa_nil (star_one hs)) (by decide) (by decide) (star_one hs) (by rfl)) pa_nil rfl) (by decide) (by decide) rfl (by rfl)).imp fun σ H Q ⟨l, e, st, μ, R, S, P⟩ => ?_
  rw [evX] at P
  refine ⟨l, e, st, μ, R, S, P.seq fun x st1 μ1 H1 v1 E1 R1 r1 P1 => ?_⟩
  obtain ⟨d, hd, P2⟩ := P1.ofOpt
  cases x with
  | tup ds =>
    simp only [evSrs, Option.bind_eq_some_iff] at hd
    obtain ⟨ns, e1, hd⟩ := hd
    split at hd
    · rename_i hl
      simp only [decide_eq_true_eq] at hl
      cases hd
      obtain ⟨ad, xs, rfl, h2, l1, rs⟩ := r1.seqT
      rw [rs.intsR e1] at h2
      refine ⟨ad, ns, rfl, h2, by omega, fun a2 c n2 hc2 => ?_⟩
      refine ⟨a2, _, c, rfl, upd_same, by omega, fun ns' p3 hp hk hl2 n3 => ?_⟩
      obtain ⟨R2, E2⟩ := R1.upd_free (o := SetO X.w a2 (fun j => decide (j ∈ ns)) c) n2
      have : ns' = sortI (nubI ns) := srs_uniq hp fun k => by rw [hk k, decide_eq_true_eq]
      subst this
      obtain ⟨E3, R3, r3⟩ := new_lst (g := g.h l) R2 n3 (by rw [List.length_map]; unfold most; omega) (Reps.ofInts (K := X.K) (g := g.h l) (μ := μ1) (st := st1) (sortI (nubI ns)))
      exact P2 _ _ _ (E2.trans E3) R3 r3
    · cases hd
  | _ => simp [evSrs] at hd
end
end EV
/-! EvFd: tuple(range(n)); a written dict of two words, asked by get. -/
namespace EV
open PySem PySem.Spec PyProof.Rows L2

section
variable {K : PySem.W.Frag} {g : G} {μ μ1 : List Addr} {st st1 : Store} {H H1 : Hp} {α β γ δ : Type}
/-- as Post.seq, but the rest is still told from the beginning -/
theorem Post.seqB {μ0 : List Addr} {st0 : Store} {H0 : Hp} {RA : List Addr → Store → Hp → α → β → Prop} {RB : List Addr → Store → Hp → γ → δ → Prop} {r : R α} {f : α → Store → R γ} {Q : δ → Hp → Prop} {Q1 : β → Hp → Prop} {W : Value → Option Addr → Hp → Prop}
    (E0 : Ext μ0 st0 H0 μ st H) (h : Post K g RB μ0 st0 H0 (r.bind f) Q W) (k : ∀ a st1 μ1 H1 v1, Ext μ st H μ1 st1 H1 → Rel K g μ1 st1 H1 → RA μ1 st1 H1 a v1 → Post K g RB μ0 st0 H0 (f a st1) Q W → Q1 v1 H1) : Post K g RA μ st H r Q1 W := by
  cases r with
  | ok a st' => intro μ' H' v E' R' r'; exact k a st' μ' H' v E' R' r' h
  | exc c fs st' => intro μ' H' cls dd E' R' x; exact h μ' H' cls dd (E0.trans E') R' x
  | fail => exact h
/-! a dict at p, out of reach, is exchanged for another -/
theorem rd_dk {p a : Addr} {kvs kvs' : List (Key × V)} {u : HO} (hp : H p = some (.dK kvs)) (hu : ∀ k, u ≠ .dK k) (h : Rd H a u) : Rd (upd H p (.dK kvs')) a u := by
  rcases h with h | ⟨o, h⟩
  · refine .inl ?_
    rw [upd_ne]; exact h
    rintro rfl
    rw [hp] at h
    injection h with h
    exact hu _ h.symm
  · refine .inr ⟨o, ?_⟩
    rw [upd_ne]; exact h
    rintro rfl
    rw [hp] at h
    injection h with h
    cases h
mutual
theorem Rep.dk {p : Addr} {kvs kvs' : List (Key × V)} (hp : H p = some (.dK kvs)) : ∀ {d : D} {v : V}, Rep K g μ st H d v → Rep K g μ st (upd H p (.dK kvs')) d v
  | _, _, .non => .non
  | _, _, .bl b => .bl b
  | _, _, .int i => .int i
  | _, _, .str x => .str x
  | _, _, .tup h l r => .tup (h.imp (rd_dk hp (by intro _ z; cases z)) id) l (Reps.dk hp r)
  | _, _, .lst h n nh l r => .lst (rd_dk hp (by intro _ z; cases z) h) n nh l (Reps.dk hp r)
  | _, _, .lstK h l r => .lstK h l (Reps.dk hp r)
  | _, _, .rol h l r => .rol (by
      rw [upd_ne]; exact h
      rintro rfl
      rw [hp] at h
      injection h with h
      cases h) l (Reps.dk hp r)
  | _, _, .dct h e n l r => .dct (by
      rw [upd_ne]; exact h
      rintro rfl
      rw [hp] at h
      injection h with h
      cases h) e n l (Reps.dk hp r)
  | _, _, .loc h => .loc h
  | _, _, .fn k => .fn k
theorem Reps.dk {p : Addr} {kvs kvs' : List (Key × V)} (hp : H p = some (.dK kvs)) : ∀ {ds : List D} {vs : List V}, Reps K g μ st H ds vs → Reps K g μ st (upd H p (.dK kvs')) ds vs
  | _, _, .nil => .nil
  | _, _, .cons r t => .cons (Rep.dk hp r) (Reps.dk hp t)
end
/-- what was not there before stands out of reach -/
theorem Ext.out {p : Addr} {o : HO} (R : Rel K g μ st H) (n : H p = none) (E : Ext μ st (upd H p o) μ1 st1 H1) : p ∉ μ1 := by
  obtain ⟨more, e, f⟩ := E.pre
  rw [e]
  intro z
  rcases List.mem_append.mp z with z | z
  · obtain ⟨u, q⟩ := R.there p z
    rw [n] at q; cases q
  · have := f p z
    rw [upd_same] at this; cases this
theorem Rel.dk {p : Addr} {kvs kvs' : List (Key × V)} (R : Rel K g μ st H) (hp : H p = some (.dK kvs)) (hm : p ∉ μ) : Rel K g μ st (upd H p (.dK kvs')) := by
  refine ⟨R.len, R.nd, fun a ha => ?_, fun l ob a h1 h2 => ?_, fun a ha => ?_, tab_put R.tabs hp (by intro _ z; cases z) fun _ => dK_code⟩
  · obtain ⟨u, e⟩ := R.there a ha
    by_cases z : a = p
    · subst z; exact ⟨_, upd_same⟩
    · exact ⟨u, by rw [upd_ne z]; exact e⟩
  · have := R.obj l ob a h1 h2
    cases ob with
    | lst ds =>
      obtain ⟨xs, q1, q2, q3⟩ := this
      refine ⟨xs, ?_, q2, q3.dk hp⟩
      rw [upd_ne]; exact q1
      rintro rfl
      rw [hp] at q1
      injection q1 with q1
      cases q1
    | dct t es =>
      have ne : a ≠ p := fun z => hm (z ▸ List.mem_of_getElem? h2)
      cases t with
      | false => obtain ⟨ns, xs, q1, q2, q3⟩ := this; exact ⟨ns, xs, by rw [upd_ne ne]; exact q1, q2, q3.imp fun _ _ r => r.dk hp⟩
      | true => obtain ⟨ents, q1, q2, q3⟩ := this; exact ⟨ents, by rw [upd_ne ne]; exact q1, q2, q3.imp fun _ _ r => r.dk hp⟩
    | gone => trivial
  · obtain ⟨h1, xs, h2⟩ := R.hid a ha
    refine ⟨h1, xs, ?_⟩
    rw [upd_ne]; exact h2
    rintro rfl
    rw [hp] at h2
    injection h2 with h2
    cases h2
theorem SlRep.dk {p : Addr} {kvs kvs' : List (Key × V)} {e : Sl} {σ : L2.St} (S : SlRep K g μ st H e σ) (hp : H p = some (.dK kvs)) : SlRep K g μ st (upd H p (.dK kvs')) e σ := by
  refine ⟨S.1, fun i d h => ?_⟩
  obtain ⟨v, h1, h2⟩ := S.2 i d h
  exact ⟨v, h1, h2.dk hp⟩
theorem Ext.dk {p : Addr} {kvs kvs' : List (Key × V)} (n : H p = none) (E : Ext μ st (upd H p (.dK kvs)) μ1 st1 H1) : Ext μ st H μ1 st1 (upd H1 p (.dK kvs')) := by
  have ne : ∀ a o, H a = some o → a ≠ p := fun a o h z => by subst z; rw [n] at h; cases h
  obtain ⟨more, e, f⟩ := E.pre
  refine ⟨E.len, ⟨more, e, fun a ha => ?_⟩, fun a o h nl nt => ?_, E.gone, fun a o h => ?_⟩
  · have := f a ha
    by_cases z : a = p
    · subst z; exact n
    · rw [upd_ne z] at this; exact this
  · rw [upd_ne (ne a o h)]
    exact E.keepN a o (by rw [upd_ne (ne a o h)]; exact h) nl nt
  · obtain ⟨o', h'⟩ := E.here a o (by rw [upd_ne (ne a o h)]; exact h)
    exact ⟨o', by rw [upd_ne (ne a o h)]; exact h'⟩
end
section
variable {g : G} {cf : Call} {Γ : Gm} {X : Cx} {W : WX} {e ea eb ec ed : Expr} {es : List Expr} {pos p : Pos} {a b c d x y : EV.X} {xs : Xs}
theorem rg_ints (n : Int) : rgV 0 n = ((List.range n.toNat).map fun (i : Nat) => (i : Int)).map V.int := by
  unfold rgV
  rw [Int.sub_zero, List.map_map]
  refine List.map_congr_left fun i _ => ?_
  show V.int (0 + (i : Int)) = V.int (i : Int)
  rw [Int.zero_add]
theorem c_trg {p2 pos2 : Pos} (G : Good g cf Γ X W) (hc : Γ.calm = true) (h1 : glb Γ.sc "tuple" = true) (h2 : glb Γ.sc "range" = true) (hs : (!isStar e) = true) (ha : PE X e (rdX X.K g (evX cf a) W)) :
    PE X (.Call (.Name "tuple" p) [.Call (.Name "range" p2) [e] [] pos2] [] pos) (rdX X.K g (evX cf (.trg a)) W) := by
  refine (pe_tupRg (G.calm hc) (G.gl h1) (G.bn _ (by decide)) (prg_1 (G.gl h2) (G.bn _ (by decide)) ha (star_one hs))).imp fun σ H Q ⟨l, e, st, μ, R, S, P⟩ => ?_
  rw [evX] at P
  refine ⟨l, e, st, μ, R, S, P.seq fun x st1 μ1 H1 v1 E1 R1 r1 P1 => ?_⟩
  obtain ⟨d, hd, P2⟩ := P1.ofOpt
  cases x with
  | int n =>
    cases r1
    simp only [evTrg] at hd
    split at hd
    · rename_i hn
      simp only [decide_eq_true_eq] at hn
      cases hd
      unfold most at hn
      refine ⟨n, rfl, ⟨by omega, by omega, by omega, by omega, by omega⟩, fun q hq => ?_⟩
      have r2 : Reps X.K (g.h l) μ1 st1 H1 ((List.range n.toNat).map fun (i : Nat) => D.int (i : Int)) (rgV 0 n) := by
        rw [rg_ints]
        have := Reps.ofInts (K := X.K) (g := g.h l) (μ := μ1) (st := st1) (H := H1) ((List.range n.toNat).map fun (i : Nat) => (i : Int))
        rw [List.map_map] at this
        exact this
      obtain ⟨E2, R2, r3⟩ := new_tup R1 hq (by rw [List.length_map, List.length_range]; unfold most; omega) r2
      exact P2 _ _ _ E2 R2 r3
    · cases hd
  | _ => simp [evTrg] at hd
theorem m2_of {o e f : Expr} {m : Str} {ap cp : Pos} (hb : attributeBase o m X.env (eval o X.env) = eval o X.env) (h1 : (!isStar e) = true) (h2 : (!isStar f) = true) (hl : (ap.endLine == cp.line) = true) : M2 X o m ap e f cp := by
  have hs : starEach [e, f] X.env = [(false, eval e X.env), (false, eval f X.env)] := by rw [star_one h1, star_one h2]; rfl
  refine ⟨hb, ?_, hl, ?_⟩
  · rw [hs]; rfl
  · rw [hs]; rfl
theorem c_dgt {k1 k2 : Str} {q1 q2 : Pos} {j1 j2 : Nat} {ap cp dp : Pos} (G : Good g cf Γ X W) (hk : k1 ≠ k2) (hl : (ap.endLine == cp.line) = true) (h1 : (!isStar ec) = true) (h2 : (!isStar ed) = true)
    (ha : PE X ea (rdX X.K g (evX cf a) W)) (hb : PE X eb (rdX X.K g (evX cf b) W)) (hc : PE X ec (rdX X.K g (evX cf c) W)) (hd : PE X ed (rdX X.K g (evX cf d) W)) :
    PE X (.Call (.Attribute (.Dict [some (.Constant (.str k1) j1 q1), some (.Constant (.str k2) j2 q2)] [ea, eb] dp) "get" ap) [ec, ed] [] cp) (rdX X.K g (evX cf (.dgt k1 k2 a b c d)) W) := by
  refine (pe_dget2 (by have := G.hu; omega) (pe_disp (pps_cons pe_str ha (pps_cons pe_str hb pps_nil)) (by rfl) (by rfl) (by intro z; cases z) (by show 2 ≤ 15; omega)) hc hd (m2_of (by rfl) h1 h2 hl)).imp fun σ H Q ⟨l, e, st, μ, R, S, P⟩ => ?_
  rw [evX] at P
  intro p hp
  obtain ⟨R0, E0⟩ := R.upd_free (o := .dK []) hp
  have hR : g.h l = g.h l := rfl
  refine ⟨l, e, st, μ, R0, S.ext R E0, Post.seqB E0 P fun x st1 μ1 H1 v1 E1 R1 r1 P1 => ?_⟩
  refine ⟨l, e, st1, μ1, R1, (S.ext R E0).ext R0 E1, Post.seqB (E0.trans E1) P1 fun y st2 μ2 H2 v2 E2 R2 r2 P2 => ?_⟩
  have n0 : ¬ Live μ st p := R.notLiveN hp
  have k2' : H2 p = some (.dK []) := (E1.trans E2).keep p _ upd_same n0
  refine ⟨k2', [(.inr k1, v1), (.inr k2, v2)], rfl, by show 2 ≤ 15; omega, p, rfl, .inl ⟨_, .inl upd_same⟩, ?_⟩
  have hm : mergeK [] [((Sum.inr k1 : Key), v1), ((Sum.inr k2 : Key), v2)] = [((Sum.inr k1 : Key), v1), ((Sum.inr k2 : Key), v2)] := by
    show putK (putK [] (Sum.inr k1 : Key) v1) (Sum.inr k2 : Key) v2 = _
    have : putK ([] : List (Key × V)) (Sum.inr k1 : Key) v1 = [((Sum.inr k1 : Key), v1)] := rfl
    rw [this]
    unfold putK
    rw [if_neg (by simpa using hk)]
    rfl
  rw [hm]
  have E3 : Ext μ st H μ2 st2 (upd H2 p (.dK [((Sum.inr k1 : Key), v1), ((Sum.inr k2 : Key), v2)])) := Ext.dk hp (E1.trans E2)
  have hm2 : p ∉ μ2 := Ext.out R hp (E1.trans E2)
  have R3 : Rel X.K (g.h l) μ2 st2 (upd H2 p (.dK [((Sum.inr k1 : Key), v1), ((Sum.inr k2 : Key), v2)])) := R2.dk k2' hm2
  have s1 := (r1.ext R1 E2).dk (kvs' := [((Sum.inr k1 : Key), v1), ((Sum.inr k2 : Key), v2)]) k2'
  have s2 := r2.dk (kvs' := [((Sum.inr k1 : Key), v1), ((Sum.inr k2 : Key), v2)]) k2'
  have k3 : upd H2 p (.dK [((Sum.inr k1 : Key), v1), ((Sum.inr k2 : Key), v2)]) p = some (.dK [((Sum.inr k1 : Key), v1), ((Sum.inr k2 : Key), v2)]) := upd_same
  generalize upd H2 p (.dK [((Sum.inr k1 : Key), v1), ((Sum.inr k2 : Key), v2)]) = H3 at E3 R3 s1 s2 k3
  refine ⟨l, e, st2, μ2, R3, S.ext R E3, Post.seqB E3 P2 fun u st3 μ3 H4 v3 E4 R4 r4 P3 => ?_⟩
  refine ⟨l, e, st3, μ3, R4, (S.ext R E3).ext R3 E4, Post.seqB (E3.trans E4) P3 fun z st4 μ4 H5 v4 E5 R5 r5 P4 => ?_⟩
  obtain ⟨dd, hd, P5⟩ := P4.ofOpt
  cases u with
  | str s =>
    cases r4
    have k5 := (E4.trans E5).keep p _ k3 (fun ⟨i, _, h1, _, _⟩ => hm2 (List.mem_of_getElem? h1))
    refine ⟨_, .inl ⟨_, .inr s, .inl k5, rfl, rfl⟩, P5 μ4 H5 _ (E3.trans (E4.trans E5)) R5 ?_⟩
    simp only [evDgt] at hd
    injection hd with hd
    subst hd
    by_cases c1 : s = k1
    · subst c1
      rw [if_pos rfl]
      have : valV [((Sum.inr s : Key), v1), ((Sum.inr k2 : Key), v2)] (.inr s) = some v1 := by simp [valV]
      rw [this]
      exact (s1.ext R3 E4).ext R4 E5
    · by_cases c2 : s = k2
      · subst c2
        rw [if_neg c1, if_pos rfl]
        have : valV [((Sum.inr k1 : Key), v1), ((Sum.inr s : Key), v2)] (.inr s) = some v2 := by simp [valV, Ne.symm c1]
        rw [this]
        exact (s2.ext R3 E4).ext R4 E5
      · rw [if_neg c1, if_neg c2]
        have : valV [((Sum.inr k1 : Key), v1), ((Sum.inr k2 : Key), v2)] (.inr s) = none := by simp [valV, Ne.symm c1, Ne.symm c2]
        rw [this]
        exact r5
  | _ => simp [evDgt] at hd
end
end EV
/-! EvG: what is walked, targets, comprehensions. -/
namespace EV
open PySem PySem.Spec PyProof.Rows L2

section
variable {K : PySem.W.Frag} {g : G} {μ μ' μ1 : List Addr} {st st' st1 : Store} {H H' H1 : Hp} {d : D} {v : V} {ds es : List D} {vs us : List V} {a : Addr}
/-- a sequence that no step changes -/
inductive Sq1 : D → Bool → List D → Prop
  | tup (ds : List D) : Sq1 (.tup ds) true ds
  | lst (ds : List D) : Sq1 (.lst ds) false ds
  | rol (ds : List D) : Sq1 (.rol ds) false ds
theorem Rep.sqK (R : Rel K g μ st H) {tp : Bool} (s : Sq1 d tp ds) (r : Rep K g μ st H d v) : ∃ a xs, v = .ref a ∧ ds.length ≤ most ∧ Reps K g μ st H ds xs ∧ ∀ μ' st' H', Ext μ st H μ' st' H' → SqK tp K H' a xs := by
  cases s with
  | tup ds =>
    cases r with
    | tup h l r => exact ⟨_, _, rfl, l, r, fun _ _ _ E => E.seqT R h⟩
  | lst ds =>
    cases r with
    | lst h n nh l r => exact ⟨_, _, rfl, l, r, fun _ _ _ E => .inl (E.rd h n).1⟩
  | rol ds =>
    cases r with
    | lstK h l r => exact ⟨_, _, rfl, l, r, fun _ _ _ E => .inr h⟩
    | rol h l r => exact ⟨_, _, rfl, l, r, fun _ _ _ E => .inl (.inr ⟨_, E.keep _ _ h (R.notLive h fun z => z)⟩)⟩
def ItSq (tp : Bool) (K : PySem.W.Frag) (a : Addr) : It := match tp with
  | true => Itt K a
  | false => Itl K a
theorem walk_sq {tp : Bool} {xs : List V} : Walk (ItSq tp K a) xs.length (fun H => SqK tp K H a xs) (YAt xs) := by
  cases tp with
  | true => exact walk_tup
  | false => exact walk_list
/-- its own items -/
theorem iter_sq (R : Rel K g μ st H) {tp : Bool} {xs : List V} (l : ds.length ≤ most) (r : Reps K g μ st H ds xs) (q : ∀ μ' st' H', Ext μ st H μ' st' H' → SqK tp K H' a xs) : IterOk K g μ st H ds (ItSq tp K a) := by
  refine ⟨l, _, _, by rw [r.length]; exact walk_sq, fun μ' st' H' E => q _ _ _ E, fun i x H1 H2 d l μ1 st1 hl E R1 hd y => ?_⟩
  obtain ⟨rfl, hx⟩ := y
  obtain ⟨v, hv, rv⟩ := r.get hd
  rw [hx] at hv
  cases hv
  exact ⟨Ext.refl R1.len, R1, rv.extH R E hl⟩
theorem iter_rng (R : Rel K g μ st H) {lo : Int} {n : Nat} (l : n ≤ most) : IterOk K g μ st H ((List.range n).map fun (i : Nat) => .int (lo + (i : Int))) (Itr lo n) := by
  have e : ((List.range n).map fun (i : Nat) => D.int (lo + (i : Int))).length = n := by simp
  refine ⟨by rw [e]; exact l, _, _, by rw [e]; exact walk_range, fun _ _ _ _ => trivial, fun i x H1 H2 d l μ1 st1 hl E R1 hd y => ?_⟩
  obtain ⟨rfl, hx⟩ := y
  subst hx
  rw [List.getElem?_map] at hd
  obtain ⟨j, hj, rfl⟩ := Option.map_eq_some_iff.mp hd
  have : j = i := by
    rw [List.getElem?_range] at hj
    · exact (Option.some.inj hj).symm
    · by_cases h : i < n
      · exact h
      · rw [List.getElem?_eq_none (by simp; omega)] at hj; cases hj
  subst this
  exact ⟨Ext.refl R1.len, R1, .int _⟩
theorem iter_enm (R : Rel K g μ st H) {tp : Bool} {xs : List V} (l : ds.length ≤ most) (r : Reps K g μ st H ds xs) (q : ∀ μ' st' H', Ext μ st H μ' st' H' → SqK tp K H' a xs) : IterOk K g μ st H (ds.mapIdx fun i d => .tup [.int i, d]) (IteK tp K a) := by
  refine ⟨by simp; exact l, _, _, by rw [List.length_mapIdx, r.length]; exact walk_enumK, fun μ' st' H' E => q _ _ _ E, fun i x H1 H2 d l μ1 st1 hl E R1 hd y => ?_⟩
  obtain ⟨T, y1, y2, rfl, hT, rfl, h1, h2⟩ := y
  rw [List.getElem?_mapIdx] at hd
  obtain ⟨d0, hd0, rfl⟩ := Option.map_eq_some_iff.mp hd
  obtain ⟨v, hv, rv⟩ := r.get hd0
  have h2 : xs[i]? = some y2 := h2
  have h1 : some (V.int (i : Nat)) = some y1 := h1
  rw [h2] at hv
  cases hv
  cases h1
  obtain ⟨E2, R2, r2⟩ := new_tup R1 (ds := [.int i, d0]) hT (by simp [most]) (.cons (.int _) (.one (rv.extH R E hl)))
  exact ⟨E2, R2, r2⟩
theorem iter_zip (R : Rel K g μ st H) {tp tq : Bool} {xs ys : List V} {b : Addr} (l : ds.length ≤ most) (r : Reps K g μ st H ds xs) (r' : Reps K g μ st H es ys) (q : ∀ μ' st' H', Ext μ st H μ' st' H' → SqK tp K H' a xs) (q' : ∀ μ' st' H', Ext μ st H μ' st' H' → SqK tq K H' b ys) :
    IterOk K g μ st H (List.zipWith (fun p q => .tup [p, q]) ds es) (ItzK tp tq K a b) := by
  refine ⟨by rw [List.length_zipWith]; omega, _, _, by rw [List.length_zipWith, r.length, r'.length]; exact walk_zipK rfl, fun μ' st' H' E => And.intro (q _ _ _ E) (q' _ _ _ E), fun i x H1 H2 d l μ1 st1 hl E R1 hd y => ?_⟩
  obtain ⟨T, y1, y2, rfl, hT, rfl, h1, h2⟩ := y
  rw [List.getElem?_zipWith] at hd
  split at hd
  · rename_i d1 d2 e1 e2
    cases hd
    obtain ⟨v, hv, rv⟩ := r.get e1
    obtain ⟨w, hw, rw'⟩ := r'.get e2
    have h1 : xs[i]? = some y1 := h1
    have h2 : ys[i]? = some y2 := h2
    rw [h1] at hv
    rw [h2] at hw
    cases hv
    cases hw
    obtain ⟨E2, R2, r2⟩ := new_tup R1 (ds := [d1, d2]) hT (by simp [most]) (.cons (rv.extH R E hl) (.one (rw'.extH R E hl)))
    exact ⟨E2, R2, r2⟩
  · cases hd
theorem Ext.grow {L : Addr} {o : HO} (E : Ext μ st H μ' st' H') (n : H L = none) : Ext μ st H μ' st' (upd H' L o) := by
  refine ⟨E.len, E.pre, fun a u h nl nt => ?_, E.gone, fun a u h => ?_⟩
  · rw [upd_ne (ne_of_none h n)]; exact E.keepN a u h nl nt
  · rw [upd_ne (ne_of_none h n)]; exact E.here a u h
theorem Ext.adopt {L : Addr} {o : O} (E : Ext μ st H μ' st' H') (n : H L = none) : Ext μ st H (μ' ++ [L]) (st' ++ [o]) H' := by
  obtain ⟨more, e, h⟩ := E.pre
  refine ⟨E.len, ⟨more ++ [L], by rw [e, List.append_assoc], fun a ha => ?_⟩, E.keepN, fun l h => ?_, E.here⟩
  · rcases List.mem_append.mp ha with z | z
    · exact h a z
    · rw [List.mem_singleton.mp z]; exact n
  · have := E.gone l h
    rw [List.getElem?_append_left (List.getElem?_eq_some_iff.mp this).1]; exact this
end

section
variable {g : G} {cf : Call} {Γ : Gm} {X : Cx} {W : WX} {e e2 ea eb ec etg : Expr} {es : List Expr} {pos p : Pos} {a b c x y : EV.X} {xs : Xs}

/-! ### what is walked -/
def iSq (K : PySem.W.Frag) (tl : TE) : TI := fun σ H R => tl σ H fun x H1 => ∃ tp a, x = .ref a ∧ (∃ xs, SqK tp K H1 a xs) ∧ R (ItSq tp K a) H1
theorem pi_sq {l : Expr} {tl : TE} (hl : PE X l tl) : PI X etg l (iSq X.K tl) := by
  refine ⟨fun pins s σ H R I h => ?_⟩
  refine thn (hl.run pins s σ H _ I h) fun v s1 ⟨x, H1, I1, r1, q1⟩ => ?_
  obtain ⟨tp, a, e, ⟨xs, hq⟩, q⟩ := q1
  subst e
  cases r1
  cases tp with
  | false =>
    obtain ⟨its, rv, p, hz⟩ := I1.list hq
    refine wpAny_pyIter_list p.isList ?_
    refine ⟨s1.heap.objs.size, [s1.heap.objs.size], _, _, H1, rfl, I1.kept (t' := s1.toks) fun b o e => Heap.get?_push_of_some _ e, turn_list a _, ⟨_, Heap.get?_push_size _ rfl, rfl, rfl⟩, fun b hb => ?_, q⟩
    have e : b = s1.heap.objs.size := by simpa using hb
    subst e
    exact I1.fpOk (Nat.le_refl _) (I1.hok.fresh (Nat.le_refl _))
  | true =>
    obtain ⟨its, rv, p, hz⟩ := I1.tuple hq
    refine wpAny_pyIter_tuple (show s1.heap.IsTuple a its.toArray from p) ?_
    refine ⟨s1.heap.objs.size, [s1.heap.objs.size], _, _, H1, rfl, I1.kept (t' := s1.toks) fun b o e => Heap.get?_push_of_some _ e, turn_tuple a _, ⟨_, Heap.get?_push_size _ rfl, rfl, rfl⟩, fun b hb => ?_, q⟩
    have e : b = s1.heap.objs.size := by simpa using hb
    subst e
    exact I1.fpOk (Nat.le_refl _) (I1.hok.fresh (Nat.le_refl _))
theorem i_val (ha : PE X e (rdX X.K g (evX cf a) W)) : PI X etg e (rdI X.K g (evSr cf (.val a)) W) := by
  refine (pi_sq ha).imp fun σ H Q ⟨l, e, st, μ, R, S, P⟩ => ?_
  rw [evSr] at P
  refine ⟨l, e, st, μ, R, S, P.seq fun x st1 μ1 H1 v1 E1 R1 r1 P1 => ?_⟩
  have key : ∀ tp ds, Sq1 x tp ds → Post X.K (g.h l) (IterOk X.K (g.h l)) μ1 st1 H1 (EV.R.ok ds st1) Q (fun c d H' => W c d σ H') → ∃ tp a, v1 = .ref a ∧ (∃ xs, SqK tp X.K H1 a xs) ∧ Q (ItSq tp X.K a) H1 := by
    intro tp ds s P
    obtain ⟨a, xs, rfl, l1, rs, q⟩ := r1.sqK R1 s
    exact ⟨tp, a, rfl, ⟨xs, q _ _ _ (Ext.refl R1.len)⟩, P.here R1 (iter_sq R1 l1 rs q)⟩
  cases x with
  | tup ds => exact key _ _ (.tup ds) P1
  | lst ds => exact key _ _ (.lst ds) P1
  | rol ds => exact key _ _ (.rol ds) P1
  | _ => exact P1.elim
theorem i_rng (G : Good g cf Γ X W) (h1 : glb Γ.sc "range" = true) (hs : (!isStar e) = true) (ha : PE X e (rdX X.K g (evX cf a) W)) : PI X etg (.Call (.Name "range" p) [e] [] pos) (rdI X.K g (evSr cf (.rng a)) W) := by
  refine (pi_range1 (G.gl h1) (G.bn _ (by decide)) (pa_cons ha pa_nil (star_one hs)) (star_one hs)).imp fun σ H Q ⟨l, e, st, μ, R, S, P⟩ => ?_
  rw [evSr] at P
  refine ⟨l, e, st, μ, R, S, P.seq fun x st1 μ1 H1 v1 E1 R1 r1 P1 => ?_⟩
  cases x with
  | int n =>
    cases r1
    simp only [] at P1
    split at P1
    · rename_i hb
      simp only [decide_eq_true_eq] at hb
      unfold most at hb
      refine ⟨n, rfl, hb.2, by omega, ?_⟩
      have i := iter_rng (K := X.K) (g := g.h l) (lo := 0) (n := n.toNat) R1 (by unfold most; omega)
      simp only [Int.zero_add] at i
      exact P1.here R1 i
    · exact P1.elim
  | _ => exact P1.elim
theorem i_rng2 (G : Good g cf Γ X W) (h1 : glb Γ.sc "range" = true) (hs : (!isStar e) = true) (hs2 : (!isStar e2) = true) (ha : PE X e (rdX X.K g (evX cf a) W)) (hb : PE X e2 (rdX X.K g (evX cf b) W)) :
    PI X etg (.Call (.Name "range" p) [e, e2] [] pos) (rdI X.K g (evSr cf (.rng2 a b)) W) := by
  refine (pi_range2 (G.gl h1) (G.bn _ (by decide)) (pa_cons ha (pa_cons hb pa_nil (star_one hs2)) (star_one hs)) (by rw [star_one hs, star_one hs2]; rfl) (star_one hs2)).imp fun σ H Q ⟨l, e, st, μ, R, S, P⟩ => ?_
  rw [evSr] at P
  refine ⟨l, e, st, μ, R, S, P.seq fun x st1 μ1 H1 v1 E1 R1 r1 P1 => ⟨l, e, st1, μ1, R1, S.ext R E1, P1.seq fun y st2 μ2 H2 v2 E2 R2 r2 P2 => ?_⟩⟩
  cases x with
  | int lo =>
    cases y with
    | int hi =>
      cases r1
      cases r2
      simp only [] at P2
      split at P2
      · rename_i hb
        simp only [decide_eq_true_eq] at hb
        exact ⟨lo, hi, rfl, ⟨hb.1, hb.2.1, hb.2.2.1, hb.2.2.2.1⟩, P2.here R2 (iter_rng R2 (by have := hb.2.2.2.2; unfold most at this ⊢; omega))⟩
      · exact P2.elim
    | _ => exact P2.elim
  | _ => exact P2.elim
theorem i_enm {elts : List Expr} {kk : Nat} {tpos : Pos} (G : Good g cf Γ X W) (h1 : glb Γ.sc "enumerate" = true) (hs : (!isStar e) = true) (ha : PE X e (rdX X.K g (evX cf a) W)) :
    PI X (.Tuple elts kk tpos) (.Call (.Name "enumerate" p) [e] [] pos) (rdI X.K g (evSr cf (.enm a)) W) := by
  refine (pi_enumK (G.gl h1) (G.bn _ (by decide)) (pa_cons ha pa_nil (star_one hs)) (star_one hs)).imp fun σ H Q ⟨l, e, st, μ, R, S, P⟩ => ?_
  rw [evSr] at P
  refine ⟨l, e, st, μ, R, S, P.seq fun x st1 μ1 H1 v1 E1 R1 r1 P1 => ?_⟩
  have key : ∀ tp ds, Sq1 x tp ds → Post X.K (g.h l) (IterOk X.K (g.h l)) μ1 st1 H1 (EV.R.ok (ds.mapIdx fun i d => D.tup [.int i, d]) st1) Q (fun c d H' => W c d σ H') → ∃ tp a xs, [v1] = [.ref a] ∧ SqK tp X.K H1 a xs ∧ Q (IteK tp X.K a) H1 := by
    intro tp ds s P
    obtain ⟨a, xs, rfl, l1, rs, q⟩ := r1.sqK R1 s
    exact ⟨tp, a, xs, rfl, q _ _ _ (Ext.refl R1.len), P.here R1 (iter_enm R1 l1 rs q)⟩
  cases x with
  | tup ds => exact key _ _ (.tup ds) P1
  | lst ds => exact key _ _ (.lst ds) P1
  | _ => exact P1.elim
theorem i_zip {elts : List Expr} {kk : Nat} {tpos : Pos} (G : Good g cf Γ X W) (h1 : glb Γ.sc "zip" = true) (hs : (!isStar e) = true) (hs2 : (!isStar e2) = true) (ha : PE X e (rdX X.K g (evX cf a) W)) (hb : PE X e2 (rdX X.K g (evX cf b) W)) :
    PI X (.Tuple elts kk tpos) (.Call (.Name "zip" p) [e, e2] [] pos) (rdI X.K g (evSr cf (.zip a b)) W) := by
  refine (pi_zipK (G.gl h1) (G.bn _ (by decide)) (pa_cons ha (pa_cons hb pa_nil (star_one hs2)) (star_one hs)) (star_one hs) (star1B hs2)).imp fun σ H Q ⟨l, e, st, μ, R, S, P⟩ => ?_
  rw [evSr] at P
  refine ⟨l, e, st, μ, R, S, P.seq fun x st1 μ1 H1 v1 E1 R1 r1 P1 => ⟨l, e, st1, μ1, R1, S.ext R E1, P1.seq fun y st2 μ2 H2 v2 E2 R2 r2 P2 => ?_⟩⟩
  have key : ∀ tp ds tq es, Sq1 x tp ds → Sq1 y tq es → Post X.K (g.h l) (IterOk X.K (g.h l)) μ2 st2 H2 (EV.R.ok (List.zipWith (fun p q => D.tup [p, q]) ds es) st2) Q (fun c d H' => W c d σ H') →
      ∃ tp tq a b xs ys, [v1, v2] = [.ref a, .ref b] ∧ SqK tp X.K H2 a xs ∧ SqK tq X.K H2 b ys ∧ Q (ItzK tp tq X.K a b) H2 := by
    intro tp ds tq es s s' P
    obtain ⟨a, xs, rfl, l1, rs, q⟩ := (r1.ext R1 E2).sqK R2 s
    obtain ⟨b, ys, rfl, l2, rs2, q2⟩ := r2.sqK R2 s'
    exact ⟨tp, tq, a, b, xs, ys, rfl, q _ _ _ (Ext.refl R2.len), q2 _ _ _ (Ext.refl R2.len), P.here R2 (iter_zip R2 l1 rs rs2 q q2)⟩
  cases x with
  | tup ds =>
    cases y with
    | tup es => exact key _ _ _ _ (.tup ds) (.tup es) P2
    | lst es => exact key _ _ _ _ (.tup ds) (.lst es) P2
    | _ => exact P2.elim
  | lst ds =>
    cases y with
    | tup es => exact key _ _ _ _ (.lst ds) (.tup es) P2
    | lst es => exact key _ _ _ _ (.lst ds) (.lst es) P2
    | _ => exact P2.elim
  | _ => exact P2.elim

/-! ### isinstance, frz -/
theorem boot_tyc (t : Tyc) : bootBuiltins (Str.ofString (tyName t)) = some (.type (tyName t)) := by cases t <;> decide +kernel
theorem tyc_mem (t : Tyc) : Str.ofString (tyName t) ∈ bnames := by cases t <;> decide +kernel
theorem c_isi {t : Tyc} {p2 : Pos} (G : Good g cf Γ X W) (h1 : glb Γ.sc "isinstance" = true) (h2 : glb Γ.sc (Str.ofString (tyName t)) = true) (hs : (!isStar e) = true) (ha : PE X e (rdX X.K g (evX cf a) W)) :
    PE X (.Call (.Name "isinstance" p) [e, .Name (Str.ofString (tyName t)) p2] [] pos) (rdX X.K g (evX cf (.isi a t)) W) := by
  refine (pe_callB call_isi (G.gl h1) (G.bn _ (by decide)) (by decide +kernel) (pa_cons ha (pa_cons (pe_bltn (v := .ty (tyName t)) (G.gl h2) (G.bn _ (tyc_mem t)) (boot_tyc t) rfl (by cases t <;> decide +kernel) (by cases t <;> decide +kernel)) pa_nil rfl) (star_one hs)) (by decide) (by decide) (star_one hs) (by rfl)).imp fun σ H Q ⟨l, e, st, μ, R, S, P⟩ => ?_
  rw [evX] at P
  refine ⟨l, e, st, μ, R, S, P.seq fun x st1 μ1 H1 v1 E1 R1 r1 P1 => ?_⟩
  obtain ⟨d, hd, P2⟩ := P1.ofOpt
  obtain ⟨k, hk, rfl⟩ := Option.map_eq_some_iff.mp hd
  obtain ⟨T, ty, kt⟩ := isi_ty (t := t) R1 r1 hk
  exact ⟨v1, .ty (tyName t), .type T, .type (tyName t), k, rfl, .ty _, ty, kit_ty kt, P2.here R1 (.bl k)⟩
theorem c_frz (ha : PE X e (rdX X.K g (evX cf a) W)) : PE X e (rdX X.K g (evX cf (.frz a)) W) := by
  refine ha.imp fun σ H Q ⟨l, e, st, μ, R, S, P⟩ => ?_
  rw [evX] at P
  refine ⟨l, e, st, μ, R, S, P.seq fun x st1 μ1 H1 v1 E1 R1 r1 P1 => ?_⟩
  cases x with
  | loc i =>
    simp only [] at P1
    split at P1
    · rename_i ds hds
      cases r1 with
      | loc h =>
        obtain ⟨E2, R2, r2⟩ := frz_loc R1 h hds
        exact P1 _ _ _ E2 R2 r2
    · exact P1.elim
  | _ => exact P1.elim

/-! ### targets -/
/-- a target takes a value; what it leaves of the other slots -/
def rdG (K : PySem.W.Frag) (g : G) (tg : Tg) : TG := fun v σ H Q => ∃ l μ st e d e', Rel K (g.h l) μ st H ∧ SlRep K (g.h l) μ st H e σ ∧ Rep K (g.h l) μ st H d v ∧ evTg tg d e = some e' ∧
  ∀ σ', SlRep K (g.h l) μ st H e' σ' → σ'.length = σ.length → (∀ j, j ∉ tg.slots → σ'[j]? = σ[j]?) → Q σ' H
def rdGs (K : PySem.W.Frag) (g : G) (ts : Tgs) : TGs := fun vs σ H Q => ∃ l μ st e ds e', Rel K (g.h l) μ st H ∧ SlRep K (g.h l) μ st H e σ ∧ Reps K (g.h l) μ st H ds vs ∧ evTgs ts ds e = some e' ∧
  ∀ σ', SlRep K (g.h l) μ st H e' σ' → σ'.length = σ.length → (∀ j, j ∉ ts.slots → σ'[j]? = σ[j]?) → Q σ' H
theorem each_one {t : Tg} {e : Expr} {es : List Expr} {env : Env} (h : chkTg Γ t e = true) : assignEach (e :: es) env = (false, assign e env) :: assignEach es env := by
  cases t <;> cases e <;> first | rfl | (simp [chkTg] at h)
theorem each_all {env : Env} : ∀ {ts : Tgs} {es : List Expr}, chkTgs Γ ts es = true → (assignEach es env).length = es.length ∧ (assignEach es env).findIdx? (·.1) = none
  | .nil, [], _ => ⟨rfl, rfl⟩
  | .nil, _ :: _, h => by simp [chkTgs] at h
  | .cons _ _, [], h => by simp [chkTgs] at h
  | .cons t ts, e :: es, h => by
    simp only [chkTgs, Bool.and_eq_true] at h
    obtain ⟨h1, h2⟩ := each_all (env := env) h.2
    rw [each_one h.1]
    refine ⟨by rw [List.length_cons, List.length_cons, h1], ?_⟩
    rw [List.findIdx?_cons, h2]
    rfl
def Tgs.len : Tgs → Nat
  | .nil => 0
  | .cons _ ts => ts.len + 1
theorem chkTgs_len : ∀ {ts : Tgs} {es : List Expr}, chkTgs Γ ts es = true → es.length = ts.len
  | .nil, [], _ => rfl
  | .nil, _ :: _, h => by simp [chkTgs] at h
  | .cons _ _, [], h => by simp [chkTgs] at h
  | .cons t ts, e :: es, h => by
    simp only [chkTgs, Bool.and_eq_true] at h
    rw [List.length_cons, chkTgs_len h.2, Tgs.len]
theorem evTgs_len : ∀ {ts : Tgs} {ds : List D} {e e' : Sl}, evTgs ts ds e = some e' → ds.length = ts.len
  | .nil, [], _, _, _ => rfl
  | .nil, _ :: _, _, _, h => by simp [evTgs] at h
  | .cons _ _, [], _, _, h => by simp [evTgs] at h
  | .cons t ts, d :: ds, e, e', h => by
    rw [evTgs] at h
    obtain ⟨e1, _, h2⟩ := Option.bind_eq_some_iff.mp h
    rw [List.length_cons, evTgs_len h2, Tgs.len]
/-- a tuple or a list of that length -/
def gTL (K : PySem.W.Frag) (n : Nat) (t : TGs) : TG := fun v σ H Q => gTup K n t v σ H Q ∨ gUnl K n t v σ H Q
theorem pg_tl {es : List Expr} {k : Nat} {t : TGs} {n : Nat} (hc : X.calm = true) (h : PGs X es t) (hn : (assignEach es X.env).length = n) (hst : (assignEach es X.env).findIdx? (·.1) = none) : PG X (.Tuple es k pos) (gTL X.K n t) :=
  ⟨fun pins s σ H v u Q I r hw => match hw with
    | .inl w => (pg_tup hc h hn hst).run pins s σ H v u Q I r w
    | .inr w => (pg_unl hc h hn hst).run pins s σ H v u Q I r w⟩
mutual
theorem tgOk (G : Good g cf Γ X W) : ∀ {t : Tg} {e : Expr}, chkTg Γ t e = true → PG X e (rdG X.K g t)
  | .name i, .Name x p, h => by
    simp only [chkTg, Bool.and_eq_true, decide_eq_true_eq] at h
    obtain ⟨h1, h2⟩ := G.loc h.2
    refine (pg_name G.nd (by rw [G.N]; exact h.1) h1 h2).imp fun v σ H Q ⟨l, μ, st, e, d, e', R, S, r, q, k⟩ => ?_
    rw [evTg] at q
    split at q
    · cases q
      refine k _ (S.set r i) (by rw [List.length_set]) fun j hj => ?_
      rw [List.getElem?_set_ne]
      intro z
      subst z
      exact hj (by simp [Tg.slots])
    · cases q
  | .tup ts, .Tuple es k pos, h => by
    simp only [chkTg, Bool.and_eq_true] at h
    refine (pg_tl (n := es.length) (G.calm h.1) (tgsOk G h.2) (each_all h.2).1 (each_all h.2).2).imp fun v σ H Q ⟨l, μ, st, e, d, e', R, S, r, q, k⟩ => ?_
    cases d with
    | tup ds =>
      rw [evTg] at q
      obtain ⟨a, xs, rfl, h1, h2, h3⟩ := r.seqT
      refine .inl ⟨a, xs, rfl, h1, ?_, l, μ, st, e, ds, e', R, S, h3, q, fun σ' s' hl hj => k σ' s' hl fun j z => hj j (by rw [Tg.slots] at z; exact z)⟩
      rw [← h3.length, evTgs_len q, chkTgs_len h.2]
    | lst ds =>
      rw [evTg] at q
      obtain ⟨a, xs, rfl, h1, h2, h3⟩ := r.seqL
      refine .inr ⟨a, xs, rfl, h1, ?_, l, μ, st, e, ds, e', R, S, h3, q, fun σ' s' hl hj => k σ' s' hl fun j z => hj j (by rw [Tg.slots] at z; exact z)⟩
      rw [← h3.length, evTgs_len q, chkTgs_len h.2]
    | _ => simp [evTg] at q
  | .name i, .Tuple _ _ _, h => by simp [chkTg] at h
  | .tup _, .Name _ _, h => by simp [chkTg] at h
  | .name _, .BoolOp .., h | .name _, .NamedExpr .., h | .name _, .BinOp .., h | .name _, .UnaryOp .., h | .name _, .Lambda .., h | .name _, .IfExp .., h | .name _, .Dict .., h | .name _, .Set .., h | .name _, .ListComp .., h
  | .name _, .SetComp .., h | .name _, .DictComp .., h | .name _, .GeneratorExp .., h | .name _, .Await .., h | .name _, .Yield .., h | .name _, .YieldFrom .., h | .name _, .Compare .., h | .name _, .Call .., h | .name _, .FormattedValue .., h | .name _, .JoinedStr .., h
  | .name _, .Constant .., h | .name _, .Attribute .., h | .name _, .Subscript .., h | .name _, .Starred .., h | .name _, .List .., h | .name _, .Slice .., h => by simp [chkTg] at h
  | .tup _, .BoolOp .., h | .tup _, .NamedExpr .., h | .tup _, .BinOp .., h | .tup _, .UnaryOp .., h | .tup _, .Lambda .., h | .tup _, .IfExp .., h | .tup _, .Dict .., h | .tup _, .Set .., h | .tup _, .ListComp .., h
  | .tup _, .SetComp .., h | .tup _, .DictComp .., h | .tup _, .GeneratorExp .., h | .tup _, .Await .., h | .tup _, .Yield .., h | .tup _, .YieldFrom .., h | .tup _, .Compare .., h | .tup _, .Call .., h | .tup _, .FormattedValue .., h | .tup _, .JoinedStr .., h
  | .tup _, .Constant .., h | .tup _, .Attribute .., h | .tup _, .Subscript .., h | .tup _, .Starred .., h | .tup _, .List .., h | .tup _, .Slice .., h => by simp [chkTg] at h
theorem tgsOk (G : Good g cf Γ X W) : ∀ {ts : Tgs} {es : List Expr}, chkTgs Γ ts es = true → PGs X es (rdGs X.K g ts)
  | .nil, [], _ => by
    refine pgs_nil.imp fun vs σ H Q ⟨l, μ, st, e, ds, e', R, S, r, q, k⟩ => ?_
    cases ds with
    | nil =>
      cases r
      rw [evTgs] at q
      cases q
      exact ⟨rfl, k σ S rfl fun _ _ => rfl⟩
    | cons _ _ => simp [evTgs] at q
  | .nil, _ :: _, h => by simp [chkTgs] at h
  | .cons _ _, [], h => by simp [chkTgs] at h
  | .cons t ts, e :: es, h => by
    simp only [chkTgs, Bool.and_eq_true] at h
    refine (pgs_cons (tgOk G h.1) (tgsOk G h.2) (by rw [each_one h.1]; rfl)).imp fun vs σ H Q ⟨l, μ, st, e, ds, e', R, S, r, q, k⟩ => ?_
    cases ds with
    | nil => simp [evTgs] at q
    | cons d ds =>
      rw [evTgs] at q
      obtain ⟨e1, q1, q2⟩ := Option.bind_eq_some_iff.mp q
      cases r with
      | cons r rr =>
        refine ⟨_, _, rfl, l, μ, st, e, d, e1, R, S, r, q1, fun σ1 S1 l1 j1 => ⟨l, μ, st, e1, ds, e', R, S1, rr, q2, fun σ2 S2 l2 j2 => k σ2 S2 (l2.trans l1) fun j hj => ?_⟩⟩
        rw [Tgs.slots, List.mem_append, not_or] at hj
        rw [j2 j hj.2, j1 j hj.1]
end
end
end EV
/-! EvU: dicts: of ints, and of nested tuples (HO.ext, dctF); list.index; l[::-1]. -/
namespace EV
open PySem PySem.Spec PyProof.Rows L2

/-! ### keys -/
mutual
theorem nk_beq : ∀ a b : D, a.nk = true → b.nk = true → (a.key = b.key ↔ D.beq a b = true)
  | .int i, b, _, hb => by
    cases b <;> simp [D.nk] at hb <;> simp [D.key, D.beq]
  | .tup ds, b, ha, hb => by
    cases b <;> simp [D.nk] at hb
    · simp [D.key, D.beq]
    · rename_i es
      rw [D.nk] at ha
      rw [D.key, D.key, D.beq, ← nks_beq ds es ha hb]
      constructor
      · intro h; injection h
      · intro h; rw [h]
  | .non, _, h, _ => by simp [D.nk] at h
  | .bl _, _, h, _ => by simp [D.nk] at h
  | .str _, _, h, _ => by simp [D.nk] at h
  | .lst _, _, h, _ => by simp [D.nk] at h
  | .dct _ _, _, h, _ => by simp [D.nk] at h
  | .rol _, _, h, _ => by simp [D.nk] at h
  | .loc _, _, h, _ => by simp [D.nk] at h
  | .fn _, _, h, _ => by simp [D.nk] at h
theorem nks_beq : ∀ a b : List D, D.nks a = true → D.nks b = true → (D.keys a = D.keys b ↔ D.beqs a b = true)
  | [], [], _, _ => by simp [D.keys, D.beqs]
  | [], _ :: _, _, _ => by simp [D.keys, D.beqs]
  | _ :: _, [], _, _ => by simp [D.keys, D.beqs]
  | x :: xs, y :: ys, ha, hb => by
    rw [D.nks, Bool.and_eq_true] at ha hb
    rw [D.keys, D.keys, D.beqs, Bool.and_eq_true, ← nk_beq x y ha.1 hb.1, ← nks_beq xs ys ha.2 hb.2]
    constructor
    · intro h; injection h with h1 h2; exact ⟨h1, h2⟩
    · rintro ⟨h1, h2⟩; rw [h1, h2]
end
mutual
theorem key_dep : ∀ a : D, a.nk = true → a.key.depth ≤ a.dep
  | .int i, _ => by simp [D.key, NestedKey.depth]
  | .tup ds, h => by
    rw [D.nk] at h
    rw [D.key, NestedKey.depth, D.dep]
    have := keys_dep ds h
    omega
  | .non, h => by simp [D.nk] at h
  | .bl _, h => by simp [D.nk] at h
  | .str _, h => by simp [D.nk] at h
  | .lst _, h => by simp [D.nk] at h
  | .dct _ _, h => by simp [D.nk] at h
  | .rol _, h => by simp [D.nk] at h
  | .loc _, h => by simp [D.nk] at h
  | .fn _, h => by simp [D.nk] at h
theorem keys_dep : ∀ a : List D, D.nks a = true → NestedKey.depthAll (D.keys a) ≤ D.deps a
  | [], _ => by simp [D.keys, NestedKey.depthAll]
  | x :: xs, h => by
    rw [D.nks, Bool.and_eq_true] at h
    rw [D.keys, NestedKey.depthAll, D.deps]
    have h1 := key_dep x h.1
    have h2 := keys_dep xs h.2
    omega
end
theorem keyT {k : D} (h : keyOk true k = true) : k.nk = true ∧ k.key.depth ≤ 8 := by
  cases k <;> simp [keyOk] at h
  rename_i ds
  have hn : D.nk (.tup ds) = true := by rw [D.nk]; exact h.1
  refine ⟨hn, Nat.le_trans (key_dep _ hn) ?_⟩
  rw [D.dep]; have := h.2; omega
section
variable {X : Cx} {pins : List (Addr × Obj)} {σ : L2.St} {H : Hp} {s : Shared} {g : G} {μ : List Addr} {st : Store}
mutual
theorem nk_is (I : Inv X pins σ H s) : ∀ {d : D} {v : V} {u : Value}, Rep X.K g μ st H d v → d.nk = true → RelV v u → NestedIs s.heap d.key u
  | _, _, u, .int i, _, r => by
    obtain ⟨t, rfl⟩ := r
    rw [D.key]; exact .int i t
  | _, _, u, .tup h _ rr, hn, r => by
    cases (show u = Value.ref _ from r)
    rw [D.nk] at hn
    obtain ⟨its, rv, ⟨o, h1, h2, n, h3⟩, _⟩ := I.tuple h
    rw [D.key]
    exact .tup h1 h2 h3 (by simpa using nks_is I rr hn rv)
  | _, _, _, .non, hn, _ => by simp [D.nk] at hn
  | _, _, _, .bl _, hn, _ => by simp [D.nk] at hn
  | _, _, _, .str _, hn, _ => by simp [D.nk] at hn
  | _, _, _, .lst _ _ _ _ _, hn, _ => by simp [D.nk] at hn
  | _, _, _, .lstK _ _ _, hn, _ => by simp [D.nk] at hn
  | _, _, _, .rol _ _ _, hn, _ => by simp [D.nk] at hn
  | _, _, _, .dct _ _ _ _ _, hn, _ => by simp [D.nk] at hn
  | _, _, _, .loc _, hn, _ => by simp [D.nk] at hn
  | _, _, _, .fn _, hn, _ => by simp [D.nk] at hn
theorem nks_is (I : Inv X pins σ H s) : ∀ {ds : List D} {vs : List V} {us : List Value}, Reps X.K g μ st H ds vs → D.nks ds = true → Vals vs us → NestedAll s.heap (D.keys ds) us
  | _, _, _, .nil, _, .nil => .nil
  | _, _, _, .cons r rr, hn, .cons q qq => by
    rw [D.nks, Bool.and_eq_true] at hn
    rw [D.keys]
    exact .cons (nk_is I r hn.1 q) (nks_is I rr hn.2 qq)
end
end

/-! ### the entries -/
def valE (es : List (NestedKey × Addr × V)) (k : NestedKey) : Option V := (es.find? fun e => decide (e.1 = k)).map (·.2.2)
def putE (es : List (NestedKey × Addr × V)) (k : NestedKey) (b : Addr) (v : V) : List (NestedKey × Addr × V) := if (es.find? fun e => decide (e.1 = k)).isSome then es.map fun e => if e.1 = k then (e.1, e.2.1, v) else e else es ++ [(k, b, v)]
abbrev PrE : List (NestedKey × Addr × V) → List (NestedKey × Addr × Value) → Prop := Paired fun p q => p.1 = q.1 ∧ p.2.1 = q.2.1 ∧ RelV p.2.2 q.2.2
theorem PrE.find {es : List (NestedKey × Addr × V)} {xs : List (NestedKey × Addr × Value)} (r : PrE es xs) (k : NestedKey) : RelO (valE es k) ((atKey xs k).map (·.2)) ∧ (es.find? fun e => decide (e.1 = k)).isSome = (atKey xs k).isSome := by
  induction r with
  | nil => exact ⟨trivial, rfl⟩
  | @cons p q es xs h t ih =>
    obtain ⟨h1, h2, h3⟩ := h
    by_cases c : p.1 = k
    · have c2 : q.1 = k := h1 ▸ c
      simp [valE, atKey, List.find?_cons, c, c2, RelO, h3]
    · have c2 : ¬ q.1 = k := h1 ▸ c
      simpa [valE, atKey, List.find?_cons, c, c2] using ih
theorem PrE.repl {k : NestedKey} {v : V} {u : Value} (rv : RelV v u) : ∀ {es : List (NestedKey × Addr × V)} {xs : List (NestedKey × Addr × Value)}, PrE es xs → PrE (es.map fun e => if e.1 = k then (e.1, e.2.1, v) else e) (xs.map (putAt k u))
  | _, _, .nil => .nil
  | _, _, .cons (a := p) (b := q) ⟨h1, h2, h3⟩ t => by
    rw [List.map_cons, List.map_cons]
    refine .cons ?_ (PrE.repl rv t)
    unfold putAt
    by_cases c : p.1 = k
    · rw [if_pos c, if_pos (h1 ▸ c)]; exact ⟨h1, h2, rv⟩
    · rw [if_neg c, if_neg (h1 ▸ c)]; exact ⟨h1, h2, h3⟩
theorem PrE.snoc {k : NestedKey} {b : Addr} {v : V} {u : Value} (rv : RelV v u) : ∀ {es : List (NestedKey × Addr × V)} {xs : List (NestedKey × Addr × Value)}, PrE es xs → PrE (es ++ [(k, b, v)]) (xs ++ [(k, b, u)])
  | _, _, .nil => .cons ⟨rfl, rfl, rv⟩ .nil
  | _, _, .cons h t => .cons h (PrE.snoc rv t)
theorem PrE.put {es : List (NestedKey × Addr × V)} {xs : List (NestedKey × Addr × Value)} (r : PrE es xs) (k : NestedKey) (b : Addr) {v : V} {u : Value} (rv : RelV v u) : PrE (putE es k b v) (storedH xs k b u) := by
  unfold putE storedH
  rw [(r.find k).2]
  split
  · exact PrE.repl rv r
  · exact PrE.snoc rv r
theorem putE_len (es : List (NestedKey × Addr × V)) (k : NestedKey) (b : Addr) (v : V) : (putE es k b v).length ≤ es.length + 1 := by
  unfold putE
  split
  · rw [List.length_map]; omega
  · rw [List.length_append, List.length_singleton]; exact Nat.le_refl _
theorem ext_obj {P : Program} {w : World} {H : Hp} {h : Heap} {a : Addr} {ents : List (NestedKey × Addr × V)} (x : dctF P w a ents h) : ObjOk P w H h a (.ext (dctF P w a ents)) := by
  refine ⟨x, ?_, fun h1 h2 y k => ?_⟩
  · obtain ⟨_, _, _, o, _, _, e, _⟩ := x
    exact ⟨o, e⟩
  · obtain ⟨y1, xs, y2, o, es, ep, e, q⟩ := y
    exact ⟨y1, xs, y2, o, es, ep, k _ e, q⟩

/-! ### what is asked of a dict of tuples -/
section
variable {X : Cx} {pins : List (Addr × Obj)} {σ : L2.St} {H : Hp} {s : Shared} {a : Addr} {y v d : V} {u r : Value} {o : Option V} {A : Around} {E : Value → Shared → Prop}
def KeyAt (X : Cx) (H : Hp) (b : Addr) (k : NestedKey) : Prop := k.depth ≤ 8 ∧ ∀ pins σ s, Inv X pins σ H s → NestedIs s.heap k (.ref b)
def EntsAt (X : Cx) (H : Hp) (a : Addr) (ents : List (NestedKey × Addr × V)) : Prop := H a = some (.ext (dctF X.prog X.w a ents)) ∧ ∀ e ∈ ents, KeyAt X H e.2.1 e.1
def NGet (X : Cx) (H : Hp) (a : Addr) (y : V) (o : Option V) : Prop := ∃ ents k b, EntsAt X H a ents ∧ y = .ref b ∧ KeyAt X H b k ∧ o = valE ents k
def NPut (X : Cx) (H : Hp) (a : Addr) (y v : V) (H' : Hp) : Prop := ∃ ents k b, EntsAt X H a ents ∧ y = .ref b ∧ KeyAt X H b k ∧ ents.length < sizeLine ∧ H' = upd H a (.ext (dctF X.prog X.w a (putE ents k b v)))
theorem paired_memR {α β : Type} {F : α → β → Prop} : ∀ {l₁ : List α} {l₂ : List β}, Paired F l₁ l₂ → ∀ y ∈ l₂, ∃ x ∈ l₁, F x y
  | _, _, .nil, _, h => by cases h
  | _, _, .cons r t, y, h => by
    rcases List.mem_cons.mp h with rfl | h
    · exact ⟨_, List.mem_cons_self, r⟩
    · obtain ⟨x, h1, h2⟩ := paired_memR t y h
      exact ⟨x, List.mem_cons_of_mem _ h1, h2⟩
theorem ents_dict {ents : List (NestedKey × Addr × V)} (I : Inv X pins σ H s) (h : EntsAt X H a ents) : (a == sysModules) = false ∧ ∃ xs, PrE ents xs ∧ s.heap.DictOfH (nestedKind X.prog X.w) a xs := by
  obtain ⟨h1, h2⟩ := h
  obtain ⟨⟨x1, xs, x2, ob, es, ep, e, q1, q2, q3, q4⟩, _, _⟩ := I.hok a _ h1
  refine ⟨x1, xs, x2, ob, es, ep, e, q1, q2, q3, fun z hz => ?_, q4⟩
  obtain ⟨p, hp, p1, p2, _⟩ := paired_memR x2 z hz
  obtain ⟨k1, k2⟩ := h2 p hp
  rw [← p1, ← p2]
  exact ⟨k2 pins σ s I, k1⟩
theorem n_type {ents : List (NestedKey × Addr × V)} (I : Inv X pins σ H s) (h : EntsAt X H a ents) : s.TypeIs (.ref a) "dict" := let ⟨_, _, _, dd⟩ := ents_dict I h; dd.typeIs
theorem n_room (hu : A.units + 64 < cLine) : (nestedKind X.prog X.w).room A.in1 := by
  show A.in1.units + 8 < cLine
  simp only [Around.in1_units]
  omega
theorem n_getItem {Q : Value → Shared → Prop} (hu : A.units + 64 < cLine) (I : Inv X pins σ H s) (g : NGet X H a y (some v)) (ry : RelV y u) (h : ∀ w' s', Inv X pins σ H s' → RelV v w' → Q w' s') :
    wpAny (model X.prog X.w) A (getItem (.ref a) u) Q E s := by
  obtain ⟨ents, k, b, he, rfl, hk, ho⟩ := g
  cases (show u = Value.ref b from ry)
  obtain ⟨_, xs, pr, dd⟩ := ents_dict I he
  have hf := (pr.find k).1
  rw [← ho] at hf
  cases hq : atKey xs k with
  | none => rw [hq] at hf; exact hf.elim
  | some p =>
    rw [hq] at hf
    exact wpAny_getItem_heap (n_room hu) ⟨hk.2 _ _ _ I, hk.1⟩ dd hq (h p.2 _ (I.tok _) hf)
theorem n_some {ents : List (NestedKey × Addr × V)} {xs : List (NestedKey × Addr × Value)} {k : NestedKey} (pr : PrE ents xs) : (valE ents k).isSome = (atKey xs k).isSome := by
  rw [← (pr.find k).2]
  unfold valE
  rw [Option.isSome_map]
theorem n_in {Q : Value → Shared → Prop} (hu : A.units + 64 < cLine) (I : Inv X pins σ H s) (g : NGet X H a y o) (ry : RelV y u) (h : ∀ s', Inv X pins σ H s' → Q (.bool o.isSome) s') :
    wpAny (model X.prog X.w) A (compareOp .In u (.ref a)) Q E s := by
  obtain ⟨ents, k, b, he, rfl, hk, rfl⟩ := g
  cases (show u = Value.ref b from ry)
  obtain ⟨hd, xs, pr, dd⟩ := ents_dict I he
  refine wpAny_in_heap (n_room hu) ⟨hk.2 _ _ _ I, hk.1⟩ hd dd ?_
  rw [← n_some pr]
  exact h _ (I.tok _)
theorem n_notIn {Q : Value → Shared → Prop} (hu : A.units + 64 < cLine) (I : Inv X pins σ H s) (g : NGet X H a y o) (ry : RelV y u) (h : ∀ s', Inv X pins σ H s' → Q (.bool (!o.isSome)) s') :
    wpAny (model X.prog X.w) A (compareOp .NotIn u (.ref a)) Q E s := by
  obtain ⟨ents, k, b, he, rfl, hk, rfl⟩ := g
  cases (show u = Value.ref b from ry)
  obtain ⟨hd, xs, pr, dd⟩ := ents_dict I he
  refine wpAny_notIn_heap (n_room hu) ⟨hk.2 _ _ _ I, hk.1⟩ hd dd ?_
  rw [← n_some pr]
  exact h _ (I.tok _)
theorem n_get2 {Q : Value → Shared → Prop} (hu : A.units + 64 < cLine) (I : Inv X pins σ H s) (g : NGet X H a y o) (ry : RelV y u) (rd : RelV d r) (h : ∀ w' s', Inv X pins σ H s' → RelV (o.getD d) w' → Q w' s') :
    wpAny (model X.prog X.w) A (call (.builtin "dict.get") [.ref a, u, r]) Q E s := by
  obtain ⟨ents, k, b, he, rfl, hk, rfl⟩ := g
  cases (show u = Value.ref b from ry)
  obtain ⟨hd, xs, pr, dd⟩ := ents_dict I he
  exact call_meetsIn PySem.F.slot_dict_get dd.typeIs PySem.F.entry_dict_get (PySem.F.args_dict_get_3 _ _ _) (meetsH_dict_get_default (nestedKind X.prog X.w) a b hd r)
    ⟨n_room hu, k, xs, ⟨hk.2 _ _ _ I, hk.1⟩, dd, h _ _ (I.tok _) ((pr.find k).1.getD rd)⟩
theorem n_setItem {H' : Hp} {Q : Unit → Shared → Prop} (hu : A.units + 64 < cLine) (I : Inv X pins σ H s) (g : NPut X H a y v H') (ry : RelV y u) (rv : RelV v r) (h : ∀ s', Inv X pins σ H' s' → Q () s') :
    wpAny (model X.prog X.w) A (setItem (.ref a) u r) Q E s := by
  obtain ⟨ents, k, b, he, rfl, hk, hl, rfl⟩ := g
  cases (show u = Value.ref b from ry)
  obtain ⟨hd, xs, pr, dd⟩ := ents_dict I he
  have hz : xs.length ≤ sizeLine := by rw [← Paired.length pr]; omega
  refine wpAny_setItem_heap (hsz := hz) (n_room hu) ⟨hk.2 _ _ _ I, hk.1⟩ dd fun h' dd' hs => h _ ?_
  obtain ⟨q, es, ep, hq, k2, k3, k4, _, k5⟩ := dd'
  exact d_write I (by rw [he.1]; exact True.intro) hs ⟨q, hq⟩ (ext_obj ⟨hd, _, pr.put k b rv, q, es, ep, hq, k2, k3, k4, k5⟩)
theorem n_dictSet {H' : Hp} {Q : Unit → Shared → Prop} (hu : A.units + 64 < cLine) (I : Inv X pins σ H s) (g : NPut X H a y v H') (ry : RelV y u) (rv : RelV v r) (h : ∀ s', Inv X pins σ H' s' → Q () s') :
    wpAny (model X.prog X.w) A (dictSet a u r) Q E s := by
  obtain ⟨ents, k, b, he, rfl, hk, hl, rfl⟩ := g
  cases (show u = Value.ref b from ry)
  obtain ⟨hd, xs, pr, dd⟩ := ents_dict I he
  have hz : xs.length ≤ sizeLine := by rw [← Paired.length pr]; omega
  have hr : (nestedKind X.prog X.w).room A := by show A.units + 8 < cLine; omega
  refine wpAny_dictSet_heap (hsz := hz) hr ⟨hk.2 _ _ _ I, hk.1⟩ dd fun h' dd' hs => h _ ?_
  obtain ⟨q, es, ep, hq, k2, k3, k4, _, k5⟩ := dd'
  exact d_write I (by rw [he.1]; exact True.intro) hs ⟨q, hq⟩ (ext_obj ⟨hd, _, pr.put k b rv, q, es, ep, hq, k2, k3, k4, k5⟩)

/-! ### dicts of either kind: rules -/
def XGet (X : Cx) (H : Hp) (a : Addr) (y : V) (o : Option V) : Prop := DGet H a y o ∨ NGet X H a y o
def XPut (X : Cx) (H : Hp) (a : Addr) (y v : V) (H' : Hp) : Prop := DPut H a y v H' ∨ NPut X H a y v H'
def XIs (X : Cx) (H : Hp) (a : Addr) : Prop := IsD H a ∨ ∃ ents, EntsAt X H a ents
def qGet (X : Cx) (td ty : TE) : TE := fun σ H Q => td σ H fun x H1 => ty σ H1 fun y H2 => ∃ a v, x = .ref a ∧ XGet X H2 a y (some v) ∧ Q v H2
def qIn (X : Cx) (neg : Bool) (ty td : TE) : TE := fun σ H Q => ty σ H fun y H1 => td σ H1 fun x H2 => ∃ a o, x = .ref a ∧ XGet X H2 a y o ∧ Q (.bl (o.isSome != neg)) H2
def qGet2 (X : Cx) (td ty tx : TE) : TE := fun σ H Q => td σ H fun x H1 => ∃ a, x = .ref a ∧ XIs X H1 a ∧ ty σ H1 fun y H2 => tx σ H2 fun z H3 => ∃ o, XGet X H3 a y o ∧ Q (o.getD z) H3
def qPut (X : Cx) (td ty tv : TE) : TS := fun D σ H => tv σ H fun v H1 => td σ H1 fun x H2 => ty σ H2 fun y H3 => ∃ a H4, x = .ref a ∧ XPut X H3 a y v H4 ∧ D.nx σ H4
end
section
variable {X : Cx} {eo ei ez ev : Expr} {pos pos' apos cpos : Pos} {td ty tx tv : TE}
theorem pe_xget (hu : X.A.units + 64 < cLine) (ho : PE X eo td) (hi : PE X ei ty) (hs : NoSl ei) : PE X (.Subscript eo ei pos) (qGet X td ty) := by
  constructor
  intro pins s σ H Q I hw
  refine subD_of PySem.F.slot_dict_getitem.lookup hs (thn (ho.run pins s σ H _ I hw) ?_)
  rintro u s1 ⟨x, H1, I1, rx, q1⟩
  refine thn (hi.run pins s1 σ H1 _ I1 q1) ?_
  rintro iv s2 ⟨y, H2, I2, ry, a, v, rfl, gg, q2⟩
  obtain rfl : u = Value.ref a := rx
  rcases gg with gg | gg
  · exact ⟨dict_typeIs I2 gg, d_getItem (by omega) I2 gg ry fun w' s3 I3 rw' => ⟨v, H2, I3, rw', q2⟩⟩
  · obtain ⟨ents, k, b, he, h1, h2, h3⟩ := gg
    exact ⟨n_type I2 he, n_getItem hu I2 ⟨ents, k, b, he, h1, h2, h3⟩ ry fun w' s3 I3 rw' => ⟨v, H2, I3, rw', q2⟩⟩
theorem pc_xin (neg : Bool) (hu : X.A.units + 64 < cLine) (hi : PE X ei ty) (ho : PE X eo td) : PC X (if neg then .NotIn else .In) ei eo (qIn X neg ty td) := by
  constructor
  intro pins s σ H Q I hw
  refine thn (hi.run pins s σ H _ I hw) ?_
  rintro iv s1 ⟨y, H1, I1, ry, q1⟩
  refine thn (ho.run pins s1 σ H1 _ I1 q1) ?_
  rintro u s2 ⟨x, H2, I2, rx, a, ov, rfl, gg, q2⟩
  obtain rfl : u = Value.ref a := rx
  cases neg with
  | false =>
    have fin : ∀ s3, Inv X pins σ H2 s3 → EP X pins σ Q (.bool ov.isSome) s3 := fun s3 I3 => ⟨.bl ov.isSome, H2, I3, rfl, by simpa using q2⟩
    rcases gg with gg | gg
    · exact d_in (by omega) I2 gg ry fin
    · exact n_in hu I2 gg ry fin
  | true =>
    have fin : ∀ s3, Inv X pins σ H2 s3 → EP X pins σ Q (.bool (!ov.isSome)) s3 := fun s3 I3 => ⟨.bl (!ov.isSome), H2, I3, rfl, by simpa using q2⟩
    rcases gg with gg | gg
    · exact d_notIn (by omega) I2 gg ry fin
    · exact n_notIn hu I2 gg ry fin
theorem pe_xget2 (hu : X.A.units + 64 < cLine) (ho : PE X eo td) (he : PE X ei ty) (hf : PE X ez tx) (m : M2 X eo "get" apos ei ez cpos) : PE X (.Call (.Attribute eo "get" apos) [ei, ez] [] cpos) (qGet2 X td ty tx) := by
  constructor
  intro pins s σ H Q I hw
  refine wpAny_Call_method m.base m.few m.line PySem.F.plainAttrs_dict PySem.F.slot_dict_get PySem.F.type_dict_get (thn (ho.run pins s σ H _ I hw) ?_)
  rintro u s1 ⟨x, H1, I1, rx, a, rfl, dd, q1⟩
  obtain rfl : u = Value.ref a := rx
  have tt : s1.TypeIs (.ref a) "dict" ∧ (∀ b, Value.ref a = .ref b → ∃ ob, s1.heap.get? b = some ob ∧ ob.dict = none) := by
    rcases dd with dd | ⟨ents, hh⟩
    · obtain ⟨t1, t2, _⟩ := isD_at I1 dd
      exact ⟨t1, t2⟩
    · refine ⟨n_type I1 hh, fun b e => ?_⟩
      cases e
      obtain ⟨_, xs, _, ob, _, _, h1, h2, _⟩ := ents_dict I1 hh
      exact ⟨ob, h1, h2.2.1⟩
  refine ⟨tt.1, tt.2, ?_⟩
  rw [m.trees]
  refine Calls.callWith_builtin rfl (Calls.evalArgs_plain (Calls.spliced_cons (thn (he.run pins s1 σ H1 _ I1 q1) ?_)))
  rintro iv s2 ⟨y, H2, I2, ry, q2⟩
  refine Calls.spliced_cons (thn (hf.run pins s2 σ H2 _ I2 q2) ?_)
  rintro fv s3 ⟨z, H3, I3, rz, ov, gg, q3⟩
  refine Calls.spliced_nil ?_
  rcases gg with gg | gg
  · exact d_get2 (by omega) I3 gg ry rz fun w' s4 I4 rw' => ⟨_, H3, I4, rw', q3⟩
  · exact n_get2 hu I3 gg ry rz fun w' s4 I4 rw' => ⟨_, H3, I4, rw', q3⟩
theorem ps_xput (hu : X.A.units + 64 < cLine) (ho : PE X eo td) (hi : PE X ei ty) (hv : PE X ev tv) (hs : swapsWith ev (some (.Subscript eo ei pos')) pos.line X.env = pure false) :
    PS X (.Assign [.Subscript eo ei pos'] ev pos) (qPut X td ty tv) := by
  constructor
  intro pins s σ H D I hw
  refine wpAny_Assign_Subscript (thn (hv.run pins s σ H _ I hw) ?_) hs
  rintro r s1 ⟨v, H1, I1, rv, q1⟩
  refine thn (ho.run pins s1 σ H1 _ I1 q1) ?_
  rintro u s2 ⟨x, H2, I2, rx, q2⟩
  refine thn (hi.run pins s2 σ H2 _ I2 q2) ?_
  rintro iv s3 ⟨y, H3, I3, ry, a, H4, rfl, gg, q3⟩
  obtain rfl : u = Value.ref a := rx
  rcases gg with gg | gg
  · exact d_setItem (by omega) I3 gg ry rv fun s4 I4 => ⟨σ, H4, I4, q3⟩
  · exact n_setItem hu I3 gg ry rv fun s4 I4 => ⟨σ, H4, I4, q3⟩
/-- {} of tuples -/
def qNew (X : Cx) : TE := fun _ H Q => ∀ p, H p = none → Q (.ref p) (upd H p (.ext (dctF X.prog X.w p [])))
theorem empty_ext {P : Program} {w : World} (h : Heap) (hb : sysModules < h.objs.size) : dctF P w h.objs.size [] (h.push { cls := .type "dict", data := .dict #[] }) :=
  ⟨beq_eq_false_iff_ne.mpr fun e => absurd hb (by rw [e]; exact Nat.lt_irrefl _), [], .nil, _, #[], 0, Heap.get?_push_size _ rfl, ⟨rfl, rfl, rfl⟩, rfl, rfl, List.nodup_nil⟩
theorem pe_newN : PE X (.Dict [] [] pos) (qNew X) := by
  constructor
  intro pins s σ H Q I hw
  refine wpAny_Dict_empty ⟨.ref s.heap.objs.size, upd H s.heap.objs.size (.ext (dctF X.prog X.w s.heap.objs.size [])), ?_, rfl, hw _ (I.hok.fresh (Nat.le_refl _))⟩
  exact I.laid (t' := s.toks) (fun _ _ q => Heap.get?_push_of_some _ q) (Nat.le_refl _) (ext_obj (empty_ext s.heap I.big))
end
end EV
/-! EvTs: sets of nested tuples of ints: made from a list, sorted. -/
namespace EV
open PySem PySem.Spec PyProof.Rows L2

section
variable {P : Program} {w : World}
/-! ### questions that the search asks of a key -/
def Tells (P : Program) (w : World) (m : Sem Bool) (b : Bool) (s : Shared) : Prop := ∀ (A : Around) (E : Value → Shared → Prop) (Q : Bool → Shared → Prop), Q b s → wpAny (model P w) A m Q E s
theorem Tells.pure {b : Bool} {s : Shared} {m : Sem Bool} (h : m = Pure.pure b) : Tells P w m b s := fun A E Q q => by rw [h]; exact wpAny_pure q
theorem key_int {h : Heap} {i : Int} {v : Value} (x : NestedIs h (.num i) v) : (∃ b, v = .bool b) ∨ ∃ t, v = .int i t := by
  cases x with
  | bool e => exact .inl ⟨_, rfl⟩
  | int _ t => exact .inr ⟨t, rfl⟩
/-- all items of a tuple are asked -/
theorem ask_all {vs : Array Value} {s : Shared} {A : Around} {E : Value → Shared → Prop} {f : Value → Sem Bool} {stop : Bool} {Q : Bool → Shared → Prop} (hv : ∀ v ∈ vs.toList, Tells P w (f v) (!stop) s) (q : Q (!stop) s) :
    wpAny (model P w) A (do
      for y in vs do
        if (← f y) = stop then return stop
      return (!stop)) Q E s := by
  refine wpAny_bind ?_
  rw [← Array.forIn_toList]
  refine wpAny_forIn_list _ (fun rest r s' => r.1 = none ∧ s' = s ∧ ∀ v ∈ rest, Tells P w (f v) (!stop) s) _ ?_ ?_ _ _ ⟨rfl, rfl, hv⟩
  · rintro v rest r s' ⟨h1, rfl, all⟩
    refine wpAny_bind (all v List.mem_cons_self _ _ _ ?_)
    have ne : ¬ ((!stop) = stop) := by cases stop <;> simp
    rw [if_neg ne]
    exact wpAny_pure ⟨rfl, rfl, fun u hu => all u (List.mem_cons_of_mem _ hu)⟩
  · rintro ⟨r1, r2⟩ s' ⟨h1, rfl, _⟩
    simp only at h1
    subst h1
    exact wpAny_pure q
mutual
theorem key_class : ∀ (d : D) (v : Value) (n : Nat) (s : Shared), d.nk = true → NestedIs s.heap d.key v → d.dep ≤ n → Tells P w (ofAClassStatement n v) false s
  | .int i, v, n, s, _, x, _ => by
    rw [D.key] at x
    rcases key_int x with ⟨b, rfl⟩ | ⟨t, rfl⟩ <;> exact .pure (by cases n <;> rfl)
  | .tup ds, v, n, s, hn, x, hd => by
    rw [D.key] at x
    rw [D.nk] at hn
    rw [D.dep] at hd
    cases x with
    | @tup a o vs m _ h1 h2 h3 h4 =>
      obtain ⟨n, rfl⟩ : ∃ k, n = k + 1 := ⟨n - 1, by omega⟩
      intro A E Q q
      have hT : s.TypeIs (.ref a) "tuple" := ⟨o, h1, h2⟩
      unfold ofAClassStatement
      refine wpAny_bind (wpAny_typeOf hT ?_)
      have et : (("tuple" : String) == "tuple") = true := by decide
      simp only [et, if_true]
      try refine wpAny_bind (wpAny_pure ?_)
      simp only [Bool.not_true, Bool.false_eq_true, if_false]
      show wpAny _ _ (seqItems? (.ref a) >>= _) _ _ s
      refine wpAny_bind (wpAny_seqItems h1 h3 ?_)
      exact ask_all (stop := true) (key_classes ds vs.toList n s hn h4 (by omega)) q
  | .non, _, _, _, h, _, _ | .bl _, _, _, _, h, _, _ | .str _, _, _, _, h, _, _ | .lst _, _, _, _, h, _, _ | .rol _, _, _, _, h, _, _ | .dct _ _, _, _, _, h, _, _ | .loc _, _, _, _, h, _, _ | .fn _, _, _, _, h, _, _ => by simp [D.nk] at h
theorem key_classes : ∀ (ds : List D) (vs : List Value) (n : Nat) (s : Shared), D.nks ds = true → NestedAll s.heap (D.keys ds) vs → D.deps ds ≤ n → ∀ v ∈ vs, Tells P w (ofAClassStatement n v) false s
  | [], vs, n, s, _, x, _, v, hv => by rw [D.keys] at x; cases x; cases hv
  | d :: ds, vs, n, s, hn, x, hd, v, hv => by
    rw [D.keys] at x
    rw [D.nks, Bool.and_eq_true] at hn
    rw [D.deps] at hd
    cases x with
    | cons x1 x2 =>
      rcases List.mem_cons.mp hv with rfl | hv
      · exact key_class d _ n s hn.1 x1 (by omega)
      · exact key_classes ds _ n s hn.2 x2 (by omega) v hv
end
mutual
theorem key_value : ∀ (d : D) (v : Value) (n : Nat) (s : Shared), d.nk = true → NestedIs s.heap d.key v → d.dep ≤ n → Tells P w (hashByValue n v) true s
  | .int i, v, n, s, _, x, _ => by
    rw [D.key] at x
    rcases key_int x with ⟨b, rfl⟩ | ⟨t, rfl⟩ <;> exact .pure (by cases n <;> rfl)
  | .tup ds, v, n, s, hn, x, hd => by
    rw [D.key] at x
    rw [D.nk] at hn
    rw [D.dep] at hd
    cases x with
    | @tup a o vs m _ h1 h2 h3 h4 =>
      obtain ⟨n, rfl⟩ : ∃ k, n = k + 1 := ⟨n - 1, by omega⟩
      intro A E Q q
      have hT : s.TypeIs (.ref a) "tuple" := ⟨o, h1, h2⟩
      unfold hashByValue
      refine wpAny_bind (wpAny_specialOf hT F.slot_tuple_hash.lookup ?_)
      show wpAny _ _ (seqItems? (.ref a) >>= _) _ _ s
      refine wpAny_bind (wpAny_seqItems h1 h3 ?_)
      have := ask_all (P := P) (w := w) (A := A) (E := E) (Q := Q) (stop := false) (f := hashByValue n) (key_values ds vs.toList n s hn h4 (by omega)) q
      simpa using this
  | .non, _, _, _, h, _, _ | .bl _, _, _, _, h, _, _ | .str _, _, _, _, h, _, _ | .lst _, _, _, _, h, _, _ | .rol _, _, _, _, h, _, _ | .dct _ _, _, _, _, h, _, _ | .loc _, _, _, _, h, _, _ | .fn _, _, _, _, h, _, _ => by simp [D.nk] at h
theorem key_values : ∀ (ds : List D) (vs : List Value) (n : Nat) (s : Shared), D.nks ds = true → NestedAll s.heap (D.keys ds) vs → D.deps ds ≤ n → ∀ v ∈ vs, Tells P w (hashByValue n v) true s
  | [], vs, n, s, _, x, _, v, hv => by rw [D.keys] at x; cases x; cases hv
  | d :: ds, vs, n, s, hn, x, hd, v, hv => by
    rw [D.keys] at x
    rw [D.nks, Bool.and_eq_true] at hn
    rw [D.deps] at hd
    cases x with
    | cons x1 x2 =>
      rcases List.mem_cons.mp hv with rfl | hv
      · exact key_value d _ n s hn.1 x1 (by omega)
      · exact key_values ds _ n s hn.2 x2 (by omega) v hv
end
/-- the tuple at a is the key d -/
structure TupAt (h : Heap) (d : D) (a : Addr) : Prop where
  is : NestedIs h d.key (.ref a)
  ok : keyOk true d = true
theorem TupAt.nk {h : Heap} {d : D} {a : Addr} (k : TupAt h d a) : d.nk = true := (keyT k.ok).1
theorem TupAt.dep {h : Heap} {d : D} {a : Addr} (k : TupAt h d a) : d.dep ≤ 8 := (keyT_good k.ok).2
theorem TupAt.keeps {h h' : Heap} {d : D} {a : Addr} (k : TupAt h d a) (e : ∀ b o, h.get? b = some o → h'.get? b = some o) : TupAt h' d a := ⟨NestedIs.at (fun b o vs n g _ => e b o g) _ _ k.is, k.ok⟩
theorem TupAt.same {h h' : Heap} {d : D} {a b : Addr} {o : Obj} {es : Array (Int × Value)} {ep : Nat} {t : SetTable} (k : TupAt h d b) (ho : h.get? a = some o) (hd : o.data = .set es ep t) (e : Heap.SameBut a h h') : TupAt h' d b := by
  refine ⟨NestedIs.at (fun c ob vs n g gd => (e.2 c fun z => ?_).trans g) _ _ k.is, k.ok⟩
  subst z
  rw [ho] at g
  cases g
  rw [hd] at gd
  cases gd
theorem key_inj {d e : D} (hd : d.nk = true) (he : e.nk = true) : d.key = e.key ↔ d = e := ⟨fun h => D.beq_eq _ _ ((nk_beq d e hd he).mp h), fun h => by rw [h]⟩
theorem TupAt.inj {h : Heap} {d e : D} {a : Addr} (x : TupAt h d a) (y : TupAt h e a) : d = e := (key_inj x.nk y.nk).mp (NestedIs.inj _ _ _ x.is y.is)
theorem TupAt.quiet {s : Shared} {d : D} {a : Addr} (x : TupAt s.heap d a) : Tells P w (eqIsQuiet 8 (.ref a)) true s := fun A E Q q => quiet_key d.key (.ref a) 8 s x.is (keyT x.ok).2 A E Q q
theorem TupAt.eq {s : Shared} {d e : D} {a b : Addr} {A : Around} (hu : A.units + 8 < cLine) (x : TupAt s.heap d a) (y : TupAt s.heap e b) {E : Value → Shared → Prop} {Q : Bool → Shared → Prop} (q : Q (D.beq d e) s) : wpAny (model P w) A (eqBool (.ref a) (.ref b)) Q E s := by
  have h8 := (keyT x.ok).2
  have he : NestedKey.beq d.key e.key = D.beq d e := by
    rw [← NestedKey.decide_eq]
    cases c : D.beq d e with
    | true => exact decide_eq_true ((nk_beq d e x.nk y.nk).mpr c)
    | false => exact decide_eq_false fun z => by rw [(nk_beq d e x.nk y.nk).mp z] at c; cases c
  exact eqAt_key d.key e.key A s _ _ x.is y.is (by omega) _ _ _ _ (by rw [he]; exact q)
/-- among keys the search shows nothing -/
theorem shows_not {s : Shared} {d : D} {b : Addr} {ys : List Value} (hk : TupAt s.heap d b) (hy : ∀ y ∈ ys, ∃ e c, y = Value.ref c ∧ TupAt s.heap e c) : Tells P w (searchCouldBeSeen (.ref b) ys) false s := by
  intro A E Q q
  unfold searchCouldBeSeen
  refine wpAny_bind ?_
  refine wpAny_forIn_list _ (fun rest r s' => r.1 = none ∧ s' = s ∧ ∀ y ∈ rest, ∃ e c, y = Value.ref c ∧ TupAt s.heap e c) _ ?_ ?_ _ _ ⟨rfl, rfl, hy⟩
  · rintro v rest r s' ⟨h1, rfl, all⟩
    obtain ⟨e, c, rfl, kc⟩ := all v List.mem_cons_self
    have more := fun u hu => all u (List.mem_cons_of_mem (Value.ref c) hu)
    dsimp only
    by_cases very : (b == c || (carriedByValue (.ref b) && carriedByValue (.ref c))) = true
    · exact wp_if_pos very (wpAny_pure ⟨rfl, rfl, more⟩)
    · refine wp_if_neg very (wpAny_bind (hk.quiet _ _ _ ?_))
      simp only [Bool.not_true, Bool.false_eq_true, if_false]
      refine wpAny_bind (kc.quiet _ _ _ ?_)
      simp only [Bool.not_true, Bool.false_eq_true, if_false]
      refine wpAny_bind (key_class d _ 8 _ hk.nk hk.is hk.dep _ _ _ ?_)
      simp only [Bool.false_eq_true, if_false]
      refine wpAny_bind (key_class e _ 8 _ kc.nk kc.is kc.dep _ _ _ ?_)
      simp only [Bool.false_eq_true, if_false]
      exact wpAny_pure ⟨rfl, rfl, more⟩
  · rintro ⟨r1, r2⟩ s' ⟨h1, rfl, _⟩
    simp only at h1
    subst h1
    exact wpAny_pure q
end

/-! ### the set's object -/
abbrev hashN (w : World) (d : D) : Int := d.key.hash w
def rowsN (w : World) (L : List (Addr × D)) : List (Int × Value) := L.map fun p => (hashN w p.2, Value.ref p.1)
structure SetN (P : Program) (w : World) (h : Heap) (a : Addr) (L : List (Addr × D)) (es : Array (Int × Value)) (ep : Nat) (t : SetTable) : Prop where
  obj : ∃ o, h.get? a = some o ∧ o.ExactSet ∧ o.data = .set es ep t
  rows : es.toList = rowsN w L
  table : L2.TabOk t (L.map fun p => hashN w p.2)
  once : (L.map (·.2)).Nodup
  keys : ∀ p ∈ L, TupAt h p.2 p.1
  plain : t.plain = true
  led : w.params.followText "set-order" = true ∨ t.led = true
  loose : L.length * 5 < t.mask * 3
  few : L.length < 64
abbrev stepN (t : SetTable) (h : Int) (c : Nat) : SetTable.Probe := nth t.mask (runAt t.mask (SetTable.bits h % (t.mask + 1)) (SetTable.bits h)) c
theorem rowsN_len {w : World} {L : List (Addr × D)} {es : Array (Int × Value)} (h : es.toList = rowsN w L) : es.size = L.length := by
  rw [← Array.length_toList, h, rowsN, List.length_map]
theorem rowsN_get {w : World} {L : List (Addr × D)} {es : Array (Int × Value)} (h : es.toList = rowsN w L) {i : Nat} {p : Addr × D} (e : L[i]? = some p) : es[i]? = some (hashN w p.2, Value.ref p.1) := by
  rw [← Array.getElem?_toList, h, rowsN, List.getElem?_map, e]
  rfl
section
variable {P : Program} {w : World} {A : Around} {E : Value → Shared → Prop} {s : Shared} {a : Addr} {L : List (Addr × D)} {es : Array (Int × Value)} {ep : Nat} {t : SetTable}
theorem SetN.places (R : SetN P w s.heap a L es ep t) : t.place.size = L.length := by
  have := R.table.sz
  rwa [List.length_map] at this
theorem SetN.fits (R : SetN P w s.heap a L es ep t) : t.fits es.size = true := by
  have h1 := R.places
  have h2 := rowsN_len R.rows
  have h3 := R.loose
  unfold SetTable.fits SetTable.fill
  rw [R.table.dm, Bool.and_eq_true, beq_iff_eq, decide_eq_true_eq]
  refine ⟨by omega, ?_⟩
  show t.place.size + 0 ≤ t.mask
  omega
theorem SetN.holds (R : SetN P w s.heap a L es ep t) : ¬ t.gaveWay = true := by
  unfold SetTable.gaveWay
  rw [mask_odd R.table.mok]
  decide
theorem step_dummy (t : SetTable) (h : Int) (c : Nat) : (stepN t h c).dummy = none := by
  have any : ∀ (n : Nat) (p : SetTable.Probe), p.dummy = none → (nth t.mask p n).dummy = none := by
    intro n
    induction n with
    | zero => exact fun p q => q
    | succ n ih =>
      intro p q
      apply ih
      unfold adv
      split
      · exact q
      · exact q
  exact any c _ rfl
/-- the search for a key that is to be added, from the c-th step on -/
theorem seek (R : SetN P w s.heap a L es ep t) {x : Addr} {d : D} (hx : TupAt s.heap d x) (hu : A.units + 8 < cLine) {h : Int} (hh : h = hashN w d) {K : Nat} (short : K < 10 * SetTable.turns t.mask) (free : way t.mask h K ∉ t.place.toList) (taken : ∀ c, c < K → way t.mask h c ∈ t.place.toList)
    {Q : SetFound → Shared → Prop} (there : d ∈ L.map (·.2) → Q (.there none) s) (gone : d ∉ L.map (·.2) → Q (.free (way t.mask h K) false) s) :
    ∀ (f c : Nat) (stand : Option SetTable.Probe), stand.getD (t.probeStart h) = stepN t h c → c ≤ K → K - c < f →
      (∀ (i : Nat) p, L[i]? = some p → p.2 = d → ∃ c', c ≤ c' ∧ c' < K ∧ t.place.toList[i]? = some (way t.mask h c')) →
      wpAny (model P w) A (setSearchFrom a (.ref x) h true f stand) Q E s := by
  obtain ⟨o, ho, exact_, data⟩ := R.obj
  have state : ∀ {Q' : (Array (Int × Value) × Nat × SetTable) → Shared → Prop}, Q' (es, ep, t) s → wpAny (model P w) A (setState a) Q' E s := fun q => wpAny_setState_of ho data R.fits q
  have hashes : ∀ (i : Nat) p, L[i]? = some p → (es[i]?.map (·.1)).getD 0 = hashN w p.2 := fun i p e => by rw [rowsN_get R.rows e]; rfl
  intro f
  induction f with
  | zero => intro c _ _ _ z; omega
  | succ f ih =>
    intro c stand at_ hc hf ahead
    rw [setSearchFrom_succ]
    refine wpAny_bind (state ?_)
    dsimp only
    refine wp_if_neg R.holds ?_
    try refine wpAny_bind (wpAny_pure ?_)
    have shift : ∀ q, nth t.mask (stepN t h c) q = stepN t h (c + q) := fun q => (nth_add t.mask c _ q).symm
    have spot : ∀ q, (nth t.mask (stepN t h c) q).j = way t.mask h (c + q) := fun q => congrArg SetTable.Probe.j (shift q)
    have toK : c + (K - c) = K := by omega
    rcases go_spec t R.table.ris R.table.dm (fun i => (es[i]?.map (·.1)).getD 0) h (10 * SetTable.turns t.mask) (K - c) (stepN t h c) (step_dummy t h c) (by omega) (fun q hq => by rw [spot]; exact taken _ (by omega)) (by rw [spot, toK]; exact free) with ⟨q, i, hq, place, same, earlier, found⟩ | ⟨none_, found⟩
    · rw [spot] at place
      have answer : t.probe (fun i => (es[i]?.map (·.1)).getD 0) h (stand.getD (t.probeStart h)) = some (.candidate (way t.mask h (c + q)) i (stepN t h (c + (q + 1)))) := by
        rw [at_, ← spot, ← shift]
        exact found
      rw [answer]
      dsimp only
      have il : i < L.length := by
        have := (List.getElem?_eq_some_iff.mp place).1
        rw [Array.length_toList, R.places] at this
        exact this
      obtain ⟨p, hp⟩ : ∃ p, L[i]? = some p := ⟨_, List.getElem?_eq_getElem il⟩
      have pin : p ∈ L := List.mem_of_getElem? hp
      have live := slot_live R.table.ris place
      have rest : wpAny (model P w) A (searchRest a (.ref x) h true f es t (way t.mask h (c + q)) i (stepN t h (c + (q + 1)))) Q E s := by
        unfold searchRest
        rw [rowsN_get R.rows hp]
        dsimp only
        refine wpAny_bind (wpAny_holding ((R.keys p pin).eq hu hx ?_))
        refine wpAny_bind (state ?_)
        dsimp only
        cases eq : D.beq p.2 d with
        | true =>
          refine wp_if_pos (by simp) (wpAny_pure (there ?_))
          exact List.mem_map.mpr ⟨p, pin, D.beq_eq _ _ eq⟩
        | false =>
          have nd : p.2 ≠ d := fun z => by
            rw [z, (nk_beq d d hx.nk hx.nk).mp rfl] at eq
            cases eq
          refine wp_if_neg (by simp) ?_
          try refine wpAny_bind (wpAny_pure ?_)
          rw [sameMem]
          dsimp only
          simp only [if_true, live, rowsN_get R.rows hp]
          refine wpAny_bind (wpAny_isSame_ref_self (wpAny_bind (wpAny_pure ?_)))
          simp only [if_true]
          refine wp_if_neg (by simp) ?_
          refine ih (c + (q + 1)) _ rfl (by omega) (by omega) fun i0 p0 h0 k0 => ?_
          obtain ⟨c', l1, l2, l3⟩ := ahead i0 p0 h0 k0
          refine ⟨c', ?_, l2, l3⟩
          have hash0 : (es[i0]?.map (·.1)).getD 0 = h := by rw [hashes i0 p0 h0, k0, hh]
          by_cases lt : c' < c + q
          · exact absurd hash0 (earlier (c' - c) i0 (by omega) (by rw [spot, show c + (c' - c) = c' by omega]; exact l3))
          · by_cases e : c' = c + q
            · subst e
              have both := (slot_live R.table.ris l3).symm.trans live
              injection both with both
              rw [both, hp] at h0
              exact absurd ((congrArg Prod.snd (Option.some.inj h0)).trans k0) nd
            · omega
      by_cases led : t.led = true
      · refine wp_if_neg (by simp [led]) ?_
        try refine wpAny_bind (wpAny_pure ?_)
        exact rest
      · refine wp_if_pos (by simp [led]) (wpAny_bind (shows_not hx (fun y hy => ?_) _ _ _ ?_))
        · obtain ⟨e, he, rfl⟩ := List.mem_map.mp hy
          have inside : e ∈ es.toList := by
            have : e ∈ es ∧ e.1 = h := by simpa using he
            simpa using this.1
          rw [R.rows] at inside
          obtain ⟨r, hr, er⟩ := List.mem_map.mp inside
          exact ⟨r.2, r.1, by rw [← er], R.keys r hr⟩
        · refine wp_if_neg (by decide) ?_
          try refine wpAny_bind (wpAny_pure ?_)
          exact rest
    · have answer : t.probe (fun i => (es[i]?.map (·.1)).getD 0) h (stand.getD (t.probeStart h)) = some (.empty (way t.mask h K) none) := by
        have : way t.mask h K = (nth t.mask (stepN t h c) (K - c)).j := by rw [spot, toK]
        rw [at_, this]
        exact found
      rw [answer]
      dsimp only
      refine wpAny_pure (gone fun hm => ?_)
      obtain ⟨p0, m0, k0⟩ := List.mem_map.mp hm
      obtain ⟨i0, h0⟩ := List.getElem?_of_mem m0
      obtain ⟨c', l1, l2, l3⟩ := ahead i0 p0 h0 k0
      exact none_ (c' - c) i0 (by omega) (by rw [spot, show c + (c' - c) = c' by omega]; exact l3) (by show (es[i0]?.map (·.1)).getD 0 = h; rw [hashes i0 p0 h0, k0, hh])
theorem seek_add (R : SetN P w s.heap a L es ep t) {x : Addr} {d : D} (hx : TupAt s.heap d x) (hu : A.units + 8 < cLine) {Q : SetFound → Shared → Prop} (there : d ∈ L.map (·.2) → Q (.there none) s)
    (gone : ∀ K, d ∉ L.map (·.2) → way t.mask (hashN w d) K ∉ t.place.toList → (∀ c, c < K → way t.mask (hashN w d) c ∈ t.place.toList) → Q (.free (way t.mask (hashN w d) K) false) s) :
    wpAny (model P w) A (setSearch a (.ref x) (hashN w d) true) Q E s := by
  have loose := R.loose
  obtain ⟨K, short, free, taken⟩ := R.table.first (by rw [List.length_map]; omega) (hashN w d)
  have bound : K < 100000 := by
    have : 10 * SetTable.turns t.mask ≤ 1420 := by
      unfold SetTable.turns
      rcases R.table.mok with e | e | e <;> omega
    omega
  unfold setSearch
  refine seek R hx hu rfl short free taken there (fun n => gone K n free taken) 100000 0 none rfl (Nat.zero_le _) (by omega) fun i p hp k => ?_
  have hi : (L.map fun p => hashN w p.2)[i]? = some (hashN w d) := by rw [List.getElem?_map, hp, ← k]; rfl
  have il : i < t.place.toList.length := by
    rw [Array.length_toList, R.places]
    exact (List.getElem?_eq_some_iff.mp hp).1
  obtain ⟨c, hc, e⟩ := R.table.before free hi (List.getElem?_eq_getElem il)
  exact ⟨c, Nat.zero_le _, hc, by rw [List.getElem?_eq_getElem il, e]⟩
end

/-! ### adding -/
theorem rows_ins (w : World) (L : List (Addr × D)) (p : Nat) (x : Addr) (d : D) : rowsN w (L.take p ++ (x, d) :: L.drop p) = (rowsN w L).take p ++ (hashN w d, Value.ref x) :: (rowsN w L).drop p := by
  unfold rowsN
  simp only [List.map_append, List.map_cons, List.map_take, List.map_drop]
theorem range_pick {α : Type} (L : List α) : (List.range L.length).filterMap (fun i => L[i]?) = L := by
  apply List.ext_getElem?
  intro i
  have h : ∀ n, n ≤ L.length → (List.range n).filterMap (fun i => L[i]?) = L.take n := by
    intro n
    induction n with
    | zero => intro _; rfl
    | succ n ih =>
      intro hn
      have lt : n < L.length := hn
      rw [List.range_succ, List.filterMap_append, ih (by omega), List.take_succ, List.getElem?_eq_getElem lt]
      simp [List.getElem?_eq_getElem lt]
  rw [h L.length (Nat.le_refl _), List.take_length]
/-- the entries in another order -/
theorem rows_order {w : World} (L : List (Addr × D)) (es : Array (Int × Value)) (order : Array Nat) (hr : es.toList = rowsN w L) (hp : order.toList.Perm (List.range L.length)) :
    ∃ M, (order.filterMap (es[·]?)).toList = rowsN w M ∧ M.Perm L ∧ (M.map fun p => hashN w p.2) = order.toList.map fun i => (es.map (·.1)).getD i 0 := by
  have inside : ∀ i ∈ order.toList, i < L.length := fun i hi => List.mem_range.mp (hp.mem_iff.mp hi)
  have pick : ∀ l : List Nat, (∀ i ∈ l, i < L.length) → l.filterMap (fun i => es[i]?) = rowsN w (l.filterMap fun i => L[i]?) ∧ ((l.filterMap fun i => L[i]?).map fun p => hashN w p.2) = l.map fun i => (es.map (·.1)).getD i 0 := by
    intro l
    induction l with
    | nil => intro _; exact ⟨rfl, rfl⟩
    | cons i l ih =>
      intro hl
      obtain ⟨e1, e2⟩ := ih fun j hj => hl j (List.mem_cons_of_mem _ hj)
      have hi := List.getElem?_eq_getElem (hl i List.mem_cons_self)
      have he := rowsN_get hr hi
      have hh : (es.map (·.1)).getD i 0 = hashN w (L[i]'(hl i List.mem_cons_self)).2 := by
        rw [Array.getD_eq_getD_getElem?, Array.getElem?_map, he]
        rfl
      constructor
      · rw [List.filterMap_cons_some he, List.filterMap_cons_some hi, e1]
        rfl
      · rw [List.filterMap_cons_some hi, List.map_cons, List.map_cons, e2, hh]
  obtain ⟨e1, e2⟩ := pick order.toList inside
  refine ⟨order.toList.filterMap fun i => L[i]?, by first | (rw [Array.toList_filterMap]; exact e1) | simpa using e1, ?_, e2⟩
  have := hp.filterMap fun i => L[i]?
  rwa [range_pick] at this
section
variable {P : Program} {w : World} {A : Around} {E : Value → Shared → Prop} {s : Shared} {a : Addr} {L : List (Addr × D)} {es : Array (Int × Value)} {ep : Nat} {t : SetTable}
/-- a larger table -/
theorem relay {o : Obj} (ho : s.heap.get? a = some o) (exact_ : o.ExactSet) (data : o.data = .set es ep t) (rows : es.toList = rowsN w L) (places : t.place.size = es.size) (dm : t.dummies = #[]) (fill : es.size ≤ t.mask) (once : (L.map (·.2)).Nodup) (keys : ∀ p ∈ L, TupAt s.heap p.2 p.1)
    (plain : t.plain = true) (led : w.params.followText "set-order" = true ∨ t.led = true) (few : L.length < 64) {wanted M : Nat} (size : SetTable.sizeAbove wanted - 1 = M) (mask : MaskOk M) (small : SetTable.sizeAbove wanted ≤ 128) (loose : L.length * 5 < M * 3) {Q : Unit → Shared → Prop}
    (hQ : ∀ h' L' es' ep' t', Heap.SameBut a s.heap h' → SetN P w h' a L' es' ep' t' → L'.Perm L → Q () { s with heap := h' }) : wpAny (model P w) A (setRelay a wanted) Q E s := by
  have len := rowsN_len rows
  have fits : t.fits es.size = true := by
    unfold SetTable.fits SetTable.fill
    rw [dm, Bool.and_eq_true, beq_iff_eq, decide_eq_true_eq]
    exact ⟨places, by show t.place.size + 0 ≤ t.mask; omega⟩
  obtain ⟨t', order, laid, perm, T, mask', led', plain', dm'⟩ := relaid_ok t (hs := es.map (·.1)) (wanted := wanted) size mask (by rw [Array.size_map, len]; omega)
  rw [Array.size_map, len] at perm
  obtain ⟨N, r1, r2, r3⟩ := rows_order L es order rows perm
  rw [← r3] at T
  have len' : (order.filterMap (es[·]?)).size = es.size := by rw [rowsN_len r1, r2.length_eq, len]
  rw [setRelay_eq]
  refine wpAny_bind (wpAny_setState_of ho data fits ?_)
  dsimp only
  refine wp_if_neg (by rw [sizeLine_eq]; omega) ?_
  try refine wpAny_bind (wpAny_pure ?_)
  rw [laid]
  dsimp only
  refine wpAny_bind (wp_if_neg (by rw [len']; simp) ?_)
  try refine wpAny_bind (wpAny_pure ?_)
  refine wpAny_pure ?_
  dsimp only
  refine wpAny_storeSet_of ho data ?_ (by rw [len', len, sizeLine_eq]; omega)
  have same : Heap.SameBut a s.heap (s.heap.update a (Obj.putSet (order.filterMap (es[·]?)) t')) := Heap.SameBut.update ..
  exact hQ _ N (order.filterMap (es[·]?)) (ep + 1) t' same
    { obj := ⟨_, store_at ho data, ⟨exact_.1, exact_.2.1, exact_.2.2⟩, rfl⟩, rows := r1, table := T, once := (r2.map (·.2)).nodup_iff.mpr once, keys := fun p hp => (keys p (r2.mem_iff.mp hp)).same ho data same, plain := by rw [plain']; exact plain, led := by rw [led']; exact led,
      loose := by rw [r2.length_eq, mask']; exact loose, few := by rw [r2.length_eq]; exact few } r2
theorem mid_perm {α : Type} (L : List α) (p : Nat) (x : α) : (L.take p ++ x :: L.drop p).Perm (x :: L) := by
  have := List.perm_middle (a := x) (l₁ := L.take p) (l₂ := L.drop p)
  rwa [List.take_append_drop] at this
theorem add_key (R : SetN P w s.heap a L es ep t) {x : Addr} {d : D} (hx : TupAt s.heap d x) (hu : A.units + 8 < cLine) (hfew : L.length + 1 < 64) {Q : Bool → Shared → Prop}
    (hQ : ∀ b h' L' es' ep' t', Heap.SameBut a s.heap h' → SetN P w h' a L' es' ep' t' → (d ∈ L.map (·.2) → L' = L) → (d ∉ L.map (·.2) → L'.Perm ((x, d) :: L)) → Q b { s with heap := h' }) :
    wpAny (model P w) A (setAddHashed a (.ref x) (hashN w d)) Q E s := by
  obtain ⟨o, ho, exact_, data⟩ := R.obj
  have len := rowsN_len R.rows
  have loose := R.loose
  have state : ∀ {Q' : (Array (Int × Value) × Nat × SetTable) → Shared → Prop}, Q' (es, ep, t) s → wpAny (model P w) A (setState a) Q' E s := fun q => wpAny_setState_of ho data R.fits q
  unfold setAddHashed
  refine wpAny_holding ?_
  rw [show (100000 : Nat) = 99999 + 1 from rfl, setAddHashedIn_succ]
  refine wpAny_bind (state ?_)
  dsimp only
  refine wp_if_neg (by simp [byScan, Value.scannable]) ?_
  try refine wpAny_bind (wpAny_pure ?_)
  refine wpAny_bind (seek_add R hx hu (fun hm => ?_) fun K new free taken => ?_)
  · dsimp only
    exact wpAny_pure (hQ false s.heap L es ep t (Heap.SameBut.refl a s.heap) R (fun _ => rfl) fun z => absurd hm z)
  dsimp only
  refine wpAny_bind (state ?_)
  dsimp only
  obtain ⟨slot2, low, T, mask, led, plain, moves, finger, fill⟩ := R.table.put free taken
  have pl : (t.put (way t.mask (hashN w d) K)).1.plain = true := plain.trans R.plain
  generalize put : t.put (way t.mask (hashN w d) K) = pt at slot2 T mask led plain moves finger fill pl ⊢
  obtain ⟨t1, at1⟩ := pt
  dsimp only at slot2 T mask led plain moves finger fill pl ⊢
  subst slot2
  have byv : ∀ {Q' : Bool → Shared → Prop}, Q' true s → wpAny (model P w) A (hashByValue 8 (.ref x)) Q' E s := fun q => key_value d _ 8 s hx.nk hx.is hx.dep _ _ _ q
  first
    | (refine wpAny_bind ?_; refine wp_if_pos pl ?_; refine byv ?_)
    | refine wp_if_pos pl (wpAny_bind (byv ?_))
  simp only [if_true]
  generalize below : SetTable.below t.place (way t.mask (hashN w d) K) = p at low T ⊢
  have rows : (SetTable.insertAt es p (hashN w d, Value.ref x)).toList = rowsN w (L.take p ++ (x, d) :: L.drop p) := by rw [SetTable.toList_insertAt, rows_ins, R.rows]
  have perm := mid_perm L p (x, d)
  have hashes : (L.take p ++ (x, d) :: L.drop p).map (fun p => hashN w p.2) = (L.map fun p => hashN w p.2).take p ++ hashN w d :: (L.map fun p => hashN w p.2).drop p := by simp only [List.map_append, List.map_cons, List.map_take, List.map_drop]
  rw [← hashes] at T
  have once : ((L.take p ++ (x, d) :: L.drop p).map (·.2)).Nodup := by
    refine (perm.map (·.2)).nodup_iff.mpr ?_
    rw [List.map_cons]
    exact List.nodup_cons.mpr ⟨new, R.once⟩
  generalize SetTable.insertAt es p (hashN w d, Value.ref x) = es1 at rows ⊢
  generalize L.take p ++ (x, d) :: L.drop p = M at rows perm T once
  have len1 : M.length = L.length + 1 := perm.length_eq
  have size1 : es1.size = L.length + 1 := by rw [rowsN_len rows, len1]
  refine wpAny_bind (wpAny_storeSet_of ho data ?_ (by rw [size1, sizeLine_eq]; omega))
  have same : Heap.SameBut a s.heap (s.heap.update a (Obj.putSet es1 t1)) := Heap.SameBut.update ..
  have stored := store_at (es' := es1) (t' := t1) ho data
  generalize s.heap.update a (Obj.putSet es1 t1) = h1 at same stored ⊢
  have keys : ∀ p ∈ M, TupAt h1 p.2 p.1 := fun p hp => by
    rcases List.mem_cons.mp (perm.mem_iff.mp hp) with rfl | hp
    · exact hx.same ho data same
    · exact (R.keys p hp).same ho data same
  have led1 : w.params.followText "set-order" = true ∨ t1.led = true := by rw [led]; exact R.led
  rw [List.length_map] at fill
  by_cases full : t1.tooFull = true
  · have much : (L.length + 1) * 5 ≥ t1.mask * 3 := by
      unfold SetTable.tooFull at full
      rw [decide_eq_true_eq, fill] at full
      exact full
    rw [len]
    have places : t1.place.size = es1.size := by
      have := T.sz
      rw [List.length_map, len1] at this
      rw [this, size1]
    have next : ∀ N, SetTable.sizeAbove (SetTable.grown (L.length + 1)) - 1 = N → MaskOk N → SetTable.sizeAbove (SetTable.grown (L.length + 1)) ≤ 128 → (L.length + 1) * 5 < N * 3 → es1.size ≤ t1.mask →
        wpAny (model P w) A (setRelay a (SetTable.grown (L.length + 1))) (fun _ s' => wpAny (model P w) A (pure true) Q E s') E { s with heap := h1 } := by
      intro N e1 e2 e3 e4 e5
      refine relay (s := { s with heap := h1 }) stored ⟨exact_.1, exact_.2.1, exact_.2.2⟩ rfl rows places T.dm e5 once keys pl led1 (by rw [len1]; exact hfew) e1 e2 e3 (by rw [len1]; exact e4) ?_
      intro h2 L2 es2 ep2 t2 same2 R2 perm2
      exact wpAny_pure (hQ true h2 L2 es2 ep2 t2 (same.trans same2) R2 (fun z => absurd z new) fun _ => perm2.trans perm)
    have go : wpAny (model P w) A (setRelay a (SetTable.grown (L.length + 1))) (fun _ s' => wpAny (model P w) A (pure true) Q E s') E { s with heap := h1 } := by
      rcases R.table.mok with e | e | e
      · have l4 : L.length = 4 := by rw [mask, e] at much; rw [e] at loose; omega
        exact next 31 (by rw [l4, size_20]) (.inr (.inl rfl)) (by rw [l4, size_20]; decide) (by omega) (by rw [size1, mask, e]; omega)
      · have l18 : L.length = 18 := by rw [mask, e] at much; rw [e] at loose; omega
        exact next 127 (by rw [l18, size_76]) (.inr (.inr rfl)) (by rw [l18, size_76]; decide) (by omega) (by rw [size1, mask, e]; omega)
      · rw [mask, e] at much
        omega
    first
      | (refine wpAny_bind ?_; refine wp_if_pos (by simp [full]) ?_; exact go)
      | (refine wp_if_pos (by simp [full]) ?_; refine wpAny_bind ?_; exact go)
  · have R1 : SetN P w h1 a M es1 (ep + 1) t1 := by
      refine ⟨⟨_, stored, ⟨exact_.1, exact_.2.1, exact_.2.2⟩, rfl⟩, rows, T, once, keys, pl, led1, ?_, by rw [len1]; exact hfew⟩
      unfold SetTable.tooFull at full
      rw [decide_eq_true_eq, fill] at full
      rw [len1]
      omega
    first
      | refine wp_if_neg (by simp [full]) ?_
      | (refine wpAny_bind ?_; refine wp_if_neg (by simp [full]) ?_; refine wpAny_pure ?_)
    exact wpAny_pure (hQ true h1 M es1 (ep + 1) t1 same R1 (fun z => absurd z new) fun _ => perm)
end

/-! ### made from a list -/
/-- what has come of the first i keys -/
structure Came (ks : List (Addr × D)) (i : Nat) (L : List (Addr × D)) : Prop where
  from_ : ∀ p ∈ L, p ∈ ks.take i
  all : ∀ p ∈ ks.take i, p.2 ∈ L.map (·.2)
  len : L.length ≤ i
theorem take_one {α : Type} {l : List α} {i : Nat} {x : α} (h : l[i]? = some x) : l.take (i + 1) = l.take i ++ [x] := by rw [List.take_succ, h]; rfl
theorem Came.step {ks L L' : List (Addr × D)} {i : Nat} {x : Addr × D} (c : Came ks i L) (h : ks[i]? = some x) (old : x.2 ∈ L.map (·.2) → L' = L) (new : x.2 ∉ L.map (·.2) → L'.Perm (x :: L)) : Came ks (i + 1) L' := by
  by_cases m : x.2 ∈ L.map (·.2)
  · rw [old m]
    refine ⟨fun p hp => ?_, fun p hp => ?_, Nat.le_succ_of_le c.len⟩
    · rw [take_one h]
      exact List.mem_append_left _ (c.from_ p hp)
    · rw [take_one h, List.mem_append, List.mem_singleton] at hp
      rcases hp with hp | rfl
      · exact c.all p hp
      · exact m
  · have perm := new m
    refine ⟨fun p hp => ?_, fun p hp => ?_, by rw [perm.length_eq]; exact Nat.succ_le_succ c.len⟩
    · rw [take_one h, List.mem_append, List.mem_singleton]
      rcases List.mem_cons.mp (perm.mem_iff.mp hp) with e | hp
      · exact .inr e
      · exact .inl (c.from_ p hp)
    · rw [(perm.map (·.2)).mem_iff, List.map_cons, List.mem_cons]
      rw [take_one h, List.mem_append, List.mem_singleton] at hp
      rcases hp with hp | rfl
      · exact .inr (c.all p hp)
      · exact .inl rfl
section
variable {P : Program} {w : World} {A : Around} {E : Value → Shared → Prop} {s : Shared}
theorem SetN.moved {h h' : Heap} {a : Addr} {L : List (Addr × D)} {es : Array (Int × Value)} {ep : Nat} {t : SetTable} (R : SetN P w h a L es ep t) (ha : ∀ o, h.get? a = some o → h'.get? a = some o) (hk : ∀ p ∈ L, TupAt h' p.2 p.1) : SetN P w h' a L es ep t := by
  obtain ⟨o, ho, r⟩ := R.obj
  exact { R with obj := ⟨o, ha o ho, r⟩, keys := hk }
def freshSet (w : World) : Obj := { cls := .type "set", dict := none, data := .set #[] 0 (.fresh 0 0 (!w.params.followText "set-order")) }
theorem SetN.fresh {h : Heap} {a : Addr} (ho : h.get? a = some (freshSet w)) : SetN P w h a [] #[] 0 (.fresh 0 0 (!w.params.followText "set-order")) where
  obj := ⟨_, ho, ⟨rfl, rfl, rfl⟩, rfl⟩
  rows := rfl
  table := { ris := List.Pairwise.nil, dm := rfl, sz := rfl, mok := .inl rfl, bd := fun x hx => (by cases hx), reach := fun i h j hi => (by simp at hi) }
  once := List.nodup_nil
  keys := fun p hp => (by cases hp)
  plain := rfl
  led := by
    show _ ∨ (!w.params.followText "set-order") = true
    cases w.params.followText "set-order" <;> simp
  loose := (by decide : 0 * 5 < 7 * 3)
  few := (by decide : 0 < 64)
/-- the loop of set's making -/
theorem update_loop {I : Addr} {fp wr : List Addr} {G : Array GenState → Array GenState → Prop} {n : Nat} {Pv : Nat → Value → Prop} {St : Nat → Shared → Prop} {R : Result → Shared → Prop} (W : WalksS P w A.in1 I fp wr G n Pv St) (S : Addr) (out : S ∉ fp) (ks : List (Addr × D)) (hn : n = ks.length) (few : ks.length < 64)
    (val : ∀ i v, Pv i v → ∃ p, ks[i]? = some p ∧ v = .ref p.1) (h0 : Heap) (keys : ∀ p ∈ ks, TupAt h0 p.2 p.1) (newS : h0.get? S = none) (newW : ∀ b ∈ wr, h0.get? b = none) (hu : A.in1.units + 8 < cLine) :
    ∀ (k i : Nat) (s : Shared), n - i = k → i ≤ n → St i s → (∀ b o, h0.get? b = some o → s.heap.get? b = some o) → (∃ L es ep t, SetN P w s.heap S L es ep t ∧ Came ks i L) →
      (∀ s' L es ep t, Moved (S :: wr) G s s' → SetN P w s'.heap S L es ep t → Came ks n L → (∀ b o, h0.get? b = some o → s'.heap.get? b = some o) → R (.ok (.ret .none)) s') →
      codeAny (model P w) A (.builtin "set.update.loop" ⟨[.ref S, .ref I], []⟩) R s := by
  have outW : S ∉ wr := fun h => out (W.sub _ h)
  have more : ∀ b ∈ wr, b ∈ S :: wr := fun b hb => List.mem_cons_of_mem _ hb
  have still : ∀ {s s' : Shared}, Moved wr G s s' → (∀ b o, h0.get? b = some o → s.heap.get? b = some o) → ∀ b o, h0.get? b = some o → s'.heap.get? b = some o := fun hm kp b o e =>
    hm.heap b o (fun hb => by rw [newW b hb] at e; cases e) (kp b o e)
  intro k
  induction k with
  | zero =>
    intro i s hk hi st kp ⟨L, es, ep, t, hS, c⟩ done
    obtain rfl : i = n := by omega
    refine codeAny_builtin F.entry_set_update_loop ?_
    rw [Around.under_plainId F.plain_set_update_loop _]
    show wpAny _ A.in1 (pyNext (.ref I) >>= _) _ _ s
    refine wpAny_bind (W.done s _ _ st fun s' hm => ?_)
    show wpAny _ A.in1 (ret Value.none) _ _ s'
    have kp' := still hm kp
    have sub : ∀ p ∈ L, p ∈ ks := fun p hp => List.mem_of_mem_take (c.from_ p hp)
    exact wpAny_pure (done s' L es ep t (hm.mono more) (hS.moved (fun o e => hm.heap S o outW e) fun p hp => (keys p (sub p hp)).keeps kp') c kp')
  | succ k ih =>
    intro i s hk hi st kp ⟨L, es, ep, t, hS, c⟩ done
    have lt : i < n := by omega
    refine codeAny_builtin F.entry_set_update_loop ?_
    rw [Around.under_plainId F.plain_set_update_loop _]
    show wpAny _ A.in1 (pyNext (.ref I) >>= _) _ _ s
    refine wpAny_bind (W.item i s _ _ lt st fun v s' hP st' hm => ?_)
    obtain ⟨p, hp, rfl⟩ := val i v hP
    have kp' := still hm kp
    have sub : ∀ p ∈ L, p ∈ ks := fun p hp => List.mem_of_mem_take (c.from_ p hp)
    have hS' : SetN P w s'.heap S L es ep t := hS.moved (fun o e => hm.heap S o outW e) fun q hq => (keys q (sub q hq)).keeps kp'
    have hx : TupAt s'.heap p.2 p.1 := (keys p (List.mem_of_getElem? hp)).keeps kp'
    show wpAny _ A.in1 (holding [Value.ref p.1] (setAdd S (.ref p.1)) >>= _) _ _ s'
    refine wpAny_bind (wpAny_holding ?_)
    unfold setAdd
    refine wpAny_holding (wpAny_bind (pyHash_key p.2.key _ _ s' _ hx.is (by have := (keyT hx.ok).2; omega) ?_))
    refine add_key (s := { s' with toks := s'.toks + p.2.key.draws }) hS' hx hu (by have := c.len; omega) fun b h' L' es' ep' t' same hS2 old new => ?_
    have c' := c.step hp old new
    have kp2 : ∀ b o, h0.get? b = some o → h'.get? b = some o := fun b o e => (same.2 b (fun z => by rw [z, newS] at e; cases e)).trans (kp' b o e)
    refine wpAny_pure ⟨plainId_quiet F.plain_set_update_loop _, ih (i + 1) _ (by omega) lt (W.frame _ s' _ _ st' (Nat.le_add_right _ _) fun b hb o e => ?_) kp2 ⟨L', es', ep', t', hS2, c'⟩ fun s'' L2 es2 ep2 t2 hm2 hS3 c3 kp3 => ?_⟩
    · rw [same.2 b (fun z : b = S => out (by rw [← z]; exact hb))]
      exact e
    · refine done s'' L2 es2 ep2 t2 (Moved.trans W.gtrans ((hm.mono more).then_heap (Nat.le_add_right _ _) fun b o hb e => ?_) hm2) hS3 c3 kp3
      rw [same.2 b (fun z : b = S => hb (by rw [z]; exact List.mem_cons_self))]
      exact e
end

section
variable {P : Program} {w : World} {A : Around} {E : Value → Shared → Prop} {s : Shared}
abbrev heapS (w : World) (h : Heap) : Heap := h.push (freshSet w)
theorem call_setN {l : Addr} {items : Array Value} (ks : List (Addr × D)) {Q : Value → Shared → Prop} (hh : A.handled = none) (hl : s.heap.IsList l items) (hit : items.toList = ks.map fun p => Value.ref p.1) (keys : ∀ p ∈ ks, TupAt s.heap p.2 p.1) (few : ks.length < 64) (hu : A.units + 12 < cLine)
    (h : ∀ (h' : Heap) (tk : Nat) L es ep t, SetN P w h' s.heap.objs.size L es ep t → Came ks ks.length L → (∀ b o, s.heap.get? b = some o → h'.get? b = some o) → Q (.ref s.heap.objs.size) { s with heap := h', toks := tk }) :
    wpAny (model P w) A (call (.type "set") [.ref l]) Q E s := by
  have len : items.size = ks.length := by rw [← Array.length_toList, hit, List.length_map]
  obtain ⟨c, tl, hmro⟩ := F.called_set.mro
  have hmade := F.called_set.made
  have hsub := F.called_set.sub
  refine wpAny_call (codeAny_of_tree ?_)
  show wpAny _ _ (callAny (.type "set") _) _ _ _
  refine wpAny_pure ⟨Code.quiet_builtin _ (by decide +kernel), codeAny_builtin F.entry_type_call ?_⟩
  rw [Around.under_plain (weight_type_call_type "set" [.ref l] []) rfl]
  have h1 := F.called_set.notType
  have h2 := F.called_set.canCreate
  have hct := F.typeCall_set_1 (.ref l)
  repeat (any_goals (first | assumption | wp_step))

  refine codeAny_mono (code_set_led1 (.ref l) (E := E) (Q₁ := fun obj s₁ => obj = .ref s.heap.objs.size ∧ s₁ = { s with heap := heapS w s.heap }) ⟨rfl, rfl⟩) fun r s₁ hr => ?_
  cases r with
  | error e => exact hr
  | ok fl =>
    cases fl with
    | ret obj =>
      obtain ⟨rfl, rfl⟩ := hr
      have made : (heapS w s.heap).get? s.heap.objs.size = some (freshSet w) := Heap.get?_push_size _ rfl
      have type_ : Shared.TypeIs { s with heap := heapS w s.heap } (.ref s.heap.objs.size) "set" := ⟨_, made, rfl⟩
      have hli := F.called_set.init.lookup
      have hbi := F.called_set.init.bind (.ref s.heap.objs.size)
      repeat (any_goals (first | assumption | wp_step))

      refine codeAny_mono (codeAny_call_builtin (R := wants (fun r s₂ => r = .none ∧ ∃ h' tk L es ep t, s₂ = { s with heap := h', toks := tk } ∧ SetN P w h' s.heap.objs.size L es ep t ∧ Came ks ks.length L ∧
          (∀ b o, s.heap.get? b = some o → h'.get? b = some o)) E) F.called_set.init.plain F.entry_set_init (check_set_init_1 type_ ?_)) fun r₂ s₂ hr₂ => ?_
      · obtain ⟨ol, hol, hcl, nl, hdl⟩ := hl
        obtain ⟨ocls, odict, odata, oslots⟩ := ol
        simp only at hcl hdl
        subst hcl hdl
        have list : (heapS w s.heap).IsList l items := ⟨_, Heap.get?_push_of_some _ hol, rfl, nl, rfl⟩
        have hsls := F.sub_list_set
        have hslf := F.sub_list_frozenset
        have hne : (Value.type "list" == Value.type "dict") = false := by decide
        have hol' : (heapS w s.heap).get? l = some { cls := .type "list", dict := odict, data := .seq items nl, slots := oslots } := Heap.get?_push_of_some _ hol
        unfold Builtin.«set.__init__» noKeywords Builtin.Frozenset.updateFrom
        generalize hPI : pyIter = PI
        wp_walk
        subst hPI

        refine wpAny_pyIter_list list ?_
        refine wpAny_bind (wpAny_runValue ?_)
        have lt : l < s.heap.objs.size := Heap.lt_size hol
        have size : (heapS w s.heap).objs.size = s.heap.objs.size + 1 := Heap.size_push ..
        have hh3 : A.in1.in1.in1.handled = none := by simp [hh]
        have fresh : ∀ b, s.heap.objs.size ≤ b → s.heap.get? b = none := fun b hb => by
          cases q : s.heap.get? b with
          | none => rfl
          | some o => exact absurd (Nat.lt_of_lt_of_le (Heap.lt_size q) hb) (Nat.lt_irrefl _)
        have neI : l ≠ (heapS w s.heap).objs.size := by rw [size]; exact Nat.ne_of_lt (Nat.lt_succ_of_lt lt)
        have apart : s.heap.objs.size ∉ [(heapS w s.heap).objs.size, l] := by
          rw [size]
          simp only [List.mem_cons, List.not_mem_nil, or_false, not_or]
          exact ⟨Nat.ne_of_lt (Nat.lt_succ_self _), Nat.ne_of_gt lt⟩
        have val : ∀ (i : Nat) (v : Value), items[i]? = some v → ∃ p, ks[i]? = some p ∧ v = .ref p.1 := fun i v hv => by
          have q : items.toList[i]? = some v := by rw [Array.getElem?_toList]; exact hv
          rw [hit, List.getElem?_map, Option.map_eq_some_iff] at q
          obtain ⟨p, hp, e⟩ := q
          exact ⟨p, hp, e.symm⟩
        refine update_loop ((Walks.list hh3 _ l neI items).toS) s.heap.objs.size apart ks len few val s.heap keys (fresh _ (Nat.le_refl _)) (fun b hb => fresh b (by rw [List.mem_singleton.mp hb, size]; exact Nat.le_succ _))
          (show A.units + 1 + 1 + 1 + 8 < cLine by omega) (items.size - 0) 0 _ (by omega) (Nat.zero_le _) ⟨⟨_, Heap.get?_push_size _ rfl, rfl, rfl⟩, list.push _⟩ (fun b o e => Heap.get?_push_of_some _ (Heap.get?_push_of_some _ e)) ?start ?done
        case start =>
          have there : ((heapS w s.heap).push { cls := .type "list_iterator", data := .fields #[.ref l, .int 0 0] }).get? s.heap.objs.size = some (freshSet w) := Heap.get?_push_of_some _ made
          exact ⟨[], #[], 0, _, SetN.fresh there, ⟨fun p h => (by cases h), fun p h => (by simp at h), Nat.le_refl _⟩⟩
        case done =>
          intro s' L es ep t hm hS' c' kp
          obtain ⟨h', g2, d', tk', os'⟩ := s'
          obtain rfl : g2 = s.gens := hm.gens
          obtain rfl : d' = s.drawn := hm.drawn
          obtain rfl : os' = s.os := hm.os
          show wpAny _ _ _ _ _ _
          refine wpAny_pure ?_
          show wpAny _ _ (ret Value.none) _ _ _
          rw [len] at c'
          exact wpAny_pure ⟨rfl, h', tk', L, es, ep, t, rfl, hS', c', kp⟩
      · cases r₂ with
        | error e => exact hr₂
        | ok fl₂ =>
          cases fl₂ with
          | ret r =>
            obtain ⟨rfl, h', tk, L, es, ep, t, rfl, hS', c', kp⟩ := hr₂
            repeat (any_goals (first | assumption | wp_step))
            exact h _ _ _ _ _ _ hS' c' kp
          | _ => exact hr₂.elim
    | _ => exact hr.elim
end

/-! ### sorted -/
section
variable {P : Program} {w : World} {A : Around} {E : Value → Shared → Prop} {s : Shared}
theorem each_of_refs {h : Heap} {b : Addr} : ∀ (L : List (Addr × D)), (∀ p ∈ L, ∃ as, Reads h (.ref p.1) p.2.py as ∧ b ∉ as) → PySem.W.EachIs (fun v (p : Addr × D) => ∃ as, Reads h v p.2.py as ∧ b ∉ as) (L.map fun p => Value.ref p.1) L
  | [], _ => .nil
  | p :: L, h => .cons (h p List.mem_cons_self) (each_of_refs L fun q hq => h q (List.mem_cons_of_mem _ hq))
theorem each_refs : ∀ (L : List (Addr × D)), PySem.W.EachIs (fun v (p : Addr × D) => v = Value.ref p.1) (L.map fun p => Value.ref p.1) L
  | [] => .nil
  | _ :: L => .cons rfl (each_refs L)
theorem refs_of_each : ∀ {us : List Value} {L : List (Addr × D)}, PySem.W.EachIs (fun v (p : Addr × D) => v = Value.ref p.1) us L → us = L.map fun p => Value.ref p.1
  | _, _, .nil => rfl
  | _, _, .cons e t => by rw [e, refs_of_each t]; rfl
/-- values that are the addresses of entries -/
theorem entries_of {L : List (Addr × D)} : ∀ {vs : List Value}, (∀ v ∈ vs, ∃ q ∈ L, v = Value.ref q.1) → ∃ M : List (Addr × D), vs = M.map (fun q => Value.ref q.1) ∧ ∀ q ∈ M, q ∈ L
  | [], _ => ⟨[], rfl, fun q hq => (by cases hq)⟩
  | v :: vs, h => by
    obtain ⟨q, hq, e⟩ := h v List.mem_cons_self
    obtain ⟨M, e1, e2⟩ := entries_of fun u hu => h u (List.mem_cons_of_mem _ hu)
    refine ⟨q :: M, by rw [List.map_cons, e, e1], fun r hr => ?_⟩
    rcases List.mem_cons.mp hr with rfl | hr
    · exact hq
    · exact e2 r hr
mutual
theorem reads_nil {h : Heap} : ∀ (d : D) (v : Value) (as : List Addr), d.nk = true → Reads h v d.py as → as = []
  | .int i, v, as, _, r => by rw [D.py] at r; cases r; rfl
  | .tup ds, v, as, hn, r => by
    rw [D.nk] at hn
    rw [D.py] at r
    cases r with
    | tuple _ _ _ h4 => exact reads_nils ds _ _ hn h4
  | .non, _, _, h, _ | .bl _, _, _, h, _ | .str _, _, _, h, _ | .lst _, _, _, h, _ | .rol _, _, _, h, _ | .dct _ _, _, _, h, _ | .loc _, _, _, h, _ | .fn _, _, _, h, _ => by simp [D.nk] at h
theorem reads_nils {h : Heap} : ∀ (ds : List D) (vs : List Value) (as : List Addr), D.nks ds = true → ReadsAll h vs (D.pys ds) as → as = []
  | [], _, _, _, r => by rw [D.pys] at r; cases r; rfl
  | d :: ds, _, _, hn, r => by
    rw [D.nks, Bool.and_eq_true] at hn
    rw [D.pys] at r
    cases r with
    | cons r1 r2 =>
      rw [reads_nil d _ _ hn.1 r1, reads_nils ds _ _ hn.2 r2]
      rfl
end
theorem few_same {M : List (Addr × D)} {ps : List (Value × Value)} (h : M.length < 2) (e : ps.Perm ((M.map fun q => Value.ref q.1).zip (M.map fun q => Value.ref q.1))) : ps.map Prod.snd = M.map fun q => Value.ref q.1 := by
  match M, h with
  | [], _ =>
    have := e.length_eq
    simp at this
    subst this
    rfl
  | [q], _ =>
    obtain rfl : ps = [(Value.ref q.1, Value.ref q.1)] := List.perm_singleton.mp e
    rfl
/-- the keys of a set in order -/
def inOrder (L' L : List (Addr × D)) : Prop := L'.Perm L ∧ (fullN (L.map (·.2)) = true → L'.map (·.2) = sortN (L.map (·.2)))
theorem sorted_setN {a : Addr} {L : List (Addr × D)} {es : Array (Int × Value)} {ep : Nat} {t : SetTable} {Q : Value → Shared → Prop} (R : SetN P w s.heap a L es ep t) (hh : A.handled = none) (hu : A.units + 20 < cLine) (reads : ∀ p ∈ L, ∃ as, Reads s.heap (.ref p.1) p.2.py as) (able : fullN (L.map (·.2)) = true ∨ L.length < 2)
    (hQ : ∀ s' p (out : Array Value) (c : Nat) (L' : List (Addr × D)), (∀ b o, s.heap.get? b = some o → s'.heap.get? b = some o) → s'.gens = s.gens → s'.os = s.os → s.heap.objs.size ≤ p →
      s'.heap.get? p = some (seqObj "list" out c) → out.toList = L'.map (fun q => Value.ref q.1) → inOrder L' L → Q (.ref p) s') :
    wpAny (model P w) A (call (.builtin "sorted") [.ref a]) Q E s := by
  obtain ⟨o, ho, exact_, data⟩ := R.obj
  have size := rowsN_len R.rows
  have few := R.few
  refine Calls.call_function_entry kind_sorted plain_sorted entry_sorted (args_sorted1 _) ?_
  unfold Builtin.«sorted»
  refine wpAny_bind (m := checkCount "sorted" 1 1 _) (wpAny_pure ?_)
  refine wpAny_bind (collect_set (A := A.in1) hh ⟨o, ho, exact_.1, data⟩ R.fits (by unfold scanBound; omega) R.table.ris R.led fun s1 vs kept grown gens os perm => ?_)
  have refs : es.toList.map (·.2) = L.map fun q => Value.ref q.1 := by
    rw [R.rows, rowsN, List.map_map]
    rfl
  rw [refs] at perm
  obtain ⟨M, rfl, inL⟩ := entries_of (L := L) (vs := vs) fun v hv => by
    obtain ⟨q, hq, e⟩ := List.mem_map.mp (perm.mem_iff.mp hv)
    exact ⟨q, hq, e.symm⟩
  have one : ∀ q ∈ L, ∀ r ∈ L, q.1 = r.1 → q = r := fun q hq r hr e => by
    have k1 := R.keys q hq
    have k2 := R.keys r hr
    rw [e] at k1
    exact Prod.ext e (k1.inj k2)
  have nodL : L.Nodup := L2.nodup_of_map R.once
  have refsN : (L.map fun q => Value.ref q.1).Nodup := by
    refine List.pairwise_map.mpr (List.Pairwise.imp_of_mem (fun {q r} hq hr ne e => ?_) nodL)
    injection e with e
    exact ne (one q hq r hr e)
  have permM : M.Perm L := by
    have nodM : M.Nodup := L2.nodup_of_map (perm.nodup_iff.mpr refsN)
    refine (List.perm_ext_iff_of_nodup nodM nodL).mpr fun q => ⟨inL q, fun hq => ?_⟩
    obtain ⟨r, hr, e⟩ := List.mem_map.mp (perm.mem_iff.mpr (List.mem_map.mpr ⟨q, hq, rfl⟩))
    injection e with e
    rw [← one r (inL r hr) q hq e]
    exact hr
  have lenM : M.length < 64 := by rw [permM.length_eq]; exact few
  have lenR : (M.map fun q => Value.ref q.1).length < 64 := by rw [List.length_map]; exact lenM
  refine wpAny_bind (wpAny_newList ?_ (by rw [sizeLine_eq]; omega))
  have list : (s1.heap.push (seqObj "list" (M.map fun q => Value.ref q.1).toArray 0)).get? s1.heap.objs.size = some (seqObj "list" (M.map fun q => Value.ref q.1).toArray 0) := Heap.get?_push_size _ rfl
  have fin : ∀ (out : List Value) (L' : List (Addr × D)), out = L'.map (fun q => Value.ref q.1) → inOrder L' L →
      Q (.ref s1.heap.objs.size) { s1 with heap := sortedHeap (s1.heap.push (seqObj "list" (M.map fun q => Value.ref q.1).toArray 0)) s1.heap.objs.size (M.map fun q => Value.ref q.1) out.toArray } := by
    intro out L' e io
    obtain ⟨c, hc⟩ := sortedHeap_at (vs := M.map fun q => Value.ref q.1) (out := out.toArray) list
    refine hQ _ s1.heap.objs.size out.toArray c L' (fun b u eb => ?_) gens os grown hc (by simpa using e) io
    have q := kept b u eb
    have lt := Heap.lt_size q
    show (sortedHeap (s1.heap.push (seqObj "list" (M.map fun q => Value.ref q.1).toArray 0)) s1.heap.objs.size (M.map fun q => Value.ref q.1) out.toArray).get? b = some u
    rw [sortedHeap_old (Nat.ne_of_lt lt) (by rw [size_push']; exact Nat.lt_succ_of_lt lt)]
    exact Heap.get?_push_of_some _ q
  by_cases full : fullN (L.map (·.2)) = true
  · have fullM : fullN (M.map (·.2)) = true := fullN_perm (permM.map _) full
    have key : ∀ p ∈ M, p.2 ∈ M.map (·.2) := fun p hp => List.mem_map.mpr ⟨p, hp, rfl⟩
    have er : PySem.W.EachIs (fun v (p : Addr × D) => ∃ as, Reads (s1.heap.push (seqObj "list" (M.map fun q => Value.ref q.1).toArray 0)) v p.2.py as ∧ s1.heap.objs.size ∉ as) (M.map fun q => Value.ref q.1) M := by
      refine each_of_refs M fun p hp => ?_
      obtain ⟨as, r⟩ := reads p (inL p hp)
      have nil := reads_nil p.2 _ as (fullN_mem fullM (key p hp)).2.2.1 r
      subst nil
      exact ⟨[], PyProof.Rows.Reads.keeps (fun b u e => Heap.get?_push_of_some _ (kept b u e)) r, by simp⟩
    refine wpAny_bind (wpAny_holding (PySem.W.list_sort_data (s := { s1 with heap := s1.heap.push (seqObj "list" (M.map fun q => Value.ref q.1).toArray 0) }) (enc := fun p : Addr × D => p.2.py) list (each_refs M) er ?_ (.inl ?_) (by rw [sizeLine_eq]; omega) (fun b hb => ?_) fun out _ eo => ?_))
    · intro d hd d' hd'
      obtain ⟨p, hp, rfl⟩ := List.mem_map.mp hd
      obtain ⟨q, hq, rfl⟩ := List.mem_map.mp hd'
      exact (alk_py _ _ ((fullN_mem fullM (key p hp)).2.2.2 _ (key q hq))).1
    · intro d hd
      obtain ⟨p, hp, rfl⟩ := List.mem_map.mp hd
      have := (fullN_mem fullM (key p hp)).1
      cases e : p.2 with
      | tup xs =>
        rw [e] at this
        cases xs with
        | nil => simp [D.full] at this
        | cons x xs => exact ⟨_, _, by rw [D.py, D.pys]⟩
      | _ => rw [e] at this; simp [D.full] at this
    · have := (keyT_good (fullN_mem fullM (key b hb)).2.1).2
      have := dep_py b.2
      show A.units + 1 + 1 + b.2.py.depth < cLine
      omega
    · refine wpAny_pure ⟨_, rfl, fin out _ (refs_of_each eo) ⟨(List.mergeSort_perm _ _).trans permM, fun _ => ?_⟩⟩
      rw [← sortN_of_perm full (permM.map (·.2))]
      unfold sortN
      rw [List.map_mergeSort (s := D.leN)]
      intro x hx y hy
      rw [PySem.W.dataLe_eq]
      show (!PySem.W.dataLt y.2.py x.2.py) = _
      rw [ltn_py _ _ ((fullN_mem fullM (key y hy)).2.2.2 _ (key x hx))]
      rfl
  · have short : M.length < 2 := by rw [permM.length_eq]; exact able.resolve_left full
    refine wpAny_bind (wpAny_holding (wpAny_call_entry slot_list_sort ⟨_, list, rfl⟩ entry_list_sort (SK.plain_sort (r := fun _ => 0) list (by omega) (fun h2 => by rw [List.length_map] at h2; omega) fun ps out e1 e2 e3 => ?_) (args_list_sort _)))
    have same : out.toList = M.map fun q => Value.ref q.1 := e1.trans (few_same short e2)
    refine ⟨_, rfl, wpAny_pure ⟨_, rfl, ?_⟩⟩
    have := fin out.toList M same ⟨permM, fun z => absurd z full⟩
    rwa [Array.toArray_toList] at this
end

/-! ### sorted(set(e)), e a list of nested tuples of ints -/
def setNB (w : World) (a : Addr) (L : List (Addr × D)) (h : Heap) : Prop := ∃ (es : Array (Int × Value)) (ep : Nat) (t : SetTable), (∃ o, h.get? a = some o ∧ o.ExactSet ∧ o.data = .set es ep t) ∧ es.toList = rowsN w L ∧ L2.TabOk t (L.map fun p => hashN w p.2) ∧ (L.map (·.2)).Nodup ∧ t.plain = true ∧
  (w.params.followText "set-order" = true ∨ t.led = true) ∧ L.length * 5 < t.mask * 3 ∧ L.length < 64
def SetNO (w : World) (a : Addr) (L : List (Addr × D)) : HO := .ext (setNB w a L)
section
variable {X : Cx} {g : G} {cf : Call} {Γ : Gm} {W : WX} {e : Expr} {p pos : Pos} {a : EV.X}
def KeyV (K : PySem.W.Frag) (g : G) (l μ : List Addr) (st : Store) (H : Hp) (q : Addr × D) : Prop := keyOk true q.2 = true ∧ Rep K (g.h l) μ st H q.2 (.ref q.1)
theorem KeyV.tup {pins : List (Addr × Obj)} {σ : L2.St} {H : Hp} {s : Shared} {l μ : List Addr} {st : Store} {q : Addr × D} (I : Inv X pins σ H s) (k : KeyV X.K g l μ st H q) : TupAt s.heap q.2 q.1 := ⟨nk_is I k.2 (full_nk k.1) rfl, k.1⟩
theorem vals_refs_eq : ∀ {ks : List (Addr × D)} {us : List Value}, Vals (ks.map fun p => V.ref p.1) us → us = ks.map fun p => Value.ref p.1
  | [], _, .nil => rfl
  | _ :: _, _, .cons r t => by
    cases r
    rw [vals_refs_eq t]
    rfl
theorem tup_ref {K : PySem.W.Frag} {l μ : List Addr} {st : Store} {H : Hp} {d : D} {v : V} (r : Rep K (g.h l) μ st H d v) (h : keyOk true d = true) : ∃ b, v = .ref b := by
  cases r <;> first | exact ⟨_, rfl⟩ | (simp [keyOk] at h)
def rSetN (K : PySem.W.Frag) (w : World) (g : G) : List V → Hp → VK → Prop := fun xs H Q => ∃ (gl μ : List Addr) (st : Store) (l : Addr) (ks : List (Addr × D)), xs = [V.ref l] ∧ SqL K H l (ks.map fun p => V.ref p.1) ∧ (∀ p ∈ ks, KeyV K g gl μ st H p) ∧ ks.length < 64 ∧
  ∀ a L, H a = none → Came ks ks.length L → (L.map (·.2)).Nodup → Q (.ref a) (upd H a (SetNO w a L))
theorem cr_setN (hc : X.calm = true) (hu : X.A.units + 65 < cLine) : CallR X (.type "set") (rSetN X.K X.w g) := by
  intro pins s σ H xs us Q I r h
  obtain ⟨gl, μ, st, l, ks, rfl, hl, hk, few, q⟩ := h
  obtain ⟨u, rfl, ru⟩ := vals1 r
  obtain rfl : u = Value.ref l := ru
  obtain ⟨its, rv, pl, hz⟩ := I.list hl
  have new : H s.heap.objs.size = none := I.hok.fresh (Nat.le_refl _)
  refine call_setN (P := X.prog) (w := X.w) ks (I.ok.hd hc) pl.isList (by simpa using vals_refs_eq rv) (fun p hp => (hk p hp).tup I) few (by omega) fun h' tk L es ep t R c kp => ?_
  refine ⟨.ref s.heap.objs.size, upd H s.heap.objs.size (SetNO X.w s.heap.objs.size L), I.laid (t' := tk) kp (Nat.le_refl _) ?_, rfl, q _ L new c R.once⟩
  have facts : setNB X.w s.heap.objs.size L h' := ⟨es, ep, t, R.obj, R.rows, R.table, R.once, R.plain, R.led, R.loose, R.few⟩
  obtain ⟨o, ho, _⟩ := R.obj
  refine ⟨facts, ⟨o, ho⟩, fun h1 h2 f st => ?_⟩
  obtain ⟨es', ep', t', ⟨o', ho', r'⟩, more⟩ := (show setNB X.w s.heap.objs.size L h1 from f)
  exact ⟨es', ep', t', ⟨o', st o' ho', r'⟩, more⟩
def rSortedN (K : PySem.W.Frag) (w : World) (g : G) : List V → Hp → VK → Prop := fun xs H Q => ∃ (gl μ : List Addr) (st : Store) (a : Addr) (L : List (Addr × D)), xs = [V.ref a] ∧ H a = some (SetNO w a L) ∧ (∀ p ∈ L, KeyV K g gl μ st H p) ∧ (fullN (L.map (·.2)) = true ∨ L.length < 2) ∧
  ∀ p L', H p = none → inOrder L' L → Q (.ref p) (upd H p (.lst (L'.map fun q => V.ref q.1)))
theorem vals_refs : ∀ (L : List (Addr × D)), Vals (L.map fun p => V.ref p.1) (L.map fun p => Value.ref p.1)
  | [] => .nil
  | _ :: L => .cons rfl (vals_refs L)
theorem cr_sortedN (hc : X.calm = true) (hu : X.A.units + 65 < cLine) : CallR X (.builtin "sorted") (rSortedN X.K X.w g) := by
  intro pins s σ H xs us Q I r h
  obtain ⟨gl, μ, st, a, L, rfl, ha, hk, able, q⟩ := h
  obtain ⟨u, rfl, ru⟩ := vals1 r
  obtain rfl : u = Value.ref a := ru
  obtain ⟨es, ep, t, obj, rows, table, once, plain, led, loose, few⟩ := (show setNB X.w a L s.heap from (I.hok a _ ha).1)
  have R : SetN X.prog X.w s.heap a L es ep t := ⟨obj, rows, table, once, fun p hp => (hk p hp).tup I, plain, led, loose, few⟩
  refine sorted_setN R (I.ok.hd hc) (by omega) (fun p hp => Dp.reads I _ _ _ ((hk p hp).2.dp (keyT_good (hk p hp).1).1) rfl) able fun s' p out c L' kp gens os ge list outs io => ?_
  have new : H p = none := I.hok.fresh ge
  have len : L'.length < 64 := by rw [io.1.length_eq]; exact few
  have vals : Vals (L'.map fun q => V.ref q.1) out.toList := by rw [outs]; exact vals_refs L'
  have hlen : (L'.map fun q => V.ref q.1).length ≤ sizeLine := by rw [List.length_map, sizeLine_eq]; omega
  have J : Inv X pins σ (upd H p (.lst (L'.map fun q => V.ref q.1))) { s with heap := s'.heap, gens := s'.gens, drawn := s'.drawn, toks := s'.toks } :=
    I.call (ch := []) (Un.laid kp ge new) (I.hok.laid kp ge ⟨hlen, out.toList, c, vals, list⟩) (by rw [gens]; exact I.bare) (fun _ z => nomatch z)
  have whole : s' = { s with heap := s'.heap, gens := s'.gens, drawn := s'.drawn, toks := s'.toks } := by
    cases s'
    cases s
    cases os
    rfl
  rw [whole]
  exact ⟨.ref p, _, J, rfl, q p L' new io⟩
/-- the keys of a list, with their places -/
theorem keys_of {K : PySem.W.Frag} {l μ : List Addr} {st : Store} {H : Hp} : ∀ {ds : List D} {ys : List V}, Reps K (g.h l) μ st H ds ys → (∀ d ∈ ds, keyOk true d = true) → ∃ ks : List (Addr × D), ys = ks.map (fun p => V.ref p.1) ∧ ds = ks.map (·.2) ∧ ∀ p ∈ ks, KeyV K g l μ st H p
  | _, _, .nil, _ => ⟨[], rfl, rfl, fun _ h => (by cases h)⟩
  | _, _, .cons (d := d) r t, h => by
    obtain ⟨b, rfl⟩ := tup_ref r (h d List.mem_cons_self)
    obtain ⟨ks, e1, e2, e3⟩ := keys_of t fun d hd => h d (List.mem_cons_of_mem _ hd)
    refine ⟨(b, d) :: ks, by rw [e1]; rfl, by rw [e2]; rfl, fun p hp => ?_⟩
    rcases List.mem_cons.mp hp with rfl | hp
    · exact ⟨h d List.mem_cons_self, r⟩
    · exact e3 p hp
theorem c_srn {p2 pos2 : Pos} (G : Good g cf Γ X W) (hc : Γ.calm = true) (h1 : glb Γ.sc "sorted" = true) (h2 : glb Γ.sc "set" = true) (hs : (!isStar e) = true) (ha : PE X e (rdX X.K g (evX cf a) W)) :
    PE X (.Call (.Name "sorted" p) [.Call (.Name "set" p2) [e] [] pos2] [] pos) (rdX X.K g (evX cf (.srn a)) W) := by
  refine (pe_callB (cr_sortedN (g := g) (G.calm hc) G.hu) (G.gl h1) (G.bn _ (by decide)) (by decide +kernel) (pa_cons (pe_callTy (cr_setN (g := g) (G.calm hc) G.hu) (G.gl h2) (G.bn _ (by decide)) (by decide +kernel) (pa_cons ha pa_nil (star_one hs)) (by decide) (by decide) (star_one hs) (by rfl)) pa_nil rfl) (by decide) (by decide) rfl (by rfl)).imp fun σ H Q ⟨l, e, st, μ, R, S, P⟩ => ?_
  rw [evX] at P
  refine ⟨l, e, st, μ, R, S, P.seq fun x st1 μ1 H1 v1 E1 R1 r1 P1 => ?_⟩
  obtain ⟨d, hd, P2⟩ := P1.ofOpt
  cases x with
  | lst ds =>
    simp only [evSrn] at hd
    split at hd
    · rename_i cond
      simp only [Bool.and_eq_true, decide_eq_true_eq] at cond
      have okk : ∀ d ∈ ds, keyOk true d = true := fun d hd => List.all_eq_true.mp cond.1 d hd
      have nks : ∀ d ∈ ds, d.nk = true := fun d hd => full_nk (okk d hd)
      obtain ⟨ad, ys, rfl, hl, l1, rs⟩ := r1.seqL
      obtain ⟨ks, rfl, eds, hk⟩ := keys_of rs okk
      have lenk : ks.length = ds.length := by rw [eds, List.length_map]
      refine ⟨l, μ1, st1, ad, ks, rfl, hl, hk, by omega, fun sa L new c once => ?_⟩
      have sub : ∀ p ∈ L, p ∈ ks := fun p hp => List.mem_of_mem_take (c.from_ p hp)
      have perm : (L.map (·.2)).Perm (nubD ds) := by
        refine nubD_perm nks once fun x => ?_
        constructor
        · intro hx
          obtain ⟨p, hp, rfl⟩ := List.mem_map.mp hx
          rw [eds]
          exact List.mem_map.mpr ⟨p, sub p hp, rfl⟩
        · intro hx
          rw [eds] at hx
          obtain ⟨p, hp, rfl⟩ := List.mem_map.mp hx
          exact c.all p (by rw [List.take_length]; exact hp)
      obtain ⟨R2, E2⟩ := R1.upd_free (o := SetNO X.w sa L) new
      have hkL : ∀ p ∈ L, KeyV X.K g l μ1 st1 (upd H1 sa (SetNO X.w sa L)) p := fun p hp => ⟨(hk p (sub p hp)).1, (hk p (sub p hp)).2.ext R1 E2⟩
      have able : fullN (L.map (·.2)) = true ∨ L.length < 2 := by
        split at hd
        · rename_i full
          exact .inl (fullN_perm perm full)
        · split at hd
          · rename_i one
            have := perm.length_eq
            rw [one, List.length_map] at this
            exact .inr (by simp at this; omega)
          · cases hd
      refine ⟨l, μ1, st1, sa, L, rfl, upd_same, hkL, able, fun p L' newp io => ?_⟩
      have repL : Reps X.K (g.h l) μ1 st1 (upd H1 sa (SetNO X.w sa L)) (L'.map (·.2)) (L'.map fun q => V.ref q.1) := by
        have : ∀ M : List (Addr × D), (∀ q ∈ M, q ∈ L) → Reps X.K (g.h l) μ1 st1 (upd H1 sa (SetNO X.w sa L)) (M.map (·.2)) (M.map fun q => V.ref q.1) := by
          intro M
          induction M with
          | nil => exact fun _ => .nil
          | cons q M ih => exact fun h => .cons (hkL q (h q List.mem_cons_self)).2 (ih fun r hr => h r (List.mem_cons_of_mem _ hr))
        exact this L' fun q hq => io.1.mem_iff.mp hq
      have lenL : (L'.map (·.2)).length ≤ most := by
        rw [List.length_map, io.1.length_eq, ← List.length_map (f := fun p : Addr × D => p.2), perm.length_eq]
        have : (nubD ds).length ≤ ds.length := by
          have : ∀ l : List D, (nubD l).length ≤ l.length := by
            intro l
            induction l with
            | nil => exact Nat.le_refl _
            | cons y l ih =>
              rw [nubD]
              split
              · exact Nat.le_succ_of_le ih
              · exact Nat.succ_le_succ ih
          exact this ds
        unfold most at l1 ⊢
        omega
      obtain ⟨E3, R3, r3⟩ := new_lst R2 newp lenL repL
      have same : d = .lst (L'.map (·.2)) := by
        split at hd
        · rename_i full
          cases hd
          rw [io.2 (fullN_perm perm full), sortN_of_perm full perm]
        · split at hd
          · rename_i one
            cases hd
            have p1 := (io.1.map (·.2)).trans perm
            rw [one] at p1
            rw [List.perm_singleton.mp p1]
          · cases hd
      rw [same] at P2
      exact P2 _ _ _ (E2.trans E3) R3 r3
    · cases hd
  | _ => simp [evSrn] at hd
end
end EV
/-! EvH: comprehensions; every expression that passes the check is sound. -/
namespace EV
open PySem PySem.Spec PyProof.Rows L2

section
variable {g : G} {cf : Call} {Γ : Gm} {X : Cx} {W : WX} {e e2 ea eb ec etg : Expr} {es : List Expr} {pos p : Pos} {a b c x y : EV.X} {xs : Xs}
abbrev W0 : WX := fun _ _ _ _ => False
theorem Good.blk (G : Good g cf Γ X W) {s : Shared} {H : Hp} {scope : Scope} {cl : List (Str × Addr)} {C : Addr} {fp : List Addr} : Good g cf (Γ.blk scope) (X.blk s H scope (compEnvC scope cl C X.env) fp) W0 where
  N := G.N
  nd := G.nd
  sc := by show relS scope X.env.scope = relS scope Γ.sc; rw [G.sc]
  calm := G.calm
  room := G.room
  hu := G.hu
  tk := fun u s' ⟨a, B, sI, pins, σ, H, cls, d, e, I, nb, up, sky, na, os, ag, w⟩ => w
  po := fun h => by cases h
  fk := fun h => by cases h
  fn := fun x h => by
    have h : scope.names.lookup x = some .cell := h
    show (scope.names.lookup x == some .cell) = true
    rw [h]
    rfl
  stk := fun h => by cases h
  bn := G.bn
  tab := G.tab
  tlv := G.tlv
  wrd := G.wrd
  lamk := G.lamk
  cst := G.cst
  gp := G.gp
theorem ownN_snd {N : List Str} {own : List Nat} : (ownN N own).map (·.2) = own := by
  unfold ownN
  rw [List.map_map]
  conv => rhs; rw [← List.map_id own]
  rfl
theorem wipe_get {σ : L2.St} {j : Nat} : ∀ {vs : List Nat}, j ∉ vs → (wipe σ vs)[j]? = σ[j]?
  | [], _ => rfl
  | v :: vs, h => by
    rw [List.mem_cons, not_or] at h
    rw [L2.wipe, List.getElem?_set_ne (fun z => h.1 z.symm), wipe_get h.2]
theorem wipe_mem {σ : L2.St} {j : Nat} : ∀ {vs : List Nat}, j ∈ vs → j < σ.length → (wipe σ vs)[j]? = some none
  | [], h, _ => by cases h
  | v :: vs, h, hl => by
    rw [L2.wipe]
    by_cases e : v = j
    · subst e
      rw [List.getElem?_set_self (by rw [wipe_length]; exact hl)]
    · rw [List.getElem?_set_ne e]
      rcases List.mem_cons.mp h with z | z
      · exact absurd z.symm e
      · exact wipe_mem z hl
theorem wipe_same {σ σ' : L2.St} {vs : List Nat} (l : σ'.length = σ.length) (h : ∀ j, j ∉ vs → σ'[j]? = σ[j]?) : wipe σ' vs = wipe σ vs := by
  apply List.ext_getElem?
  intro j
  by_cases hj : j ∈ vs
  · by_cases hl : j < σ.length
    · rw [wipe_mem hj (by rw [l]; exact hl), wipe_mem hj hl]
    · rw [List.getElem?_eq_none (by rw [wipe_length]; omega), List.getElem?_eq_none (by rw [wipe_length]; omega)]
  · rw [wipe_get hj, wipe_get hj, h j hj]
theorem wipe_idem {σ : L2.St} {vs : List Nat} : wipe (wipe σ vs) vs = wipe σ vs := wipe_same (wipe_length σ vs) fun j hj => wipe_get hj
theorem sz_most {n : Nat} (h : n ≤ most) : n ≤ sizeLine := by rw [sizeLine_eq]; unfold most at h; omega

/-- what is said of a comprehension's data is what its rule wants -/
theorem lc_rd {mu : Bool} {elt : EV.X} {tg : Tg} {src : Sr} {cond : Xo} {own : List Nat} {K : PySem.W.Frag} (hsub : (tg.slots.all fun j => own.contains j) = true) {σ : L2.St} {H : Hp} {Q : VK} (h : rdX K g (evX cf (.lc mu elt tg src cond own)) W σ H Q) :
    tLc (rdI K g (evSr cf src) W) (rdG K g tg) (rdB K g (evXc cf cond) W0) (rdX K g (evX cf elt) W0) own σ H Q := by
  obtain ⟨l, e, st, μ, R, S, P⟩ := h
  rw [evX] at P
  refine ⟨l, e, st, μ, R, S, P.seq fun items st1 μ1 H1 J E1 R1 ⟨hmost, Gq, Y, wk, hG, hY⟩ P1 D hD => ?_⟩
  have S1 := S.ext R E1
  have nDl : D ∉ l := fun z => by
    obtain ⟨_, xs, q⟩ := R1.hid D z
    rw [hD] at q; cases q
  have hhid : ∀ a ∈ D :: l, a ∈ (g.h l).hid ∨ H1 a = none := fun a ha => by
    rcases List.mem_cons.mp ha with z | z
    · rw [z]; exact .inr hD
    · exact .inl z
  generalize hf : (fun (d : EV.D) (s : Store) => match evTg tg d (wipeE e own) with
      | none => (EV.R.fail : EV.R (Option EV.D))
      | some σ1 => (evXc cf cond σ1 s).bind fun b s1 => if b then (evX cf elt σ1 s1).bind fun x s2 => .ok (some x) s2 else .ok none s1) = f at P1
  refine lc_it wk (fun i H' => ∃ μ' st' acc accV, Ext μ1 st1 H1 μ' st' H' ∧ Rel K (g.h (D :: l)) μ' st' H' ∧ H' D = some (.lst accV) ∧ Reps K (g.h (D :: l)) μ' st' H' acc.reverse accV ∧ acc.length ≤ i ∧
      Post K (g.h l) (Rep K (g.h l)) μ1 st1 H1 ((lcLoop f (items.drop i) acc st').bind fun ds st2 => if mu then .ok (.loc st2.length) (st2 ++ [.lst ds]) else .ok (.lst ds) st2) Q (fun c d H' => W c d σ H')) ?_ ?_ ?_ ?_
  · obtain ⟨R2, E2⟩ := R1.upd_free (o := .lst []) hD
    exact ⟨μ1, st1, [], [], E2, R1.hide hD, upd_same, .nil, Nat.le_refl _, P1⟩
  · rintro i H' hi ⟨μ', st', acc, accV, E, _⟩
    exact hG _ _ _ E
  · rintro i x H2 H3 hi ⟨μ', st', acc, accV, E, R2, hL, rs, hn, PP⟩ y
    have hd : items[i]? = some items[i] := List.getElem?_eq_getElem hi
    obtain ⟨E3, R3, r3⟩ := hY i x H2 H3 items[i] (D :: l) μ' st' hhid E R2 hd y
    have EE := E.trans E3
    have S3 : SlRep K (g.h (D :: l)) μ' st' H3 e σ := ⟨S1.1, fun j d h => let ⟨v, h1, h2⟩ := S1.2 j d h; ⟨v, h1, h2.extH R1 EE hhid⟩⟩
    have S4 := S3.wipe own
    have nLive : ¬ Live μ' st' D := fun ⟨j, o, h1, h2, h3⟩ => (R2.hid D List.mem_cons_self).1 (List.mem_of_getElem? h1)
    have hL3 : H3 D = some (.lst accV) := E3.keep _ _ hL nLive
    have rs3 := rs.ext R2 E3
    rw [List.drop_eq_getElem_cons hi, lcLoop] at PP
    have hfi : f items[i] st' = match evTg tg items[i] (wipeE e own) with
      | none => (EV.R.fail : EV.R (Option EV.D))
      | some σ1 => (evXc cf cond σ1 st').bind fun b s1 => if b then (evX cf elt σ1 s1).bind fun x s2 => .ok (some x) s2 else .ok none s1 := by rw [← hf]
    rw [hfi] at PP
    cases hev : evTg tg items[i] (wipeE e own) with
    | none => rw [hev] at PP; exact PP.elim
    | some e1 =>
      rw [hev] at PP
      simp only [] at PP
      refine ⟨D :: l, μ', st', wipeE e own, items[i], e1, R3, S4, r3, hev, fun σ2 Sσ hσl hσ => ⟨?_, D :: l, e1, st', μ', R3, Sσ, ?_⟩⟩
      · rw [← wipe_idem (σ := σ)]
        refine wipe_same hσl fun j hj => hσ j fun z => hj ?_
        have := List.all_eq_true.mp hsub j z
        simpa using this
      · cases hq : evXc cf cond e1 st' with
        | exc c fs s1 => rw [hq] at PP; exact PP.elim
        | fail => rw [hq] at PP; exact PP.elim
        | ok bv s1 =>
          rw [hq] at PP
          intro μ5 H5 v5 E5 R5 r5
          cases r5
          have nLive3 : ¬ Live μ' st' D := nLive
          have hL5 : H5 D = some (.lst accV) := E5.keep _ _ hL3 nLive3
          cases bv with
          | false =>
            exact ⟨μ5, s1, acc, accV, EE.trans E5, R5, hL5, rs3.ext R3 E5, Nat.le_succ_of_le hn, PP⟩
          | true =>
            refine ⟨D :: l, e1, s1, μ5, R5, Sσ.ext R3 E5, ?_⟩
            simp only [EV.R.bind_ok, if_true] at PP
            cases hq2 : evX cf elt e1 s1 with
            | exc c fs s2 => rw [hq2] at PP; exact PP.elim
            | fail => rw [hq2] at PP; exact PP.elim
            | ok d6 s2 =>
              rw [hq2] at PP
              intro μ6 H6 v6 E6 R6 r6
              have nLive5 : ¬ Live μ5 s1 D := fun ⟨j, o, h1, h2, h3⟩ => (R5.hid D List.mem_cons_self).1 (List.mem_of_getElem? h1)
              have hL6 : H6 D = some (.lst accV) := E6.keep _ _ hL5 nLive5
              have rs6 := (rs3.ext R3 E5).ext R5 E6
              have hlen : accV.length = acc.length := by rw [← rs.length, List.length_reverse]
              refine ⟨accV, hL6, ?_, ?_⟩
              · rw [hlen]
                have : acc.length < most := by omega
                rw [sizeLine_eq]; unfold most at this; omega
              · have rr : Reps K (g.h (D :: l)) μ6 s2 H6 (d6 :: acc).reverse (accV ++ [v6]) := by
                  rw [List.reverse_cons]
                  exact rs6.append (.one r6)
                have hDh : D ∈ (g.h (D :: l)).hid := List.mem_cons_self
                exact ⟨μ6, s2, d6 :: acc, accV ++ [v6], ((EE.trans E5).trans E6).grow hD, R6.grow hDh hL6, upd_same, rr.grow hDh hL6, by rw [List.length_cons]; omega, PP⟩
  · rintro H' ⟨μ', st', acc, accV, E, R2, hL, rs, hn, PP⟩
    rw [List.drop_eq_nil_of_le (Nat.le_refl _), lcLoop] at PP
    have hlen : acc.reverse.length ≤ most := by rw [List.length_reverse]; omega
    have nL := (R2.hid D List.mem_cons_self).1
    cases mu with
    | true =>
      obtain ⟨R3, r3⟩ := R2.adopt hL hlen rs nDl
      exact PP _ _ _ (E.adopt hD) R3 r3
    | false =>
      have R3 := R2.show
      refine PP _ _ _ E R3 (.lst (.inl hL) ?_ nDl hlen rs.show)
      rintro ⟨j, o, h1, h2, h3⟩
      exact nL (List.mem_of_getElem? h1)
theorem set_pure {eiter : Expr} {env : Env} (hs : (!isSet eiter) = true) : ∀ x, foldedSetIterable eiter env x = pure x := by
  intro x
  cases eiter <;> first | rfl | (simp [isSet] at hs)
theorem c_lc {mu : Bool} {elt : EV.X} {tg : Tg} {src : Sr} {cond : Xo} {own : List Nat} {eelt eiter : Expr} {ifs : List Expr} {scope : Scope} (G : Good g cf Γ X W) (hc : Γ.calm = true) (hb : blkC Γ.N Γ.sc scope (ownN Γ.N own) = true)
    (hi : PI X etg eiter (rdI X.K g (evSr cf src) W)) (ht : chkTg (Γ.blk scope) tg etg = true) (hsub : (tg.slots.all fun j => own.contains j) = true)
    (hcnd : ∀ X', X'.K = X.K → Good g cf (Γ.blk scope) X' W0 → PTs X' ifs (rdB X.K g (evXc cf cond) W0)) (he : ∀ X', X'.K = X.K → Good g cf (Γ.blk scope) X' W0 → PE X' eelt (rdX X.K g (evX cf elt) W0)) (hs : (!isSet eiter) = true) :
    PE X (.ListComp eelt [⟨etg, eiter, ifs, 0⟩] scope pos) (rdX X.K g (evX cf (.lc mu elt tg src cond own)) W) := by
  refine (pe_lc (g := rdG X.K g tg) (G.calm hc) G.nd hi (blkOk_by (by rw [G.N, G.sc]; exact hb)) (fun s H C cl fp => tgOk G.blk ht) (fun s H C cl fp => hcnd _ rfl G.blk) (fun s H C cl fp => he _ rfl G.blk) (set_pure hs)).imp fun σ H Q h => ?_
  rw [ownN_snd]
  exact lc_rd hsub h
/-- name = [..] on one line -/
theorem s_lc {mu : Bool} {elt : EV.X} {tg : Tg} {src : Sr} {cond : Xo} {own : List Nat} {eelt eiter : Expr} {ifs : List Expr} {scope : Scope} {i : Nat} {y : Str} {py spos : Pos} (G : Good g cf Γ X W) (hc : Γ.calm = true) (hb : blkC Γ.N Γ.sc scope (ownN Γ.N own) = true)
    (hi : PI X etg eiter (rdI X.K g (evSr cf src) W)) (ht : chkTg (Γ.blk scope) tg etg = true) (hsub : (tg.slots.all fun j => own.contains j) = true)
    (hcnd : ∀ X', X'.K = X.K → Good g cf (Γ.blk scope) X' W0 → PTs X' ifs (rdB X.K g (evXc cf cond) W0)) (he : ∀ X', X'.K = X.K → Good g cf (Γ.blk scope) X' W0 → PE X' eelt (rdX X.K g (evX cf elt) W0)) (hs : (!isSet eiter) = true)
    (hy : Γ.N[i]? = some y) (hyl : Γ.sc.names.lookup y = some .local) (hsw : swapsWith (.ListComp eelt [⟨etg, eiter, ifs, 0⟩] scope pos) (some (.Name y py)) spos.line X.env = pure true) :
    PS X (.Assign [.Name y py] (.ListComp eelt [⟨etg, eiter, ifs, 0⟩] scope pos) spos) (tAsg (rdX X.K g (evX cf (.lc mu elt tg src cond own)) W) (gName i)) := by
  refine (ps_setLc (g := rdG X.K g tg) (G.calm hc) G.nd (by rw [G.N]; exact hy) (by rw [G.sc]; exact hyl) hsw hi (blkOk_by (by rw [G.N, G.sc]; exact hb)) (fun s H C cl fp => tgOk G.blk ht) (fun s H C cl fp => hcnd _ rfl G.blk) (fun s H C cl fp => he _ rfl G.blk) (set_pure hs)).imp fun D σ H h => ?_
  rw [ownN_snd]
  exact lc_rd hsub h
end
end EV
/-! EvY: a lambda handed to a def that tries it. -/
namespace EV
open PySem PySem.Spec PyProof.Rows L2 LamX

theorem Wd.beq_eq : ∀ {a b : Wd}, Wd.beq a b = true → a = b
  | .con a, .con b, h => by rw [Wd.beq] at h; rw [D.beq_eq _ _ h]
  | .atr, .atr, _ => rfl
  | .con _, .atr, h => by simp [Wd.beq] at h
  | .atr, .con _, h => by simp [Wd.beq] at h
theorem wdsBeq_eq : ∀ {a b : List (Nat × Wd)}, wdsBeq a b = true → a = b
  | [], [], _ => rfl
  | (a, x) :: r, (b, y) :: t, h => by
    rw [wdsBeq, Bool.and_eq_true, Bool.and_eq_true, decide_eq_true_eq] at h
    rw [h.1.1, Wd.beq_eq h.1.2, wdsBeq_eq h.2]
  | [], _ :: _, h => by simp [wdsBeq] at h
  | _ :: _, [], h => by simp [wdsBeq] at h
theorem wHs_h {g : G} {l : List Addr} {c : Nat} {dd : Option Addr} {H : Hp} {Q : VK} : ∀ {hs : List (Nat × Wd)}, wHs (g.h l) hs c dd H Q → wHs g hs c dd H Q
  | [], h => h.elim
  | (k, w) :: r, h => by
    rw [wHs] at h ⊢
    split
    · rename_i e
      rw [if_pos e] at h
      cases w <;> exact h
    · rename_i e
      rw [if_neg e] at h
      exact wHs_h h
section
variable {g : G} {cf : Call} {Γ : Gm} {X : Cx} {W : WX} {e : Expr} {x : EV.X}
theorem Good.lamC (G : Good g cf Γ X W) {scope : Scope} (L : LamS X.env.scope scope) {A : Around} {outer : List Env} {s : Shared} {H : Hp} {E : XK} {f c' : Addr} (hr : Room Γ.tl (A.deeper (lamEnv X scope s.heap.objs.size f c'))) :
    Good g cf (Γ.lamG scope) (lamCx X A outer s H E scope f c') (fun cls d _ H => E cls d H) where
  N := G.N
  nd := G.nd
  sc := rfl
  calm := fun _ => rfl
  room := fun _ => hr
  hu := show (A.deeper (lamEnv X scope s.heap.objs.size f c')).units + 65 < cLine by have := hr.un; omega
  tk := takes_of rfl rfl rfl rfl
  po := fun h => by cases h
  fk := fun h => by cases h
  fn := fun y h => absurd rfl (L.own (y, .cell) (PySem.mem_of_lookup h)).2
  stk := fun h => by cases h
  bn := G.bn
  tab := G.tab
  tlv := Nat.le_refl _
  wrd := G.wrd
  lamk := fun h => by cases h
  cst := G.cst
  gp := G.gp
theorem c_tri {keep : Bool} {c0 : D} {hs : List (Nat × Wd)} {scope : Scope} {body : Expr} (G : Good g cf Γ X W) (ha : triArg Γ keep c0 hs e = some (scope, body))
    (hx : ∀ X' W', X'.K = X.K → Good g cf (Γ.lamG scope) X' W' → PE X' body (rdX X'.K g (evX cf x) W')) : PE X e (rdX X.K g (evX cf (.tri keep c0 hs x)) W) := by
  unfold triArg at ha
  split at ha
  · rename_i n np params body' scope' lpos pos
    split at ha
    · rename_i cond
      cases ha
      simp only [triCond, Bool.and_eq_true] at cond
      obtain ⟨⟨⟨⟨⟨⟨⟨⟨hc, hl⟩, hg⟩, hd⟩, hp⟩, hs'⟩, hc0⟩, hw⟩, hlook⟩ := cond
      unfold wdIs at hlook
      split at hlook
      · rename_i k c h hlk
        simp only [Bool.and_eq_true, beq_iff_eq] at hlook
        obtain ⟨⟨rfl, e1⟩, e2⟩ := hlook
        obtain rfl := D.beq_eq _ _ e1
        obtain rfl := wdsBeq_eq e2
        obtain ⟨M, lv⟩ := G.lamk hl
        have L : LamS X.env.scope scope := by rw [G.sc]; exact lamS_by hs'
        refine (pe_lamW (k := Γ.tl) (t := fun E => rdX X.K g (evX cf x) (fun cls d _ H => E cls d H)) G.tk (G.wrd n _ _ _ hlk) M (G.gl hg) (dbg_ne hd) ((G.room hc).mono lv) L (noPar_ok hp) (fun σ E E' H Q Q' hE hQ ⟨l, e, st, μ, R, S, P⟩ => ⟨l, e, st, μ, R, S, P.imp hQ fun c d H' => hE c d H'⟩) fun E A outer s H f c' hr => hx _ _ rfl (G.lamC L hr)).imp fun σ H Q ⟨l, e, st, μ, R, S, P⟩ => ?_
        refine ⟨R.tabs, fun H1 ext here tabs => ?_⟩
        obtain ⟨E1, R1⟩ := R.extN ext here tabs
        refine ⟨l, e, st, μ, R1, S.ext R E1, ?_⟩
        have P1 := P.rebase E1
        rw [evX] at P1
        generalize evX cf x e st = r at P1 ⊢
        cases r with
        | ok d st' =>
          intro μ' H' v E' R' r'
          cases k with
          | true => exact P1 μ' H' v E' R' r'
          | false => exact P1 μ' H' _ E' R' (Rep.con hc0)
        | exc c fs st' =>
          intro μ' H' cls dd E' R' x'
          refine ⟨c, x'.1, ?_⟩
          exact wHs_h (wHs_of (Q := Q) E' R' x' hw P1)
        | fail => exact P1
      · cases hlook
    · cases ha
  · cases ha
end
theorem triArg_plain {Γ : Gm} {keep : Bool} {c0 : D} {hs : List (Nat × Wd)} {e : Expr} {r : Scope × Expr} (h : triArg Γ keep c0 hs e = some r) : plainT e = true := by
  unfold triArg at h
  split at h
  · rfl
  · cases h
end EV
/-! EvS: a[::-1] of tuples and lists. -/
namespace EV
open PySem PySem.Spec PyProof.Rows L2
theorem turn_adjust (n : Nat) : Builtin.Slice.sliceAdjust none none (-1) (n : Int) = ((n : Int) - 1, -1) := rfl
theorem turn_places (n : Nat) : Builtin.Slice.slicePlaces ((n : Int) - 1) (-1) (-1) = n := by
  unfold Builtin.Slice.slicePlaces
  rw [if_neg (by decide : ¬ ((-1 : Int) > 0))]
  by_cases c : (n : Int) - 1 > -1
  · have e : ((n : Int) - 1 - -1 - 1) / (- -1) = (n : Int) - 1 := by
      rw [show (- -1 : Int) = 1 from rfl, Int.ediv_one]
      omega
    rw [if_pos c, e]
    omega
  · rw [if_neg c]
    omega
theorem fm_congr {α β : Type} {f g : α → Option β} : ∀ {l : List α}, (∀ k ∈ l, f k = g k) → l.filterMap f = l.filterMap g
  | [], _ => rfl
  | x :: l, h => by rw [List.filterMap_cons, List.filterMap_cons, h x List.mem_cons_self, fm_congr fun k hk => h k (List.mem_cons_of_mem _ hk)]
theorem turn_pick (xs : Array Value) : ((List.range xs.size).filterMap fun (k : Nat) => xs[((xs.size : Int) - 1 + (k : Int) * (-1)).toNat]?).toArray = xs.toList.reverse.toArray := by
  congr 1
  have e : ∀ k ∈ List.range xs.size, xs[((xs.size : Int) - 1 + (k : Int) * (-1)).toNat]? = xs.toList.reverse[k]? := by
    intro k hk
    have hk := List.mem_range.mp hk
    have i1 : ((xs.size : Int) - 1 + (k : Int) * (-1)).toNat = xs.toList.length - 1 - k := by
      rw [Array.length_toList]; omega
    rw [i1, List.getElem?_reverse (by rw [Array.length_toList]; exact hk), Array.getElem?_toList]
  have f : (List.range xs.size).filterMap (fun (k : Nat) => xs[((xs.size : Int) - 1 + (k : Int) * (-1)).toNat]?) = (List.range xs.size).filterMap fun k => xs.toList.reverse[k]? := by
    exact fm_congr e
  rw [f]
  have g : ∀ l : List Value, (List.range l.length).filterMap (fun k => l[k]?) = l := by
    intro l
    induction l with
    | nil => rfl
    | cons x l ih =>
      rw [List.length_cons, List.range_succ_eq_map, List.filterMap_cons]
      simp only [List.getElem?_cons_zero]
      rw [List.filterMap_map]
      exact congrArg (x :: ·) ih
  have := g xs.toList.reverse
  rw [List.length_reverse, Array.length_toList] at this
  exact this
section
variable {prog : Program} {w : World} {A : Around} {E : Value → Shared → Prop} {s : Shared}
theorem turn_applied {sl : Addr} {vs : Value} {n : Nat} {Q : Int × Int × Nat → Shared → Prop} (hs : s.heap.IsSliceOf sl .none .none vs) (ps : IsPart vs (some (-1))) (h : Q ((n : Int) - 1, -1, n) s) :
    wpAny (model prog w) A (Builtin.Slice.sliceApplied (.ref sl) (pure (n : Int))) Q E s := by
  obtain ⟨o, h1, h2, h3⟩ := id hs
  unfold Builtin.Slice.sliceApplied Builtin.Slice.sliceFields
  refine wpAny_bind (wpAny_bind (wpAny_field h1 h3 (x := .none) rfl (wpAny_bind (wpAny_field h1 h3 (x := .none) rfl (wpAny_bind (wpAny_field h1 h3 (x := vs) rfl (wpAny_pure ?_)))))))
  refine wpAny_bind (HT.slicePart_ ps ?_)
  show wpAny _ _ (if ((-1 : Int) == 0) = true then _ else _) _ _ s
  refine if_neg (by decide : ¬ ((-1 : Int) == 0) = true) ▸ ?_
  refine wpAny_bind (slicePart_none (wpAny_bind (slicePart_none (wpAny_bind (wpAny_pure ?_)))))
  show wpAny _ _ (pure ((n : Int) - 1, (-1 : Int), Builtin.Slice.slicePlaces ((n : Int) - 1) (-1) (-1))) _ _ s
  rw [turn_places]
  exact wpAny_pure h
theorem turn_item {t sl : Addr} {items : Array Value} {vs : Value} {Q : Value → Shared → Prop} (ht : IsTup s.heap t items) (hs : s.heap.IsSliceOf sl .none .none vs) (ps : IsPart vs (some (-1))) (hsz : items.size ≤ sizeLine)
    (h : Q (.ref s.heap.objs.size) { s with heap := s.heap.push { cls := .type "tuple", data := .seq items.toList.reverse.toArray } }) : wpAny (model prog w) A (getItem (.ref t) (.ref sl)) Q E s := by
  have hok : sizeOk (.seq items.toList.reverse.toArray) := show items.toList.reverse.toArray.size ≤ sizeLine by rw [List.size_toArray, List.length_reverse, Array.length_toList]; exact hsz
  have tS : s.TypeIs (.ref sl) "slice" := let ⟨o, a, b, _⟩ := hs; ⟨o, a, b⟩
  unfold getItem
  try with_reducible refine wpAny_holding ?_
  first | refine wpAny_bind (wpAny_pure ?_) | skip
  refine wpAny_bind (wpAny_sequenceKey (T := "tuple") ht.typeIs (by decide) (wpAny_bind (wpAny_callSpecial?_slot (name := Str.ofString "__getitem__") ht.typeIs slot_tuple_getitem (wpAny_call_entry slot_tuple_getitem ht.typeIs entry_tuple_getitem ?_ (args_tuple_getitem _ _)))))
  show wpAny _ _ (Builtin.Tuple.tupleItemsOf (.ref t) >>= _) _ _ s
  refine wpAny_bind (tupleItemsOf_ ht (wpAny_bind (wpAny_typeOf tS ?_)))
  rw [if_pos (by decide)]
  refine wpAny_bind (turn_applied (n := items.size) hs ps ?_)
  have no : ¬ (((items.size : Int) - 1 == 0 && (-1 : Int) == 1 && items.size == items.size) = true) := by
    rw [show ((-1 : Int) == 1) = false from rfl, Bool.and_false, Bool.false_and]
    exact Bool.false_ne_true
  show wpAny _ _ (if ((items.size : Int) - 1 == 0 && (-1 : Int) == 1 && items.size == items.size) = true then _ else _) _ _ s
  rw [if_neg no, turn_pick]
  first
    | exact wpAny_bind (m := Builtin.Tuple.tupleExact _) (wpAny_newObj_type (wpAny_pure ⟨_, rfl, wpAny_pure h⟩) hok)
    | exact wpAny_bind (m := Builtin.Tuple.tupleExact _) (wpAny_newObj_type (wpAny_bind (wpAny_pure (wpAny_pure ⟨_, rfl, wpAny_pure h⟩))) hok)
    | exact wpAny_bind (wpAny_bind (m := Builtin.Tuple.tupleExact _) (wpAny_newObj_type (wpAny_pure (wpAny_pure ⟨_, rfl, wpAny_pure h⟩)) hok))
    | exact wpAny_bind (wpAny_bind (m := Builtin.Tuple.tupleExact _) (wpAny_newObj_type (wpAny_pure ⟨_, rfl, wpAny_pure h⟩) hok))
end
def tRevK (K : PySem.W.Frag) (tl : TE) : TE := fun σ H Q => tl σ H fun x H1 => ∃ tp a xs, x = .ref a ∧ SqK tp K H1 a xs ∧ ∀ p, H1 p = none → Q (.ref p) (upd H1 p (if tp then .tup xs.reverse else .lst xs.reverse))
theorem pe_revK {X : Cx} {e : Expr} {te : TE} {k : Nat} {p1 p2 p3 pos : Pos} (he : PE X e te) : PE X (.Subscript e (.Slice none none (some (.UnaryOp .USub (.Constant (.int 1) k p1) p2)) p3) pos) (tRevK X.K te) := by
  constructor
  intro pins s σ H Q I h
  refine Subscript_ (thn (he.run pins s σ H _ I h) ?_)
  rintro v s1 ⟨x, H1, I1, r1, tp, a, xs, rfl, hx, q⟩
  cases r1
  have step : PO X (some (.UnaryOp .USub (.Constant (.int 1) k p1) p2)) (tPart (tUn (rU fun i => .int (-i)) (tC (.int 1)))) := po_some (pe_un un_neg pe_int)
  refine wpAny_Slice (thn (po_none.run pins s1 σ H1 (fun o H2 => o = none ∧ H2 = H1) I1 ⟨rfl, rfl⟩) ?_)
  rintro vl s2 ⟨l, H2, I2, pl, rfl, rfl⟩
  refine thn (po_none.run pins s2 σ _ (fun o H3 => o = none ∧ H3 = H2) I2 ⟨rfl, rfl⟩) ?_
  rintro vu s3 ⟨u, H3, I3, pu, rfl, rfl⟩
  refine thn (step.run pins s3 σ _ (fun o H4 => o = some (-1) ∧ H4 = H3) I3 ⟨1, rfl, -1, rfl, rfl, rfl⟩) ?_
  rintro vs s4 ⟨o, H4, I4, ps, rfl, rfl⟩
  cases pl
  cases pu
  have I5 := I4.kept (t' := s4.toks) (h' := s4.heap.push { cls := .type "slice", data := .fields #[.none, .none, vs] }) fun b ob q => Heap.get?_push_of_some _ q
  show wpAny (model X.prog X.w) X.A (subscriptTail e (.Slice none none (some (.UnaryOp .USub (.Constant (.int 1) k p1) p2)) p3) (.ref a) (.ref s4.heap.objs.size)) (EP X pins σ Q) X.xe { s4 with heap := s4.heap.push { cls := .type "slice", data := .fields #[.none, .none, vs] } }
  cases tp with
  | false =>
    obtain ⟨its, r, ht, hz⟩ := I5.list hx
    have hlen := r.length
    refine tail_any (ops := [.ref a, .ref s4.heap.objs.size]) ht.isList.typeIs (PySem.slot_list_getitem.lookup) (wpAny_getItem_list_slice ht.isList (Heap.IsSliceOf.new _ .none .none vs) .none .none ps (by decide) ?_ (by rw [List.size_toArray]; omega)) (by with_unfolding_all rfl)
    rw [PySem.W.krv_pick]
    exact ⟨.ref _, _, I5.laid (t' := s4.toks) (o := .lst xs.reverse) (fun b ob q => Heap.get?_push_of_some _ q) (Nat.le_refl _) ⟨by rw [List.length_reverse]; exact hz, _, 0, r.reverse, Heap.get?_push_size _ rfl⟩, rfl, q _ (I5.hok.fresh (Nat.le_refl _))⟩
  | true =>
    obtain ⟨its, r, ht, hz⟩ := I5.tuple hx
    have hlen := r.length
    refine tail_any (ops := [.ref a, .ref s4.heap.objs.size]) ht.typeIs (slot_tuple_getitem.lookup) (turn_item ht (Heap.IsSliceOf.new _ .none .none vs) ps (by rw [List.size_toArray]; omega) ?_) (by with_unfolding_all rfl)
    exact ⟨.ref _, _, I5.laid (t' := s4.toks) (o := .tup xs.reverse) (fun b ob q => Heap.get?_push_of_some _ q) (Nat.le_refl _) ⟨by rw [List.length_reverse]; exact hz, _, r.reverse, _, Heap.get?_push_size _ rfl, rfl, _, rfl⟩, rfl, q _ (I5.hok.fresh (Nat.le_refl _))⟩
end EV
/-! EvW: name = {k: v for ..}, the keys nested tuples: the rule. -/
namespace EV
open PySem PySem.Spec PyProof.Rows L2

section
variable {X : Cx}
/-- contexts of the same program -/
def Like (X X' : Cx) : Prop := X'.K = X.K ∧ X'.prog = X.prog ∧ X'.w = X.w
def nwD (X : Cx) (L : Addr) : HO := .ext (dctF X.prog X.w L [])
/-- {k: v for target in iter}: L the new dict -/
def tDn (X : Cx) (wi : TI) (g : TG) (tk tv : TE) (vs : List Nat) : TE := fun σ H Q => wi σ H fun J H1 => ∀ L, H1 L = none → ∃ W : Nat → Nat → Hp → Prop, (∃ m, W 0 m (upd H1 L (nwD X L))) ∧ ∀ i m Hc, W i m Hc →
  (J.stop i Hc ∧ Q (.ref L) Hc) ∨ (J.go i Hc ∧ ∃ Nx : Hp → Prop, (∀ Hn, Nx Hn → ∃ m', m' < m ∧ W (i + 1) m' Hn) ∧ ∀ x Hx, J.yld i Hc x Hx → g x (wipe σ vs) Hx fun σ2 H2 => wipe σ2 vs = wipe σ vs ∧ tk σ2 H2 fun y H3 => tv σ2 H3 fun z H4 => ∃ H5, (∀ X', Like X X' → NPut X' H4 L y z H5) ∧ Nx H5)
theorem dn_it {J : It} {n : Nat} {Gq : Hp → Prop} {Y : Nat → Hp → V → Hp → Prop} (w : Walk J n Gq Y) {g : TG} {tk tv : TE} {vs : List Nat} {σ : L2.St} {H0 : Hp} {L : Addr} {Qd : Hp → Prop} (Pv : Nat → Hp → Prop) (h0 : Pv 0 H0) (hG : ∀ i Hc, i ≤ n → Pv i Hc → Gq Hc)
    (step : ∀ i x Hc Hx, i < n → Pv i Hc → Y i Hc x Hx → g x (wipe σ vs) Hx fun σ2 H2 => wipe σ2 vs = wipe σ vs ∧ tk σ2 H2 fun y H3 => tv σ2 H3 fun z H4 => ∃ H5, (∀ X', Like X X' → NPut X' H4 L y z H5) ∧ Pv (i + 1) H5) (last : ∀ Hc, Pv n Hc → Qd Hc) :
    ∃ W : Nat → Nat → Hp → Prop, (∃ m, W 0 m H0) ∧ ∀ i m Hc, W i m Hc → (J.stop i Hc ∧ Qd Hc) ∨ (J.go i Hc ∧ ∃ Nx : Hp → Prop, (∀ Hn, Nx Hn → ∃ m', m' < m ∧ W (i + 1) m' Hn) ∧
      ∀ x Hx, J.yld i Hc x Hx → g x (wipe σ vs) Hx fun σ2 H2 => wipe σ2 vs = wipe σ vs ∧ tk σ2 H2 fun y H3 => tv σ2 H3 fun z H4 => ∃ H5, (∀ X', Like X X' → NPut X' H4 L y z H5) ∧ Nx H5) := by
  refine ⟨fun i m Hc => m = n - i ∧ i ≤ n ∧ Pv i Hc, ⟨n, rfl, Nat.zero_le n, h0⟩, ?_⟩
  rintro i m Hc ⟨rfl, le, pv⟩
  have gq := hG i Hc le pv
  rcases Nat.lt_or_eq_of_le le with lt | rfl
  · exact .inr ⟨w.goes i Hc lt gq, Pv (i + 1), fun Hn pn => ⟨n - (i + 1), by omega, rfl, lt, pn⟩, fun x Hx yl => step i x Hc Hx lt pv (w.yields i Hc x Hx lt gq yl)⟩
  · exact .inl ⟨w.stops Hc gq, last Hc pv⟩
/-- the comprehension's run -/
theorem dn_core {pins : List (Addr × Obj)} {s : Shared} {σ : L2.St} {H : Hp} {Q : VK} {kx vx tg iter : Expr} {scope : Scope} {own : List (Str × Nat)} {pos pos' : Pos} {wi : TI} {g : TG} {tk tv : TE} {use : Option (Value → Sem Unit)} {Qf : Value → Shared → Prop}
    (hu : X.A.units + 64 < cLine) (hc : X.calm = true) (hN : X.N.Nodup) (I : Inv X pins σ H s) (hi : PI X tg iter wi) (ok : BlkOk X.N X.env.scope scope own)
    (hg : ∀ s0 H0 C cl fp, PG (X.blk s0 H0 scope (compEnvC scope cl C X.env) fp) tg g) (hk : ∀ s0 H0 C cl fp, PE (X.blk s0 H0 scope (compEnvC scope cl C X.env) fp) kx tk)
    (hv : ∀ s0 H0 C cl fp, PE (X.blk s0 H0 scope (compEnvC scope cl C X.env) fp) vx tv) (hs : ∀ x, foldedSetIterable iter X.env x = pure x) (w : tDn X wi g tk tv (own.map (·.2)) σ H Q)
    (back : ∀ L C sb m Hb, Inv X pins σ Hb sb → Q (.ref L) Hb → sb.heap.Ns C m → FpOk X pins Hb C → compPost (model X.prog X.w) X.A X.xe use Qf (.ref L) C (.ok .next) sb) :
    wpAny (model X.prog X.w) X.A (comprehension (.DictComp kx vx [⟨tg, iter, [], 0⟩] scope pos) scope X.env pos' newDict false (eval iter X.env) use) Qf X.xe s := by
  have free : ∀ nm ∈ scope.names, nm.2 = .free → ∃ c, X.env.cells.lookup nm.1 = some c := fun nm hnm ef => (ok.free nm hnm ef).elim (fun z => I.ok.has _ (.inl z)) fun z => I.ok.has _ (.inr z)
  refine wpAny_comprehension_free (use := use) rfl hs (closure_ok free) ok.kind (fun nm hnm ef => ok.uniq nm hnm ▸ ef ▸ rfl) ?_
  refine thn (hi.run pins s σ H _ I w) fun xv sa ha => thn ha fun iv sb hb => ?_
  obtain ⟨it, fp, tn, J, Hb, rfl, Ib, T, stb, fb, q⟩ := hb
  refine wpAny_newObj_type ?_
  refine newEnv_comp ?_
  obtain ⟨L, eL⟩ : ∃ L, sb.heap.objs.size = L := ⟨_, rfl⟩
  rw [eL]
  have nL : Hb L = none := Ib.hok.fresh (Nat.le_of_eq eL)
  obtain ⟨W, ⟨m0, w0⟩, turn⟩ := q L nL
  obtain ⟨sc, esc⟩ : ∃ sc : Shared, ({ sb with heap := sb.heap.push { cls := .type "dict", data := .dict #[] } } : Shared) = sc := ⟨_, rfl⟩
  rw [esc]
  have hsc : sc.heap = sb.heap.push { cls := .type "dict", data := .dict #[] } := congrArg Shared.heap esc.symm
  have Ic : Inv X pins σ (upd Hb L (nwD X L)) sc := by
    subst esc eL
    exact Ib.laid (t' := sb.toks) (fun _ _ z => Heap.get?_push_of_some _ z) (Nat.le_refl _) (ext_obj (empty_ext sb.heap Ib.big))
  have small : ∀ c ∈ fp, c < L := fun c hcm => by
    obtain ⟨oc, ec, _⟩ := T.obj _ _ stb c hcm
    rw [← eL]; exact Heap.lt_size ec
  have fc : ∀ c ∈ fp, FpOk X pins (upd Hb L (nwD X L)) c ∧ c < sc.heap.objs.size := fun c hcm => by
    have lt := small c hcm
    refine ⟨⟨(upd_ne (Nat.ne_of_lt lt)).trans (fb c hcm).1, (fb c hcm).2⟩, ?_⟩
    rw [hsc, Heap.size_push, eL]
    exact Nat.lt_succ_of_lt lt
  have stc : tn 0 sc.heap := T.keep _ _ _ stb fun c _ oc z => hsc ▸ Heap.get?_push_of_some _ z
  have Id := block_start Ic ok hN fc
  obtain ⟨cl, ecl⟩ : ∃ cl, cellsFrom (sc.heap.objs.size + 1) scope.names (cloFrom X.env.cells scope.names []) = cl := ⟨_, rfl⟩
  rw [ecl] at Id
  obtain ⟨C, eC⟩ : ∃ C, sc.heap.objs.size = C := ⟨_, rfl⟩
  obtain ⟨Hc, eH⟩ : ∃ Hc, upd Hb L (nwD X L) = Hc := ⟨_, rfl⟩
  have pg := hg sc Hc C cl fp
  have pk := hk sc Hc C cl fp
  have pv := hv sc Hc C cl fp
  show codeAny _ _ (.compStart (.DictComp kx vx [⟨tg, iter, [], 0⟩] scope pos) 0 (.ref it) (.ref L) (compEnvC scope (cellsFrom (sc.heap.objs.size + 1) scope.names (cloFrom X.env.cells scope.names [])) sc.heap.objs.size X.env)) (compPost (model X.prog X.w) X.A X.xe use Qf (.ref L) sc.heap.objs.size) { sc with heap := pushCells (sc.heap.push { cls := .type "dict", data := .dict #[] }) scope.names }
  rw [ecl]
  rw [eH] at Ic Id w0 fc
  have noC : ∀ c ∈ fp, Hc c = none := fun c hcm => (fc c hcm).1.1
  obtain ⟨ce, ece⟩ : ∃ ce, compEnvC scope cl C X.env = ce := ⟨_, rfl⟩
  have ceL : ce.locals = C := by subst ece; rfl
  rw [eC] at Id ⊢
  rw [ece] at pg pk pv Id ⊢
  obtain ⟨sd, esd⟩ : ∃ sd : Shared, ({ sc with heap := pushCells (sc.heap.push { cls := .type "dict", data := .dict #[] }) scope.names } : Shared) = sd := ⟨_, rfl⟩
  rw [esd] at Id ⊢
  have std : tn 0 sd.heap := T.keep _ _ _ stc fun c _ oc z => esd ▸ pushCells_keeps _ _ _ _ (Heap.get?_push_of_some _ z)
  have stat : ∀ {σ' H' s'}, Inv (X.blk sc Hc scope ce fp) [] σ' H' s' → (∀ c ∈ fp, H' c = none) → ∀ c ∈ fp, FpOk (X.blk sc Hc scope ce fp) [] H' c := fun {σ' H' s'} I' hn c hcm =>
    ⟨hn c hcm, (I'.ok.exf c hcm).1, I'.ok.exfs c hcm, .inl hcm, fun nm a z => (I'.ok.exf c hcm).2 nm a z, fun p hp => by simp at hp⟩
  have loop : codeAny (model X.prog X.w) X.A (.compLoop (.DictComp kx vx [⟨tg, iter, [], 0⟩] scope pos) 0 (.ref it) (.ref L) ce) (compPost (model X.prog X.w) X.A X.xe use Qf (.ref L) C) sd := by
    refine compLoop_anyD (fun n se => ∃ i He, Inv (X.blk sc Hc scope ce fp) [] (wipe σ (own.map (·.2))) He se ∧ tn i se.heap ∧ (∀ c ∈ fp, He c = none) ∧ W i n He) ?_ m0 ⟨0, Hc, Id, std, noC, w0⟩
    rintro n se ⟨i, He, Ie, ste, ne, we⟩
    rcases turn i n He we with ⟨stop, done⟩ | ⟨go, Nx, hNx, step⟩
    · refine thnF (T.done (X.blk sc Hc scope ce fp) rfl rfl rfl hc i [] se _ He (fun _ _ => False) Ie (stat Ie ne) ste stop) ?_
      rintro r sf ⟨rfl, If⟩
      have Ig : Inv X pins σ He sf := Ic.call' (ch := fp) If.os If.base If.hok If.bare fun c hcm => ⟨(fc c hcm).1.2.2.2.1, (fc c hcm).1.2.1, (fc c hcm).1.2.2.2.2.1, (fc c hcm).1.2.2.2.2.2⟩
      have zC : He C = none := ceL ▸ If.free
      obtain ⟨m, hm, _⟩ := If.loc
      have hm : sf.heap.Ns ce.locals m := hm
      exact back L C sf m He Ig done (ceL ▸ hm) (eC ▸ Ic.fpOk (Nat.le_refl _) (eC.symm ▸ zC))
    · refine thnF (T.item (X.blk sc Hc scope ce fp) rfl rfl rfl hc i [] se _ He (fun _ _ => False) Ie (stat Ie ne) ste go) ?_
      rintro r sf ⟨u, rfl, hf⟩
      refine thnF hf ?_
      rintro _ sh ⟨x, Hh, Ih, rh, yh, sth, nh⟩
      have Ip := Ih.pinned (stat Ih nh) (T.obj _ _ sth)
      refine thnF (pg.run _ sh _ Hh x u _ Ip rh (step x Hh yh)) ?_
      rintro _ sj ⟨σj, Hj, Ij, wj, qj⟩
      have fin : ∀ {s' H'}, Inv (X.blk sc Hc scope ce fp) ([] ++ pinsAt fp sh.heap) σj H' s' → Nx H' → ∃ m, m < n ∧ ∃ i H', Inv (X.blk sc Hc scope ce fp) [] (wipe σ (own.map (·.2))) H' s' ∧ tn i s'.heap ∧ (∀ c ∈ fp, H' c = none) ∧ W i m H' := fun {s' H'} I' nx => by
        obtain ⟨m', lt, wn⟩ := hNx H' nx
        have pinned : ∀ c ∈ fp, ∀ oc, sh.heap.get? c = some oc → s'.heap.get? c = some oc ∧ H' c = none := fun c hcm oc z =>
          have zz := I'.pin (c, oc) (List.mem_append_right _ (List.mem_append_right _ (mem_pinsAt hcm z)))
          ⟨zz.1, zz.2.1⟩
        have len : (wipe σ (own.map (·.2))).length = σj.length := by rw [← wj, wipe_length]
        refine ⟨m', lt, i + 1, H', (I'.unpinned (pins := [])).weak len (fun j v z => ?_), T.keep _ _ _ sth fun c hcm oc z => (pinned c hcm oc z).1, fun c hcm => ?_, wn⟩
        · rw [← wj] at z
          exact (wipe_some z).1
        · obtain ⟨oc, z, _⟩ := T.obj _ _ sth c hcm
          exact (pinned c hcm oc z).2
      refine wpAny_tests_nil ?_
      simp only [if_true]
      refine thnF (pk.run _ sj σj Hj _ Ij qj) ?_
      rintro zk sk ⟨yk, Hk, Ik, rk, qk⟩
      refine thnF (pv.run _ sk σj Hk _ Ik qk) ?_
      rintro zv sl ⟨yv, Hl, Il, rl, Hm, np, nx⟩
      exact n_dictSet (X := X.blk sc Hc scope ce fp) hu Il (np _ ⟨rfl, rfl, rfl⟩) rk rl fun sm Im => fin Im nx
  exact codeAny_compStart_dict loop (T.self X.A 0 _ _ _ std loop)
/-- name = {..} on one line, the name a local -/
theorem ps_setDn {i : Nat} {y : Str} {py : Pos} {kx vx tg iter : Expr} {scope : Scope} {own : List (Str × Nat)} {pos spos : Pos} {wi : TI} {g : TG} {tk tv : TE} (hu : X.A.units + 64 < cLine) (hc : X.calm = true) (hN : X.N.Nodup) (hy : X.N[i]? = some y) (hyl : X.env.scope.names.lookup y = some .local)
    (hsw : swapsWith (.DictComp kx vx [⟨tg, iter, [], 0⟩] scope pos) (some (.Name y py)) spos.line X.env = pure true) (hi : PI X tg iter wi) (ok : BlkOk X.N X.env.scope scope own)
    (hg : ∀ s0 H0 C cl fp, PG (X.blk s0 H0 scope (compEnvC scope cl C X.env) fp) tg g) (hk : ∀ s0 H0 C cl fp, PE (X.blk s0 H0 scope (compEnvC scope cl C X.env) fp) kx tk)
    (hv : ∀ s0 H0 C cl fp, PE (X.blk s0 H0 scope (compEnvC scope cl C X.env) fp) vx tv) (hs : ∀ x, foldedSetIterable iter X.env x = pure x) :
    PS X (.Assign [.Name y py] (.DictComp kx vx [⟨tg, iter, [], 0⟩] scope pos) spos) (tAsg (tDn X wi g tk tv (own.map (·.2))) (gName i)) := by
  constructor
  intro pins s σ H D I w
  rw [exec_Assign_Name_used _ _ _ _ hsw]
  refine wpAny_bind (wpAny_standAt (wpAny_bind ?_))
  show wpAny _ X.A (do let _ ← comprehension (.DictComp kx vx [⟨tg, iter, [], 0⟩] scope pos) scope X.env (firstIterPos [⟨tg, iter, [], 0⟩] pos) newDict false (eval iter X.env) (some (assign (.Name y py) X.env))) _ _ s
  have w : tDn X wi g tk tv (own.map (·.2)) σ H (fun x H1 => gName i x σ H1 D.nx) := w
  refine wpAny_bind (thn (dn_core (Qf := fun _ sz => SP X pins D .next sz) hu hc hN I hi ok hg hk hv hs w ?_) fun _ _ hq => wpAny_pure (wpAny_pure hq))
  intro L C sb m Hb Ib q hm f
  show wpAny _ _ (assign (.Name y py) X.env (.ref L)) _ _ _
  refine wpAny_assign_Name (store_ok2 (v := V.ref L) Ib hN hy (.inl hyl) rfl ?_ (.inr hyl))
  rintro sn In ⟨a, same, ha⟩
  obtain ⟨f0, f1, f2, f3, f4, f5⟩ := f
  have ne : C ≠ a := ha.elim (fun z => z ▸ f1) fun z e => f4 y a z e.symm
  exact ⟨m, hm.sameBut same ne, fun _ sb3 => ⟨_, Hb, In.turned (t' := sn.toks) (fun c oc hcm z => (sb3.2 c hcm).trans z) f0 f1 f3 f4 f5, q⟩⟩
end
end EV
/-! EvV: dicts, list.index, l[::-1]: sound. -/
namespace EV
open PySem PySem.Spec PyProof.Rows L2

/-! ### entries by key -/
section
variable {Rp : D → V → Prop}
abbrev zK (ns : List Int) (xs : List V) : List (Key × V) := List.zipWith (fun n x => (Sum.inl n, x)) ns xs
theorem entK_find {i : Int} : ∀ {kvs : List (D × D)} {ns : List Int} {xs : List V}, EntK Rp kvs ns xs → (∀ d, dGet kvs (.int i) = some d → ∃ v, valV (zK ns xs) (.inl i) = some v ∧ Rp d v) ∧ (dGet kvs (.int i) = none → valV (zK ns xs) (.inl i) = none)
  | _, _, _, .nil => ⟨fun d h => by simp [dGet] at h, fun _ => rfl⟩
  | _, _, _, .cons (i := j) (d := d0) (v := v0) r t => by
    obtain ⟨h1, h2⟩ := entK_find (i := i) t
    by_cases c : j = i
    · subst c
      refine ⟨fun d h => ?_, fun h => ?_⟩
      · simp [dGet, D.beq] at h
        subst h
        exact ⟨v0, by simp [valV], r⟩
      · simp [dGet, D.beq] at h
    · have e1 : ∀ kvs, dGet ((D.int j, d0) :: kvs) (.int i) = dGet kvs (.int i) := fun kvs => by simp [dGet, D.beq, c]
      have e2 : ∀ l : List (Key × V), valV (((Sum.inl j : Key), v0) :: l) (.inl i) = valV l (.inl i) := fun l => valV_neg fun z => c (Sum.inl.inj z)
      refine ⟨fun d h => ?_, fun h => ?_⟩
      · rw [e1] at h
        obtain ⟨v, q1, q2⟩ := h1 d h
        exact ⟨v, (e2 _).trans q1, q2⟩
      · rw [e1] at h
        exact (e2 _).trans (h2 h)
theorem entK_len : ∀ {kvs : List (D × D)} {ns : List Int} {xs : List V}, EntK Rp kvs ns xs → (zK ns xs).length = kvs.length ∧ ns.length = kvs.length ∧ xs.length = kvs.length
  | _, _, _, .nil => ⟨rfl, rfl, rfl⟩
  | _, _, _, .cons _ t => by
    obtain ⟨h1, h2, h3⟩ := entK_len t
    exact ⟨congrArg (· + 1) h1, congrArg (· + 1) h2, congrArg (· + 1) h3⟩
theorem entK_any {i : Int} : ∀ {kvs : List (D × D)} {ns : List Int} {xs : List V}, EntK Rp kvs ns xs → (kvs.any fun p => D.beq p.1 (.int i)) = ((zK ns xs).any fun p => decide (p.1 = Sum.inl i))
  | _, _, _, .nil => rfl
  | _, _, _, .cons (i := j) _ t => by
    rw [List.any_cons, entK_any t]
    simp only [List.zipWith_cons_cons, List.any_cons, D.beq]
    congr 1
    by_cases c : j = i <;> simp [c]
theorem entK_repl {i : Int} {d : D} {v : V} (r : Rp d v) : ∀ {kvs : List (D × D)} {ns : List Int} {xs : List V}, EntK Rp kvs ns xs → ∃ xs', EntK Rp (kvs.map fun p => if D.beq p.1 (.int i) then (p.1, d) else p) ns xs' ∧ zK ns xs' = (zK ns xs).map fun kv => if kv.1 = Sum.inl i then (kv.1, v) else kv
  | _, _, _, .nil => ⟨[], .nil, rfl⟩
  | _, _, _, .cons (i := j) (d := d0) (v := v0) q t => by
    obtain ⟨xs', h1, h2⟩ := entK_repl (i := i) r t
    by_cases c : j = i
    · subst c
      refine ⟨v :: xs', ?_, ?_⟩
      · simp only [List.map_cons, D.beq, decide_true, if_true]; exact .cons r h1
      · simp only [List.zipWith_cons_cons, List.map_cons, if_true]; rw [← h2]
    · refine ⟨v0 :: xs', ?_, ?_⟩
      · simp only [List.map_cons, D.beq, decide_eq_true_eq, if_neg c]; exact .cons q h1
      · have : ¬ (Sum.inl j : Key) = Sum.inl i := fun z => c (Sum.inl.inj z)
        simp only [List.zipWith_cons_cons, List.map_cons, if_neg this]; rw [← h2]
theorem entK_snoc {i : Int} {d : D} {v : V} (r : Rp d v) : ∀ {kvs : List (D × D)} {ns : List Int} {xs : List V}, EntK Rp kvs ns xs → EntK Rp (kvs ++ [(.int i, d)]) (ns ++ [i]) (xs ++ [v]) ∧ zK (ns ++ [i]) (xs ++ [v]) = zK ns xs ++ [(.inl i, v)]
  | _, _, _, .nil => ⟨.cons r .nil, rfl⟩
  | _, _, _, .cons q t => by
    obtain ⟨h1, h2⟩ := entK_snoc (i := i) r t
    exact ⟨.cons q h1, by simp only [List.cons_append, List.zipWith_cons_cons]; rw [← h2]⟩
theorem entK_put {i : Int} {d : D} {v : V} (r : Rp d v) {kvs : List (D × D)} {ns : List Int} {xs : List V} (e : EntK Rp kvs ns xs) : ∃ ns' xs', EntK Rp (dPut kvs (.int i) d) ns' xs' ∧ zK ns' xs' = putK (zK ns xs) (.inl i) v := by
  unfold dPut putK
  rw [entK_any (i := i) e]
  split
  · obtain ⟨xs', h1, h2⟩ := entK_repl (i := i) r e
    exact ⟨ns, xs', h1, h2⟩
  · obtain ⟨h1, h2⟩ := entK_snoc (i := i) r e
    exact ⟨_, _, h1, h2⟩
theorem entT_find {k : D} (hk : k.nk = true) : ∀ {kvs : List (D × D)} {es : List (NestedKey × Addr × V)}, EntT Rp kvs es → (∀ d, dGet kvs k = some d → ∃ v, valE es k.key = some v ∧ Rp d v) ∧ (dGet kvs k = none → valE es k.key = none)
  | _, _, .nil => ⟨fun d h => by simp [dGet] at h, fun _ => rfl⟩
  | _, _, .cons (k := j) (d := d0) (v := v0) ok r q t => by
    obtain ⟨h1, h2⟩ := entT_find hk t
    have hb := nk_beq j k (keyT ok).1 hk
    by_cases c : j.key = k.key
    · have cb := hb.mp c
      refine ⟨fun d h => ?_, fun h => ?_⟩
      · simp [dGet, cb] at h
        subst h
        exact ⟨v0, by simp [valE, c], q⟩
      · simp [dGet, cb] at h
    · have cb : D.beq j k = false := by
        cases hbb : D.beq j k with
        | true => exact absurd (hb.mpr hbb) c
        | false => rfl
      refine ⟨fun d h => ?_, fun h => ?_⟩
      · simp only [dGet, List.find?_cons, cb] at h
        obtain ⟨v, q1, q2⟩ := h1 d h
        exact ⟨v, by simpa [valE, c] using q1, q2⟩
      · simp only [dGet, List.find?_cons, cb] at h
        simpa [valE, c] using h2 h
theorem entT_len : ∀ {kvs : List (D × D)} {es : List (NestedKey × Addr × V)}, EntT Rp kvs es → es.length = kvs.length
  | _, _, .nil => rfl
  | _, _, .cons _ _ _ t => by rw [List.length_cons, List.length_cons, entT_len t]
theorem entT_put {k : D} (ok : keyOk true k = true) {b : Addr} (rk : Rp k (.ref b)) {d : D} {v : V} (r : Rp d v) {kvs : List (D × D)} {es : List (NestedKey × Addr × V)} (e : EntT Rp kvs es) : EntT Rp (dPut kvs k d) (putE es k.key b v) := by
  have hk := (keyT ok).1
  have hany : ∀ {kvs : List (D × D)} {es : List (NestedKey × Addr × V)}, EntT Rp kvs es → (kvs.any fun p => D.beq p.1 k) = (es.find? fun e => decide (e.1 = k.key)).isSome := by
    intro kvs es e
    induction e with
    | nil => rfl
    | @cons j b0 d0 v0 kvs es ok0 _ _ _ ih =>
      have hb := nk_beq j k (keyT ok0).1 hk
      by_cases c : j.key = k.key
      · simp [List.find?_cons, c, hb.mp c]
      · have cb : D.beq j k = false := by
          cases hbb : D.beq j k with
          | true => exact absurd (hb.mpr hbb) c
          | false => rfl
        simpa [List.find?_cons, c, cb] using ih
  have hmap : ∀ {kvs : List (D × D)} {es : List (NestedKey × Addr × V)}, EntT Rp kvs es → EntT Rp (kvs.map fun p => if D.beq p.1 k then (p.1, d) else p) (es.map fun e => if e.1 = k.key then (e.1, e.2.1, v) else e) := by
    clear e
    intro kvs es e
    induction e with
    | nil => exact .nil
    | @cons j b0 d0 v0 kvs es ok0 r0 q0 t ih =>
      have hb := nk_beq j k (keyT ok0).1 hk
      rw [List.map_cons, List.map_cons]
      by_cases c : j.key = k.key
      · simp only [hb.mp c, if_true]
        rw [if_pos c]
        exact .cons ok0 r0 r ih
      · have cb : D.beq j k = false := by
          cases hbb : D.beq j k with
          | true => exact absurd (hb.mpr hbb) c
          | false => rfl
        simp only [cb]
        rw [if_neg c, if_neg (by simp)]
        exact .cons ok0 r0 q0 ih
  have happ : ∀ {kvs : List (D × D)} {es : List (NestedKey × Addr × V)}, EntT Rp kvs es → EntT Rp (kvs ++ [(k, d)]) (es ++ [(k.key, b, v)]) := by
    clear e
    intro kvs es e
    induction e with
    | nil => exact .cons ok rk r .nil
    | cons ok0 r0 q0 t ih => exact .cons ok0 r0 q0 ih
  unfold dPut putE
  rw [hany e]
  split
  · exact hmap e
  · exact happ e
theorem dPut_len (kvs : List (D × D)) (k v : D) : (dPut kvs k v).length ≤ kvs.length + 1 := by
  unfold dPut
  split
  · rw [List.length_map]; omega
  · rw [List.length_append, List.length_singleton]; exact Nat.le_refl _
end
section
variable {K : PySem.W.Frag} {g : G} {μ : List Addr} {st : Store} {H : Hp}
/-- a frozen dict's entries -/
theorem entK_frz : ∀ {ns : List Int} {vs : List D} {xs : List V}, Reps K g μ st H vs xs → ns.length = xs.length → EntK (Rep K g μ st H) ((ns.map D.int).zip vs) ns xs
  | [], _, _, .nil, _ => .nil
  | [], _, _, .cons _ _, h => by simp at h
  | _ :: _, _, _, .nil, h => by simp at h
  | n :: ns, _, _, .cons r t, h => .cons r (entK_frz t (by simpa using h))
theorem entK_keys : ∀ {kvs : List (D × D)} {ns : List Int} {xs : List V}, EntK (Rep K g μ st H) kvs ns xs → kvs.map (·.1) = ns.map D.int ∧ Reps K g μ st H (kvs.map (·.2)) xs
  | _, _, _, .nil => ⟨rfl, .nil⟩
  | _, _, _, .cons r t => by
    obtain ⟨h1, h2⟩ := entK_keys t
    exact ⟨by rw [List.map_cons, List.map_cons, h1], .cons r h2⟩
end
section
variable {g : G} {X : Cx} {l μ : List Addr} {st : Store} {H : Hp} {x k z d : D} {v y : V} {t : Bool} {kvs : List (D × D)} {ents : List (NestedKey × Addr × V)} {a b : Addr}
theorem key_at (r : Rep X.K (g.h l) μ st H k (.ref b)) (ok : keyOk true k = true) : KeyAt X H b k.key :=
  ⟨(keyT ok).2, fun pins σ s I => nk_is I r (keyT ok).1 rfl⟩
theorem ents_at (gp : g.P = X.prog ∧ g.w = X.w) (h : H a = some (.ext (dctF (g.h l).P (g.h l).w a ents))) (e : EntT (Rep X.K (g.h l) μ st H) kvs ents) : EntsAt X H a ents := by
  have h : H a = some (.ext (dctF g.P g.w a ents)) := h
  rw [gp.1, gp.2] at h
  have hk : ∀ {kvs : List (D × D)} {ents : List (NestedKey × Addr × V)}, EntT (Rep X.K (g.h l) μ st H) kvs ents → ∀ p ∈ ents, KeyAt X H p.2.1 p.1 := by
    clear e h
    intro kvs ents e
    induction e with
    | nil => intro p hp; cases hp
    | cons ok r q t ih =>
      intro p hp
      rcases List.mem_cons.mp hp with rfl | hp
      · exact key_at r ok
      · exact ih p hp
  exact ⟨h, hk e⟩
/-- a key as it lies -/
theorem key_ref (r : Rep X.K (g.h l) μ st H k y) (ok : keyOk true k = true) : ∃ b, y = .ref b := by
  cases r <;> first | exact ⟨_, rfl⟩ | simp [keyOk] at ok
theorem dicOf_loc {i : Nat} (e : dicOf st (.loc i) = some (t, kvs)) : st[i]? = some (.dct t kvs) := by
  simp only [dicOf] at e
  split at e
  · rename_i h; cases e; exact h
  · cases e
/-- what is asked of a dict -/
theorem dic_get (gp : g.P = X.prog ∧ g.w = X.w) (R : Rel X.K (g.h l) μ st H) (r : Rep X.K (g.h l) μ st H x v) (e : dicOf st x = some (t, kvs)) (rk : Rep X.K (g.h l) μ st H k y) (ok : keyOk t k = true) :
    ∃ a o, v = .ref a ∧ XGet X H a y o ∧ (∀ d, dGet kvs k = some d → ∃ u, o = some u ∧ Rep X.K (g.h l) μ st H d u) ∧ (dGet kvs k = none → o = none) := by
  cases x with
  | loc i =>
    cases r with
    | loc hm =>
      obtain hs := dicOf_loc e
      · have q := R.obj _ _ _ hs hm
        cases t with
        | false =>
          obtain ⟨ns, xs, q1, q2, q3⟩ := q
          cases k <;> simp [keyOk] at ok
          cases rk
          rename_i j
          obtain ⟨f1, f2⟩ := entK_find (i := j) q3
          exact ⟨_, _, rfl, .inl (DGet.k (k := .inl j) q1), f1, f2⟩
        | true =>
          obtain ⟨ents, q1, q2, q3⟩ := q
          obtain ⟨b, rfl⟩ := key_ref rk ok
          obtain ⟨f1, f2⟩ := entT_find (keyT ok).1 q3
          exact ⟨_, _, rfl, .inr ⟨ents, k.key, b, ents_at gp q1 q3, rfl, key_at rk ok, rfl⟩, f1, f2⟩
  | dct ks vs =>
    cases r with
    | dct h e1 n1 l1 rr =>
      unfold dicOf at e
      cases e
      subst e1
      cases k <;> simp [keyOk] at ok
      cases rk
      rename_i j
      obtain ⟨f1, f2⟩ := entK_find (i := j) (entK_frz rr n1)
      exact ⟨_, _, rfl, .inl (.inl ⟨_, .inl j, .inr ⟨_, h⟩, rfl, rfl⟩), f1, f2⟩
  | _ => simp [dicOf] at e
theorem dic_is (gp : g.P = X.prog ∧ g.w = X.w) (R : Rel X.K (g.h l) μ st H) (r : Rep X.K (g.h l) μ st H x v) (e : (dicOf st x).isSome = true) : ∃ a, v = .ref a ∧ XIs X H a := by
  cases x with
  | loc i =>
    cases r with
    | loc hm =>
      obtain ⟨⟨t', kvs'⟩, e⟩ := Option.isSome_iff_exists.mp e
      have hs := dicOf_loc e
      · have q := R.obj _ _ _ hs hm
        cases t' with
        | false =>
          obtain ⟨ns, xs, q1, q2, q3⟩ := q
          exact ⟨_, rfl, .inl (.inl ⟨_, .inl q1⟩)⟩
        | true =>
          obtain ⟨ents, q1, q2, q3⟩ := q
          exact ⟨_, rfl, .inr ⟨ents, ents_at gp q1 q3⟩⟩
  | dct ks vs =>
    cases r with
    | dct h e1 n1 l1 rr => exact ⟨_, rfl, .inl (.inl ⟨_, .inr ⟨_, h⟩⟩)⟩
  | _ => simp [dicOf] at e
end
/-! ### a thing that was made out of reach comes into the store -/
section
variable {K : PySem.W.Frag} {g : G} {μ : List Addr} {st : Store} {H : Hp} {p : Addr} {o : O} {ns0 : List Int} {xs0 : List V}
theorem Live.inn {a : Addr} (h : Live (μ ++ [p]) (st ++ [o]) a) (len : μ.length = st.length) (ne : a ≠ p) : Live μ st a := Live.adopt h len ne
mutual
theorem Rep.inn (len : μ.length = st.length) (hp : H p = some (dKof ns0 xs0)) : ∀ {d : D} {v : V}, Rep K g μ st H d v → Rep K g (μ ++ [p]) (st ++ [o]) H d v
  | _, _, .non => .non
  | _, _, .bl b => .bl b
  | _, _, .int i => .int i
  | _, _, .str x => .str x
  | _, _, .tup h l r => .tup h l (Reps.inn len hp r)
  | _, _, .lst h nl nh l r => .lst h (fun z => nl (z.inn len fun e => by
      subst e
      rcases h with h | ⟨q, h⟩
      · rw [hp] at h; cases h
      · rw [hp] at h; cases h)) nh l (Reps.inn len hp r)
  | _, _, .lstK h l r => .lstK h l (Reps.inn len hp r)
  | _, _, .rol h l r => .rol h l (Reps.inn len hp r)
  | _, _, .dct h e n l r => .dct h e n l (Reps.inn len hp r)
  | _, _, .loc h => .loc (by rw [List.getElem?_append_left (List.getElem?_eq_some_iff.mp h).1]; exact h)
  | _, _, .fn k => .fn k
theorem Reps.inn (len : μ.length = st.length) (hp : H p = some (dKof ns0 xs0)) : ∀ {ds : List D} {vs : List V}, Reps K g μ st H ds vs → Reps K g (μ ++ [p]) (st ++ [o]) H ds vs
  | _, _, .nil => .nil
  | _, _, .cons r t => .cons (Rep.inn len hp r) (Reps.inn len hp t)
end
theorem adopt_dct {kvs : List (D × D)} (R : Rel K g μ st H) (hp : H p = some (dKof ns0 xs0)) (hm : p ∉ μ) (hz : kvs.length ≤ most) (e : EntK (Rep K g μ st H) kvs ns0 xs0) (hh : p ∉ g.hid) :
    Rel K g (μ ++ [p]) (st ++ [.dct false kvs]) H ∧ Rep K g (μ ++ [p]) (st ++ [.dct false kvs]) H (.loc st.length) (.ref p) := by
  refine ⟨⟨by simp [R.len], List.nodup_append.mpr ⟨R.nd, by simp, fun a ha b hb e => hm (by rw [List.mem_singleton.mp hb] at e; exact e ▸ ha)⟩, fun a ha => ?_, fun i ob a h1 h2 => ?_, fun a ha => ?_, R.tabs⟩, .loc (by rw [← R.len]; simp)⟩
  · rcases List.mem_append.mp ha with h | h
    · exact R.there a h
    · rw [List.mem_singleton.mp h]; exact ⟨_, hp⟩
  · by_cases hl : i < st.length
    · rw [List.getElem?_append_left hl] at h1
      rw [List.getElem?_append_left (by rw [R.len]; exact hl)] at h2
      have := R.obj i ob a h1 h2
      cases ob with
      | lst es =>
        obtain ⟨ys, q1, q2, q3⟩ := this
        exact ⟨ys, q1, q2, q3.inn R.len hp⟩
      | dct t es =>
        cases t with
        | false => obtain ⟨ns, ys, q1, q2, q3⟩ := this; exact ⟨ns, ys, q1, q2, q3.imp fun _ _ r => r.inn R.len hp⟩
        | true => obtain ⟨ents, q1, q2, q3⟩ := this; exact ⟨ents, q1, q2, q3.imp fun _ _ r => r.inn R.len hp⟩
      | gone => trivial
    · rw [List.getElem?_append_right (by omega)] at h1
      rw [List.getElem?_append_right (by rw [R.len]; omega)] at h2
      have hi : i - st.length = 0 := by
        have := (List.getElem?_eq_some_iff.mp h1).1
        simp at this
        omega
      rw [R.len, hi] at h2
      rw [hi] at h1
      simp at h1 h2
      subst h1 h2
      exact ⟨ns0, xs0, hp, hz, e.imp fun _ _ r => r.inn R.len hp⟩
  · obtain ⟨h1, zs, h2⟩ := R.hid a ha
    refine ⟨fun z => ?_, zs, h2⟩
    rcases List.mem_append.mp z with z | z
    · exact h1 z
    · exact hh (List.mem_singleton.mp z ▸ ha)
end
section
variable {g : G} {cf : Call} {Γ : Gm} {X : Cx} {W : WX} {e e2 ea eb ec ed ek ez ev : Expr} {es : List Expr} {pos p : Pos} {a b c d k v x y z : EV.X}
theorem c_dnew {t : Bool} (G : Good g cf Γ X W) : PE X (.Dict [] [] pos) (rdX X.K g (evX cf (.dnew t)) W) := by
  cases t with
  | false =>
    refine (pe_dnewK (X := X)).imp fun σ H Q ⟨l, e, st, μ, R, S, P⟩ => ?_
    rw [evX] at P
    intro p hp
    obtain ⟨E, R', r'⟩ := new_obj (o := .dct false []) (u := .dK []) R hp fun _ => ⟨[], [], upd_same, Nat.zero_le _, .nil⟩
    exact P _ _ _ E R' r'
  | true =>
    refine (pe_newN (X := X)).imp fun σ H Q ⟨l, e, st, μ, R, S, P⟩ => ?_
    rw [evX] at P
    intro p hp
    obtain ⟨E, R', r'⟩ := new_obj (o := .dct true []) (u := .ext (dctF X.prog X.w p [])) R hp fun _ => ⟨[], by
      show upd H p _ p = some (.ext (dctF g.P g.w p []))
      rw [G.gp.1, G.gp.2]; exact upd_same, Nat.zero_le _, .nil⟩
    exact P _ _ _ E R' r'
theorem nosl (h : (!isSlice eb) = true) : NoSl eb := by
  intro o i
  cases eb <;> first | rfl | (simp [isSlice] at h)
theorem c_dix (G : Good g cf Γ X W) (hs : (!isSlice ek) = true) (hd : PE X ed (rdX X.K g (evX cf d) W)) (hk : PE X ek (rdX X.K g (evX cf k) W)) : PE X (.Subscript ed ek pos) (rdX X.K g (evX cf (.dix d k)) W) := by
  refine (pe_xget (by have := G.hu; omega) hd hk (nosl hs)).imp fun σ H Q ⟨l, e, st, μ, R, S, P⟩ => ?_
  rw [evX] at P
  refine ⟨l, e, st, μ, R, S, P.seq fun x st1 μ1 H1 v1 E1 R1 r1 P1 => ⟨l, e, st1, μ1, R1, S.ext R E1, P1.seq fun y st2 μ2 H2 v2 E2 R2 r2 P2 => ?_⟩⟩
  obtain ⟨dd, hd, P3⟩ := P2.ofOpt
  unfold evDix at hd
  split at hd
  · rename_i t kvs he
    split at hd
    · rename_i ok
      obtain ⟨a, o, rfl, gg, f1, _⟩ := dic_get G.gp R2 (r1.ext R1 E2) he r2 ok
      obtain ⟨u, rfl, ru⟩ := f1 dd hd
      exact ⟨a, u, rfl, gg, P3.here R2 ru⟩
    · cases hd
  · cases hd
theorem din_pc {neg : Bool} (G : Good g cf Γ X W) (hk : PE X ek (rdX X.K g (evX cf k) W)) (hd : PE X ed (rdX X.K g (evX cf d) W)) :
    PC X (if neg then .NotIn else .In) ek ed (rdX X.K g (evX cf (.din neg k d)) W) := by
  refine ⟨fun pins s σ H Q I hw => (pc_xin neg (by have := G.hu; omega) hk hd).run pins s σ H Q I ?_⟩
  obtain ⟨l, e, st, μ, R, S, P⟩ := hw
  rw [evX] at P
  refine ⟨l, e, st, μ, R, S, P.seq fun y st1 μ1 H1 v1 E1 R1 r1 P1 => ⟨l, e, st1, μ1, R1, S.ext R E1, P1.seq fun x st2 μ2 H2 v2 E2 R2 r2 P2 => ?_⟩⟩
  obtain ⟨dd, hd, P3⟩ := P2.ofOpt
  obtain ⟨bb, hb, rfl⟩ := Option.map_eq_some_iff.mp hd
  unfold evDin at hb
  split at hb
  · rename_i t kvs he
    split at hb
    · rename_i ok
      cases hb
      obtain ⟨a, o, rfl, gg, f1, f2⟩ := dic_get G.gp R2 r2 he (r1.ext R1 E2) ok
      have ho : o.isSome = (dGet kvs y).isSome := by
        cases q : dGet kvs y with
        | none => rw [f2 q]; rfl
        | some dd => obtain ⟨u, e, _⟩ := f1 dd q; rw [e]; rfl
      refine ⟨a, o, rfl, gg, ?_⟩
      rw [ho]
      exact P3.here R2 (.bl _)
    · cases hb
  · cases hb
theorem marks_in {op : CmpOp} {e : Expr} (h : (!isSet e) = true) : behindInMarks op e = false := marks_of h
theorem din_bl {neg : Bool} {e : Sl} {st : Store} {dd : D} {st' : Store} (h : evX cf (.din neg k d) e st = .ok dd st') : ∃ q, dd = .bl q := by
  rw [evX] at h
  generalize evX cf k e st = r at h
  cases r with
  | ok y st1 =>
    simp only [EV.R.bind_ok] at h
    generalize evX cf d e st1 = r at h
    cases r with
    | ok x st2 =>
      simp only [EV.R.bind_ok] at h
      cases q : evDin st2 y x with
      | none => rw [q] at h; cases h
      | some b => rw [q] at h; cases h; exact ⟨_, rfl⟩
    | exc c fs st1 => cases h
    | fail => cases h
  | exc c fs st1 => cases h
  | fail => cases h
theorem c_din {neg : Bool} (G : Good g cf Γ X W) (hm : (!isSet ed) = true) (hk : PE X ek (rdX X.K g (evX cf k) W)) (hd : PE X ed (rdX X.K g (evX cf d) W)) :
    PE X (.Compare ek [if neg then .NotIn else .In] [ed] pos) (rdX X.K g (evX cf (.din neg k d)) W) ∧ PT X (.Compare ek [if neg then .NotIn else .In] [ed] pos) (rdB X.K g (asB (evX cf (.din neg k d))) W) := by
  refine ⟨pe_cmp (din_pc G hk hd) (marks_in hm), (pt_cmp (din_pc G hk hd) (marks_in hm)).imp fun σ H Q ⟨l, e, st, μ, R, S, P⟩ => ?_⟩
  exact ⟨l, e, st, μ, R, S, asB_seq P fun b st1 μ1 H1 E1 R1 q => ⟨b, rfl, q⟩⟩
theorem plain_base {eo : Expr} {m : Str} {env : Env} (h : plainB eo = true) : attributeBase eo m env (eval eo env) = eval eo env := by
  cases eo <;> first | rfl | (simp [plainB] at h)
theorem c_dge {ap cp : Pos} (G : Good g cf Γ X W) (hl : (ap.endLine == cp.line) = true) (hb : plainB ed = true) (h1 : (!isStar ek) = true) (h2 : (!isStar ez) = true) (hd : PE X ed (rdX X.K g (evX cf d) W)) (hk : PE X ek (rdX X.K g (evX cf k) W)) (hz : PE X ez (rdX X.K g (evX cf z) W)) :
    PE X (.Call (.Attribute ed "get" ap) [ek, ez] [] cp) (rdX X.K g (evX cf (.dge d k z)) W) := by
  refine (pe_xget2 (by have := G.hu; omega) hd hk hz (m2_of (plain_base hb) h1 h2 hl)).imp fun σ H Q ⟨l, e, st, μ, R, S, P⟩ => ?_
  rw [evX] at P
  refine ⟨l, e, st, μ, R, S, P.seq fun x st1 μ1 H1 v1 E1 R1 r1 P1 => ?_⟩
  by_cases hx : (dicOf st1 x).isSome = true
  · rw [if_pos hx] at P1
    obtain ⟨a, rfl, ix⟩ := dic_is G.gp R1 r1 hx
    refine ⟨a, rfl, ix, l, e, st1, μ1, R1, S.ext R E1, P1.seq fun y st2 μ2 H2 v2 E2 R2 r2 P2 => ⟨l, e, st2, μ2, R2, (S.ext R E1).ext R1 E2, P2.seq fun u st3 μ3 H3 v3 E3 R3 r3 P3 => ?_⟩⟩
    obtain ⟨dd, hd, P4⟩ := P3.ofOpt
    unfold evDge at hd
    split at hd
    · rename_i t kvs he
      split at hd
      · rename_i ok
        cases hd
        obtain ⟨a', o, e', gg, f1, f2⟩ := dic_get G.gp R3 ((r1.ext R1 E2).ext R2 E3) he (r2.ext R2 E3) ok
        cases e'
        refine ⟨o, gg, ?_⟩
        cases q : dGet kvs y with
        | none =>
          rw [f2 q]
          rw [q] at P4
          exact P4.here R3 r3
        | some dd =>
          obtain ⟨w, e, rw'⟩ := f1 dd q
          rw [e]
          rw [q] at P4
          exact P4.here R3 rw'
      · cases hd
    · cases hd
  · rw [if_neg hx] at P1
    exact P1.elim
theorem c_dsp (h1 : (!isStar ek) = true) (h2 : (!isStar ev) = true) (hk : PE X ek (rdX X.K g (evX cf k) W)) (hv : PE X ev (rdX X.K g (evX cf v) W)) : PE X (.Dict [some ek] [ev] pos) (rdX X.K g (evX cf (.dsp k v)) W) := by
  refine (pe_disp (pps_cons hk hv pps_nil) (by rfl) (by rfl) (by intro z; cases z) (by show 1 ≤ 15; omega)).imp fun σ H Q ⟨l, e, st, μ, R, S, P⟩ => ?_
  rw [evX] at P
  intro p hp
  obtain ⟨R0, E0⟩ := R.upd_free (o := .dK []) hp
  refine ⟨l, e, st, μ, R0, S.ext R E0, Post.seqB E0 P fun x st1 μ1 H1 v1 E1 R1 r1 P1 => ?_⟩
  refine ⟨l, e, st1, μ1, R1, (S.ext R E0).ext R0 E1, Post.seqB (E0.trans E1) P1 fun y st2 μ2 H2 v2 E2 R2 r2 P2 => ?_⟩
  have n0 : ¬ Live μ st p := R.notLiveN hp
  have k2 : H2 p = some (.dK []) := (E1.trans E2).keep p _ upd_same n0
  split at P2
  · rename_i ok
    cases x <;> simp [keyOk] at ok
    cases r1
    rename_i i
    refine ⟨k2, [(.inl i, v2)], rfl, by show 1 ≤ 15; omega, ?_⟩
    have hm : mergeK [] [((Sum.inl i : Key), v2)] = zK [i] [v2] := rfl
    rw [hm]
    have hmu : p ∉ μ2 := Ext.out R hp (E1.trans E2)
    have E3 : Ext μ st H μ2 st2 (upd H2 p (.dK (zK [i] [v2]))) := Ext.dk hp (E1.trans E2)
    have R3 : Rel X.K (g.h l) μ2 st2 (upd H2 p (.dK (zK [i] [v2]))) := R2.dk k2 hmu
    have r3 := r2.dk (kvs' := zK [i] [v2]) k2
    obtain ⟨q2, q3⟩ := adopt_dct R3 (kvs := [(.int i, y)]) upd_same hmu (by simp [most]) (.cons r3 .nil) (fun z => by
      obtain ⟨_, xs, e⟩ := R3.hid p z
      rw [upd_same] at e; cases e)
    exact P2 _ _ _ (E3.adopt hp) q2 q3
  · exact P2.elim
/-! ### list.index, l[::-1] -/
theorem pys_map : ∀ (ds : List D), D.pys ds = ds.map D.py
  | [] => rfl
  | d :: ds => by rw [D.pys, pys_map ds]; rfl
theorem Reps.reverse {K : PySem.W.Frag} {g : G} {μ : List Addr} {st : Store} {H : Hp} : ∀ {ds : List D} {vs : List V}, Reps K g μ st H ds vs → Reps K g μ st H ds.reverse vs.reverse
  | _, _, .nil => .nil
  | _, _, .cons r t => by
    rw [List.reverse_cons, List.reverse_cons]
    exact (Reps.reverse t).append (.cons r .nil)
theorem c_rev {kk : Nat} {p1 p2 p3 : Pos} (ha : PE X ea (rdX X.K g (evX cf a) W)) : PE X (.Subscript ea (.Slice none none (some (.UnaryOp .USub (.Constant (.int 1) kk p1) p2)) p3) pos) (rdX X.K g (evX cf (.rev a)) W) := by
  refine (pe_revK ha).imp fun σ H Q ⟨l, e, st, μ, R, S, P⟩ => ?_
  rw [evX] at P
  refine ⟨l, e, st, μ, R, S, P.seq fun x st1 μ1 H1 v1 E1 R1 r1 P1 => ?_⟩
  obtain ⟨dd, hd, P2⟩ := P1.ofOpt
  cases x <;> simp [evRev] at hd
  · subst hd
    obtain ⟨p, xs, rfl, h2, l1, rs⟩ := r1.seqT
    refine ⟨true, p, xs, rfl, h2, fun q hq => ?_⟩
    obtain ⟨E, R', r'⟩ := new_tup R1 hq (by rw [List.length_reverse]; exact l1) rs.reverse
    exact P2 _ _ _ E R' r'
  · subst hd
    obtain ⟨p, xs, rfl, h2, l1, rs⟩ := r1.seqL
    refine ⟨false, p, xs, rfl, h2, fun q hq => ?_⟩
    obtain ⟨E, R', r'⟩ := new_lst R1 hq (by rw [List.length_reverse]; exact l1) rs.reverse
    exact P2 _ _ _ E R' r'
theorem c_lix {ap cp : Pos} (G : Good g cf Γ X W) (hl : (ap.endLine == cp.line) = true) (hb : plainB ea = true) (h1 : (!isStar ez) = true) (ha : PE X ea (rdX X.K g (evX cf a) W)) (hz : PE X ez (rdX X.K g (evX cf z) W)) :
    PE X (.Call (.Attribute ea "index" ap) [ez] [] cp) (rdX X.K g (evX cf (.lix a z)) W) := by
  refine (pe_bm PySem.F.plainAttrs_list PySem.F.slot_list_index PySem.F.type_list_index (mt_indexD (by have := G.hu; omega)) ha (pa_cons hz pa_nil (star_one h1)) (plain_base hb) (by rw [star_one h1]; rfl) hl (star_one h1) rfl).imp fun σ H Q ⟨l, e, st, μ, R, S, P⟩ => ?_
  rw [evX] at P
  refine ⟨l, e, st, μ, R, S, P.seq fun x st1 μ1 H1 v1 E1 R1 r1 P1 => ?_⟩
  by_cases hx : x.isL = true
  rotate_left
  · rw [if_neg hx] at P1
    exact P1.elim
  rw [if_pos hx] at P1
  cases x with
  | lst ds =>
    obtain ⟨p, xs, rfl, h2, l1, rs⟩ := r1.seqL
    refine ⟨.inl ⟨rfl, xs, h2⟩, l, e, st1, μ1, R1, S.ext R E1, P1.seq fun y st2 μ2 H2 v2 E2 R2 r2 P2 => ?_⟩
    obtain ⟨dd, hd, P3⟩ := P2.ofOpt
    unfold evLix at hd
    simp only [] at hd
    split at hd
    · rename_i hh
      simp only [Bool.and_eq_true] at hh
      obtain ⟨⟨o1, o2⟩, o3⟩ := hh
      cases hd
      have rl := r1.ext R1 E2
      have gl := (okD_shaped o2).1
      have dl := rl.dp gl
      rw [D.py] at dl
      have sl := (okD_shaped o2).2
      rw [D.py] at sl
      have hlt : (ds.findIdx fun z => eqv z y) < ds.length := by
        rw [List.findIdx_lt_length]
        obtain ⟨z, h1, h2⟩ := List.any_eq_true.mp o3
        exact ⟨z, h1, h2⟩
      have pyget : ∀ (m : Nat), (D.pys ds)[m]? = (ds[m]?).map D.py := fun m => by rw [pys_map, List.getElem?_map]
      refine ⟨p, v2, y.py, D.pys ds, ds.findIdx fun z => eqv z y, (ds[ds.findIdx fun z => eqv z y]).py, rfl, rfl, dl, r2.dp (okD_shaped o1).1, sl, (okD_shaped o1).2, ?_, ?_, fun m z' hm hz' => ?_, P3.here R2 (.int _)⟩
      · rw [pyget, List.getElem?_eq_getElem hlt]; rfl
      · have := List.findIdx_getElem (p := fun z => eqv z y) (xs := ds) (w := hlt)
        exact this
      · rw [pyget] at hz'
        obtain ⟨z, hz, rfl⟩ := Option.map_eq_some_iff.mp hz'
        have := List.not_of_lt_findIdx (p := fun z => eqv z y) (xs := ds) hm
        obtain ⟨hml, e⟩ := List.getElem?_eq_some_iff.mp hz
        rw [e] at this
        simpa [eqv] using this
    · cases hd
  | _ => simp [D.isL] at hx
end
/-! ### for k in d -/
section
variable {g : G} {cf : Call} {X : Cx} {W : WX} {e etg : Expr} {a : EV.X}
theorem iter_keys {g : G} {μ : List Addr} {st : Store} {H : Hp} {p : Addr} {o : Obj} {ns : List Int} {xs : List V} (R : Rel X.K g μ st H) (h : H p = some (.frz o (dKof ns xs))) (hl : ns.length = xs.length) (hm : ns.length ≤ most) : IterOk X.K g μ st H (ns.map D.int) (Itk p o (zK ns xs)) := by
  have hz : (zK ns xs).length = ns.length := by rw [List.length_zipWith, hl, Nat.min_self]
  refine ⟨by rw [List.length_map]; exact hm, fun H => H p = some (.frz o (.dK (zK ns xs))), fun i H x H' => H' = H ∧ ∃ k v, (zK ns xs)[i]? = some (k, v) ∧ x = kV k, ?_, fun μ' st' H' E => ?_, fun i x H1 H2 d l μ1 st1 hl E R1 hd y => ?_⟩
  · rw [List.length_map, ← hz]; exact walk_keys
  · refine E.keep p _ h ?_
    rintro ⟨i, ob, e1, e2, e3⟩
    have q := R.obj i ob p e2 e1
    cases ob with
    | lst es => obtain ⟨ys, q1, _⟩ := q; rw [h] at q1; cases q1
    | dct t es =>
      cases t with
      | false => obtain ⟨ns', ys, q1, _⟩ := q; rw [h] at q1; cases q1
      | true => obtain ⟨ents, q1, _⟩ := q; rw [h] at q1; cases q1
    | gone => exact e3
  · obtain ⟨rfl, k, v, h1, rfl⟩ := y
    rw [List.getElem?_zipWith] at h1
    rw [List.getElem?_map] at hd
    cases hn : ns[i]? with
    | none => rw [hn] at hd; cases hd
    | some n =>
      rw [hn] at hd h1
      cases hd
      cases hx : xs[i]? with
      | none => rw [hx] at h1; cases h1
      | some x =>
        rw [hx] at h1
        cases h1
        exact ⟨Ext.refl R1.len, R1, .int n⟩
theorem i_keys (ha : PE X e (rdX X.K g (evX cf a) W)) : PI X etg e (rdI X.K g (evSr cf (.keys a)) W) := by
  refine (pi_keys ha).imp fun σ H Q ⟨l, e, st, μ, R, S, P⟩ => ?_
  rw [evSr] at P
  refine ⟨l, e, st, μ, R, S, P.seq fun x st1 μ1 H1 v1 E1 R1 r1 P1 => ?_⟩
  cases x with
  | dct ks vs =>
    cases r1 with
    | dct h e1 n1 l1 rr =>
      subst e1
      rw [List.length_map] at l1
      exact ⟨_, _, rfl, .inl ⟨_, h, P1.here R1 (iter_keys R1 h n1 l1)⟩⟩
  | _ => exact P1.elim
end
end EV
/-! EvK: every expression that passes the check is sound. -/
namespace EV
open PySem PySem.Spec PyProof.Rows L2

theorem plain_he {e : Expr} (h : plainT e = true) {env : Env} : ∀ whole, isTrue e env whole = (do let v ← whole; standAt e.pos; holding [v] (truthy v)) := by
  intro whole
  cases e with
  | UnaryOp op _ _ => cases op <;> first | rfl | (simp [plainT] at h)
  | BoolOp _ _ _ => simp [plainT] at h
  | IfExp _ _ _ _ => simp [plainT] at h
  | Compare _ _ _ _ => simp [plainT] at h
  | _ => rfl

section
variable {g : G} {cf : Call}
theorem both {X : Cx} {W : WX} {e : Expr} {m : Sl → Store → EV.R EV.D} (h : PE X e (rdX X.K g m W)) (hp : plainT e = true) : PE X e (rdX X.K g m W) ∧ PT X e (rdB X.K g (asB m) W) := by
  refine ⟨h, (pt_val h (plain_he hp)).imp fun σ H Q ⟨l, e, st, μ, R, S, P⟩ => ⟨l, e, st, μ, R, S, asB_seq P fun b st1 μ1 H1 E1 R1 q => ⟨b, rfl, q⟩⟩⟩
theorem asB_bop {isAnd : Bool} {x y : EV.X} {ys : Xs} {e : Sl} {st : Store} : asB (evBop cf isAnd (.cons x (.cons y ys))) e st = (asB (evX cf x) e st).bind fun b st1 => if b = isAnd then asB (evBop cf isAnd (.cons y ys)) e st1 else .ok b st1 := by
  unfold asB
  rw [evBop]
  · generalize evX cf x e st = r
    cases r with
    | ok d st1 =>
      cases d with
      | bl b =>
        simp only [EV.R.bind_ok]
        by_cases hb : b = isAnd
        · rw [if_pos hb, if_pos hb]
        · rw [if_neg hb, if_neg hb]; rfl
      | _ => rfl
    | exc c fs st1 => rfl
    | fail => rfl
  · intro h
    cases h
theorem evXc_some {a : EV.X} : evXc cf (.some a) = asB (evX cf a) := by
  funext e st
  rw [evXc]
  rfl
theorem srSet : ∀ (sr : Sr) {Γ : Gm} {etg e : Expr}, chkSr sr Γ etg e = true → (!isSet e) = true
  | .val a, Γ, etg, e, h => by
    simp only [chkSr, Bool.and_eq_true] at h
    exact h.2
  | .keys a, Γ, etg, e, h => by
    simp only [chkSr, Bool.and_eq_true] at h
    exact h.2
  | .rng a, Γ, etg, e, h => by cases e <;> first | (simp [chkSr] at h; done) | rfl
  | .rng2 a b, Γ, etg, e, h => by cases e <;> first | (simp [chkSr] at h; done) | rfl
  | .enm a, Γ, etg, e, h => by cases etg <;> first | (simp [chkSr] at h; done) | (cases e <;> first | (simp [chkSr] at h; done) | rfl)
  | .zip a b, Γ, etg, e, h => by cases etg <;> first | (simp [chkSr] at h; done) | (cases e <;> first | (simp [chkSr] at h; done) | rfl)
mutual
theorem xOk : ∀ (x : EV.X) {Γ : Gm} {e : Expr} {X : Cx} {W : WX}, Good g cf Γ X W → chkX x Γ e = true → PE X e (rdX X.K g (evX cf x) W) ∧ PT X e (rdB X.K g (asB (evX cf x)) W)
  | .var i, Γ, e, X, W, G, h => by
    cases e <;> first | (simp [chkX] at h; done) | skip
    simp only [chkX, Bool.and_eq_true, decide_eq_true_eq] at h
    exact both (c_var (cf := cf) G h.1.1.1 h.1.1.2 h.1.2 h.2) rfl
  | .con d, Γ, e, X, W, G, h => by
    cases e <;> first | (simp [chkX] at h; done) | skip
    · simp only [chkX] at h
      exact both (c_con (g := g) (cf := cf) (X := X) (W := W) h) rfl
    · simp only [chkX, Bool.and_eq_true] at h
      obtain ⟨⟨h1, h2⟩, h3⟩ := h
      split at h3
      · rename_i d' hd
        exact both (c_cst (cf := cf) G h1 h2 hd (D.beq_eq _ _ h3)) rfl
      · cases h3
  | .gfn k, Γ, e, X, W, G, h => by
    cases e <;> first | (simp [chkX] at h; done) | skip
    simp only [chkX, Bool.and_eq_true] at h
    obtain ⟨⟨h1, h2⟩, h3⟩ := h
    split at h3
    · rename_i q hq
      obtain ⟨n, m⟩ := q
      simp only [decide_eq_true_eq] at h3
      subst h3
      exact both (c_gfn (cf := cf) G h1 h2 hq) rfl
    · cases h3
  | .bin op a b, Γ, e, X, W, G, h => by
    cases e <;> first | (simp [chkX] at h; done) | skip
    simp only [chkX, Bool.and_eq_true, decide_eq_true_eq] at h
    obtain ⟨⟨rfl, h1⟩, h2⟩ := h
    exact both (c_bin (op := op) (xOk a G h1).1 (xOk b G h2).1) rfl
  | .neg a, Γ, e, X, W, G, h => by
    cases e <;> first | (simp [chkX] at h; done) | skip
    rename_i op ea p
    cases op <;> first | (simp [chkX] at h; done) | skip
    simp only [chkX] at h
    exact both (c_neg (xOk a G h).1) rfl
  | .not a, Γ, e, X, W, G, h => by
    cases e <;> first | (simp [chkX] at h; done) | skip
    rename_i op ea p
    cases op <;> first | (simp [chkX] at h; done) | skip
    simp only [chkX] at h
    exact ⟨c_not (xOk a G h).1, t_not (xOk a G h).2⟩
  | .bop isAnd xs, Γ, e, X, W, G, h => by
    cases e <;> first | (simp [chkX] at h; done) | skip
    rename_i op es p
    simp only [chkX, Bool.and_eq_true, decide_eq_true_eq] at h
    obtain ⟨rfl, h⟩ := h
    have ee : evX cf (.bop isAnd xs) = evBop cf isAnd xs := by funext σ st; rw [evX]
    rw [ee]
    by_cases hn : es = []
    · subst hn
      cases xs with
      | nil =>
        refine ⟨⟨fun pins s σ H Q I ⟨l, e, st, μ, R, S, P⟩ => ?_⟩, ⟨fun pins s σ H Q I ⟨l, e, st, μ, R, S, P⟩ => ?_⟩⟩
        · rw [evBop] at P; exact P.elim
        · unfold asB at P; rw [evBop] at P; exact P.elim
      | cons _ _ => simp [chkXs] at h
    · obtain ⟨h1, h2⟩ := bopOk isAnd xs (pos := p) G h hn
      exact ⟨h1, h2.pt⟩
  | .cmp op a b, Γ, e, X, W, G, h => by
    cases e <;> first | (simp [chkX] at h; done) | skip
    rename_i ea ops cs p
    match ops, cs, h with
    | [o], [eb], h =>
      simp only [chkX, Bool.and_eq_true, decide_eq_true_eq] at h
      obtain ⟨⟨⟨rfl, h1⟩, h2⟩, h3⟩ := h
      exact ⟨c_cmp G h3 (xOk a G h1).1 (xOk b G h2).1, t_cmp G h3 (xOk a G h1).1 (xOk b G h2).1⟩
    | [], _, h => simp [chkX] at h
    | _ :: _ :: _, _, h => simp [chkX] at h
    | [_], [], h => simp [chkX] at h
    | [_], _ :: _ :: _, h => simp [chkX] at h
  | .chn op op' a b c, Γ, e, X, W, G, h => by
    cases e <;> first | (simp [chkX] at h; done) | skip
    rename_i ea ops cs p
    match ops, cs, h with
    | [o, o'], [eb, ec], h =>
      simp only [chkX, Bool.and_eq_true, decide_eq_true_eq] at h
      obtain ⟨⟨⟨⟨⟨⟨rfl, rfl⟩, h1⟩, h2⟩, h3⟩, h4⟩, h5⟩ := h
      exact ⟨c_chn G h5 (xOk a G h1).1 (xOk b G h2).1 (xOk c G h3).1, t_chn G h5 (xOk a G h1).1 (xOk b G h2).1 (xOk c G h3).1⟩
    | [], _, h => simp [chkX] at h
    | [_], _, h => simp [chkX] at h
    | _ :: _ :: _ :: _, _, h => simp [chkX] at h
    | [_, _], [], h => simp [chkX] at h
    | [_, _], [_], h => simp [chkX] at h
    | [_, _], _ :: _ :: _ :: _, h => simp [chkX] at h
  | .ife c a b, Γ, e, X, W, G, h => by
    cases e <;> first | (simp [chkX] at h; done) | skip
    simp only [chkX, Bool.and_eq_true] at h
    obtain ⟨⟨h1, h2⟩, h3⟩ := h
    exact ⟨c_ife (xOk c G h1).2 (xOk a G h2).1 (xOk b G h3).1, t_ife (xOk c G h1).2 (xOk a G h2).2 (xOk b G h3).2⟩
  | .tup xs, Γ, e, X, W, G, h => by
    cases e <;> first | (simp [chkX] at h; done) | skip
    simp only [chkX, Bool.and_eq_true, decide_eq_true_eq] at h
    exact both (c_tup h.2 h.1 (xsOk xs G h.1)) rfl
  | .lst mu xs, Γ, e, X, W, G, h => by
    cases e <;> first | (simp [chkX] at h; done) | skip
    simp only [chkX, Bool.and_eq_true, decide_eq_true_eq] at h
    exact both (c_lst (mu := mu) h.2 h.1 (xsOk xs G h.1)) rfl
  | .idx a i, Γ, e, X, W, G, h => by
    cases e <;> first | (simp [chkX] at h; done) | skip
    simp only [chkX, Bool.and_eq_true] at h
    exact both (c_idx h.2 (xOk a G h.1.1).1 (xOk i G h.1.2).1) rfl
  | .sl a lo hi, Γ, e, X, W, G, h => by
    cases e <;> first | (simp [chkX] at h; done) | skip
    rename_i ea es p
    cases es <;> first | (simp [chkX] at h; done) | skip
    rename_i l u stp p2
    cases stp with
    | some _ => simp [chkX] at h
    | none =>
      simp only [chkX, Bool.and_eq_true] at h
      exact both (c_sl (p2 := p2) (pos := p) (xOk a G h.1.1).1 (xoOk lo G h.1.2) (xoOk hi G h.2)) rfl
  | .call k args, Γ, e, X, W, G, h => by
    cases e <;> first | (simp [chkX] at h; done) | skip
    rename_i f as kws p
    cases f <;> first | (simp [chkX] at h; done) | skip
    match as, kws, h with
    | e :: es, [], h =>
      simp only [chkX, Bool.and_eq_true, decide_eq_true_eq] at h
      obtain ⟨⟨⟨⟨h1, h2⟩, h3⟩, h4⟩, h5⟩ := h
      exact both (c_call G h1 h2 h3 h4 h5 (xsOk args G h5)) rfl
    | [], _, h => simp [chkX] at h
    | _ :: _, _ :: _, h => simp [chkX] at h
  | .callv i ks args, Γ, e, X, W, G, h => by
    cases e <;> first | (simp [chkX] at h; done) | skip
    rename_i f as kws p
    cases f <;> first | (simp [chkX] at h; done) | skip
    match as, kws, h with
    | e :: es, [], h =>
      simp only [chkX, Bool.and_eq_true, decide_eq_true_eq] at h
      obtain ⟨⟨⟨⟨⟨⟨h1, h2⟩, h3⟩, h4⟩, h5⟩, h6⟩, h7⟩ := h
      have h6' : ∀ k ∈ ks, ∃ x, Γ.fns[k]? = some (x, (e :: es).length) := by
        intro k hk
        have := List.all_eq_true.mp h6 k hk
        split at this
        · rename_i q hq
          obtain ⟨x, m⟩ := q
          simp only [decide_eq_true_eq] at this
          subst this
          exact ⟨x, hq⟩
        · cases this
      exact both (c_callv G h1 h2 h3 h4 h5 h6' h7 (xsOk args G h7)) rfl
    | [], _, h => simp [chkX] at h
    | _ :: _, _ :: _, h => simp [chkX] at h
  | .blt f args, Γ, e, X, W, G, h => by
    cases e <;> first | (simp [chkX] at h; done) | skip
    rename_i fe as kws p
    cases fe <;> first | (simp [chkX] at h; done) | skip
    match as, kws, h with
    | e :: es, [], h =>
      simp only [chkX, Bool.and_eq_true, decide_eq_true_eq] at h
      obtain ⟨⟨⟨⟨h1, h2⟩, h3⟩, h4⟩, h5⟩ := h
      exact both (c_blt G h1 h2 h3 h4 h5 (xsOk args G h5)) rfl
    | [], _, h => simp [chkX] at h
    | _ :: _, _ :: _, h => simp [chkX] at h
  | .isi a t, Γ, e, X, W, G, h => by
    cases e <;> first | (simp [chkX] at h; done) | skip
    rename_i fe as kws p
    cases fe <;> first | (simp [chkX] at h; done) | skip
    match as, kws, h with
    | [ea, .Name y p2], [], h =>
      simp only [chkX, Bool.and_eq_true, decide_eq_true_eq] at h
      obtain ⟨⟨⟨⟨⟨rfl, rfl⟩, h2⟩, h3⟩, h4⟩, h5⟩ := h
      exact both (c_isi (t := t) (p2 := p2) G h2 h3 h5 (xOk a G h4).1) rfl
    | [], _, h => simp [chkX] at h
    | [_], _, h => simp [chkX] at h
    | _ :: _ :: _ :: _, _, h => simp [chkX] at h
    | [_, ty], _ :: _, h => cases ty <;> simp [chkX] at h
    | [_, .BoolOp ..], [], h | [_, .NamedExpr ..], [], h | [_, .BinOp ..], [], h | [_, .UnaryOp ..], [], h | [_, .Lambda ..], [], h | [_, .IfExp ..], [], h | [_, .Dict ..], [], h | [_, .Set ..], [], h | [_, .ListComp ..], [], h
    | [_, .SetComp ..], [], h | [_, .DictComp ..], [], h | [_, .GeneratorExp ..], [], h | [_, .Await ..], [], h | [_, .Yield ..], [], h | [_, .YieldFrom ..], [], h | [_, .Compare ..], [], h | [_, .Call ..], [], h | [_, .FormattedValue ..], [], h
    | [_, .JoinedStr ..], [], h | [_, .Constant ..], [], h | [_, .Attribute ..], [], h | [_, .Subscript ..], [], h | [_, .Starred ..], [], h | [_, .List ..], [], h | [_, .Tuple ..], [], h | [_, .Slice ..], [], h => simp [chkX] at h
  | .mth _ _ _, Γ, e, X, W, G, h => by
    simp [chkX] at h
  | .lc mu elt tg src cond own, Γ, e, X, W, G, h => by
    cases e <;> first | (simp [chkX] at h; done) | skip
    rename_i eelt gs scope p
    match gs, h with
    | [⟨etg, eiter, ifs, ia⟩], h =>
      simp only [chkX, Bool.and_eq_true, decide_eq_true_eq] at h
      obtain ⟨⟨⟨⟨⟨⟨⟨rfl, h1⟩, h2⟩, h3⟩, h4⟩, h5⟩, h6⟩, h7⟩ := h
      have hns : (!isSet eiter) = true := srSet src h3
      exact both (c_lc (mu := mu) G h1 h2 (srOk src G h3) h4 h5 (fun X' hK G' => hK ▸ xcOk cond G' h6) (fun X' hK G' => hK ▸ (xOk elt G' h7).1) hns) rfl
    | [], h => simp [chkX] at h
    | _ :: _ :: _, h => simp [chkX] at h
  | .frz a, Γ, e, X, W, G, h => by
    simp only [chkX, Bool.and_eq_true] at h
    have c := c_frz (xOk a G h.1).1
    exact ⟨c, t_val c (plain_he h.2)⟩
  | .catm a b, Γ, e, X, W, G, h => by
    cases e <;> first | (simp [chkX] at h; done) | skip
    rename_i ea op eb p
    cases op <;> first | (simp [chkX] at h; done) | skip
    simp only [chkX, Bool.and_eq_true] at h
    exact both (c_catm (xOk a G h.1).1 (xOk b G h.2).1) rfl
  | .trg a, Γ, e, X, W, G, h => by
    rw [chkX] at h
    split at h
    · rename_i e1 he1
      have ih := (xOk a G h).1
      unfold trgArg at he1
      split at he1
      · split at he1
        · rename_i hh
          cases he1
          simp only [Bool.and_eq_true, decide_eq_true_eq] at hh
          obtain ⟨⟨⟨⟨⟨h1, rfl⟩, rfl⟩, h3⟩, h4⟩, h6⟩ := hh
          exact both (c_trg G h1 h3 h4 h6 ih) rfl
        · cases he1
      · cases he1
    · cases h
  | .dgt k1 k2 a b c d, Γ, e, X, W, G, h => by
    rw [chkX] at h
    split at h
    · rename_i e1 e2 e3 e4 he1
      simp only [Bool.and_eq_true] at h
      obtain ⟨⟨⟨i1, i2⟩, i3⟩, i4⟩ := h
      have j1 := (xOk a G i1).1
      have j2 := (xOk b G i2).1
      have j3 := (xOk c G i3).1
      have j4 := (xOk d G i4).1
      unfold dgtArg at he1
      split at he1
      · split at he1
        · rename_i hh
          cases he1
          simp only [Bool.and_eq_true, decide_eq_true_eq] at hh
          obtain ⟨⟨⟨⟨⟨⟨rfl, rfl⟩, h3⟩, rfl⟩, h5⟩, h6⟩, h7⟩ := hh
          exact both (c_dgt G h3 h5 h6 h7 j1 j2 j3 j4) rfl
        · cases he1
      · cases he1
    · cases h
  | .srs a, Γ, e, X, W, G, h => by
    rw [chkX] at h
    split at h
    · rename_i e1 he1
      have ih := (xOk a G h).1
      unfold srsArg at he1
      split at he1
      · split at he1
        · rename_i hh
          cases he1
          simp only [Bool.and_eq_true, decide_eq_true_eq] at hh
          obtain ⟨⟨⟨⟨⟨h1, rfl⟩, rfl⟩, h3⟩, h4⟩, h6⟩ := hh
          exact both (c_srs G h1 h3 h4 h6 ih) rfl
        · cases he1
      · cases he1
    · cases h
  | .dnew t, Γ, e, X, W, G, h => by
    rw [chkX] at h
    unfold isDnew at h
    split at h
    · exact both (c_dnew G) rfl
    · cases h
  | .dsp k v, Γ, e, X, W, G, h => by
    rw [chkX] at h
    split at h
    · rename_i ek ev he
      simp only [Bool.and_eq_true] at h
      obtain ⟨⟨⟨h1, h2⟩, h3⟩, h4⟩ := h
      have j1 := (xOk k G h1).1
      have j2 := (xOk v G h2).1
      unfold dspArg at he
      split at he
      · cases he
        exact both (c_dsp h3 h4 j1 j2) rfl
      · cases he
    · cases h
  | .dix d k, Γ, e, X, W, G, h => by
    cases e <;> first | (simp [chkX] at h; done) | skip
    simp only [chkX, Bool.and_eq_true] at h
    exact both (c_dix G h.2 (xOk d G h.1.1).1 (xOk k G h.1.2).1) rfl
  | .din neg k d, Γ, e, X, W, G, h => by
    cases e <;> first | (simp [chkX] at h; done) | skip
    rename_i ea ops cs p
    match ops, cs, h with
    | [o], [eb], h =>
      simp only [chkX, Bool.and_eq_true, decide_eq_true_eq] at h
      obtain ⟨⟨⟨rfl, h1⟩, h2⟩, h3⟩ := h
      exact c_din G h3 (xOk k G h1).1 (xOk d G h2).1
    | [], _, h => simp [chkX] at h
    | _ :: _ :: _, _, h => simp [chkX] at h
    | [_], [], h => simp [chkX] at h
    | [_], _ :: _ :: _, h => simp [chkX] at h
  | .dge d k z, Γ, e, X, W, G, h => by
    rw [chkX] at h
    split at h
    · rename_i ed ek ez he
      simp only [Bool.and_eq_true] at h
      obtain ⟨⟨h1, h2⟩, h3⟩ := h
      have j1 := (xOk d G h1).1
      have j2 := (xOk k G h2).1
      have j3 := (xOk z G h3).1
      unfold dgeArg at he
      split at he
      · split at he
        · rename_i hh
          cases he
          simp only [Bool.and_eq_true, decide_eq_true_eq] at hh
          obtain ⟨⟨⟨⟨rfl, i1⟩, i2⟩, i3⟩, i4⟩ := hh
          exact both (c_dge G i1 i2 i3 i4 j1 j2 j3) rfl
        · cases he
      · cases he
    · cases h
  | .lix a z, Γ, e, X, W, G, h => by
    rw [chkX] at h
    split at h
    · rename_i ea ez he
      simp only [Bool.and_eq_true] at h
      obtain ⟨h1, h2⟩ := h
      have j1 := (xOk a G h1).1
      have j2 := (xOk z G h2).1
      unfold lixArg at he
      split at he
      · split at he
        · rename_i hh
          cases he
          simp only [Bool.and_eq_true, decide_eq_true_eq] at hh
          obtain ⟨⟨⟨rfl, i1⟩, i2⟩, i3⟩ := hh
          exact both (c_lix G i1 i2 i3 j1 j2) rfl
        · cases he
      · cases he
    · cases h
  | .srn a, Γ, e, X, W, G, h => by
    rw [chkX] at h
    split at h
    · rename_i e1 he1
      have ih := (xOk a G h).1
      unfold srsArg at he1
      split at he1
      · split at he1
        · rename_i hh
          cases he1
          simp only [Bool.and_eq_true, decide_eq_true_eq] at hh
          obtain ⟨⟨⟨⟨⟨h1, rfl⟩, rfl⟩, h3⟩, h4⟩, h6⟩ := hh
          exact both (c_srn G h1 h3 h4 h6 ih) rfl
        · cases he1
      · cases he1
    · cases h
  | .tri keep c0 hs x, Γ, e, X, W, G, h => by
    rw [chkX] at h
    split at h
    · rename_i scope body he1
      exact both (c_tri G he1 fun X' W' _ G' => (xOk x G' h).1) (triArg_plain he1)
    · cases h
  | .rev a, Γ, e, X, W, G, h => by
    rw [chkX] at h
    split at h
    · rename_i ea he
      have j1 := (xOk a G h).1
      unfold revArg at he
      split at he
      · cases he
        exact both (c_rev j1) rfl
      · cases he
    · cases h
theorem xsOk : ∀ (xs : Xs) {Γ : Gm} {es : List Expr} {X : Cx} {W : WX}, Good g cf Γ X W → chkXs xs Γ es = true → PA X es (rdXs X.K g (evXs cf xs) W)
  | .nil, Γ, [], X, W, G, h => a_nil
  | .nil, Γ, _ :: _, X, W, G, h => by simp [chkXs] at h
  | .cons x xs, Γ, [], X, W, G, h => by simp [chkXs] at h
  | .cons x xs, Γ, e :: es, X, W, G, h => by
    simp only [chkXs, Bool.and_eq_true] at h
    exact a_cons h.1.2 (xOk x G h.1.1).1 (xsOk xs G h.2)
theorem bopOk (isAnd : Bool) : ∀ (xs : Xs) {Γ : Gm} {es : List Expr} {pos : Pos} {X : Cx} {W : WX}, Good g cf Γ X W → chkXs xs Γ es = true → es ≠ [] →
    PE X (.BoolOp (if isAnd then .And else .Or) es pos) (rdX X.K g (evBop cf isAnd xs) W) ∧ PW X (.BoolOp (if isAnd then .And else .Or) es pos) (rdB X.K g (asB (evBop cf isAnd xs)) W)
  | .nil, Γ, [], pos, X, W, G, h, hn => absurd rfl hn
  | .nil, Γ, _ :: _, pos, X, W, G, h, hn => by simp [chkXs] at h
  | .cons x xs, Γ, [], pos, X, W, G, h, hn => absurd rfl hn
  | .cons x .nil, Γ, [e], pos, X, W, G, h, hn => by
    simp only [chkXs, Bool.and_eq_true] at h
    have ee : evBop cf isAnd (.cons x .nil) = evX cf x := by funext σ st; rw [evBop]
    rw [ee]
    refine ⟨pe_one (xOk x G h.1.1).1, ?_⟩
    cases isAnd with
    | true => exact pw_and1 (xOk x G h.1.1).2
    | false => exact pw_or1 (xOk x G h.1.1).2
  | .cons x .nil, Γ, _ :: _ :: _, pos, X, W, G, h, hn => by simp [chkXs] at h
  | .cons x (.cons y ys), Γ, [_], pos, X, W, G, h, hn => by simp [chkXs] at h
  | .cons x (.cons y ys), Γ, e :: e' :: es, pos, X, W, G, h, hn => by
    rw [chkXs, Bool.and_eq_true, Bool.and_eq_true] at h
    obtain ⟨i1, i2⟩ := xOk x G h.1.1
    obtain ⟨j1, j2⟩ := bopOk isAnd (.cons y ys) (pos := pos) G h.2 (by simp)
    cases isAnd with
    | true =>
      refine ⟨(pe_and i1 j1).imp fun σ H Q ⟨l, e, st, μ, R, S, P⟩ => ?_, (pw_and i2 j2).imp fun σ H Q ⟨l, e, st, μ, R, S, P⟩ => ?_⟩
      · rw [evBop] at P
        · refine ⟨l, e, st, μ, R, S, P.seq fun d st1 μ1 H1 v1 E1 R1 r1 P1 => ?_⟩
          obtain ⟨b, rfl, P2⟩ := P1.bool
          cases r1
          cases b with
          | true => exact ⟨true, rfl, l, e, st1, μ1, R1, S.ext R E1, P2⟩
          | false => exact ⟨false, rfl, P2.here R1 (.bl false)⟩
        · intro z; cases z
      · rw [asB_bop] at P
        refine ⟨l, e, st, μ, R, S, P.seq fun b st1 μ1 H1 v1 E1 R1 r1 P1 => ?_⟩
        cases r1
        cases b with
        | true => exact ⟨l, e, st1, μ1, R1, S.ext R E1, P1⟩
        | false => exact P1.here R1 rfl
    | false =>
      refine ⟨(pe_or i1 j1).imp fun σ H Q ⟨l, e, st, μ, R, S, P⟩ => ?_, (pw_or i2 j2).imp fun σ H Q ⟨l, e, st, μ, R, S, P⟩ => ?_⟩
      · rw [evBop] at P
        · refine ⟨l, e, st, μ, R, S, P.seq fun d st1 μ1 H1 v1 E1 R1 r1 P1 => ?_⟩
          obtain ⟨b, rfl, P2⟩ := P1.bool
          cases r1
          cases b with
          | true => exact ⟨true, rfl, P2.here R1 (.bl true)⟩
          | false => exact ⟨false, rfl, l, e, st1, μ1, R1, S.ext R E1, P2⟩
        · intro z; cases z
      · rw [asB_bop] at P
        refine ⟨l, e, st, μ, R, S, P.seq fun b st1 μ1 H1 v1 E1 R1 r1 P1 => ?_⟩
        cases r1
        cases b with
        | true => exact P1.here R1 rfl
        | false => exact ⟨l, e, st1, μ1, R1, S.ext R E1, P1⟩
theorem xoOk : ∀ (xo : Xo) {Γ : Gm} {eo : Option Expr} {X : Cx} {W : WX}, Good g cf Γ X W → chkXo xo Γ eo = true → PO X eo (rdO X.K g (evXo cf xo) W)
  | .none, Γ, none, X, W, G, h => o_none
  | .none, Γ, some _, X, W, G, h => by simp [chkXo] at h
  | .some x, Γ, none, X, W, G, h => by simp [chkXo] at h
  | .some x, Γ, some e, X, W, G, h => by
    simp only [chkXo] at h
    exact o_some (xOk x G h).1
theorem xcOk : ∀ (xo : Xo) {Γ : Gm} {ifs : List Expr} {X : Cx} {W : WX}, Good g cf Γ X W → chkXc xo Γ ifs = true → PTs X ifs (rdB X.K g (evXc cf xo) W)
  | .none, Γ, [], X, W, G, h => ⟨fun pins s σ H Q I ⟨l, e, st, μ, R, S, P⟩ => pts_nil.run pins s σ H Q I (by rw [evXc] at P; exact P.here R rfl)⟩
  | .none, Γ, _ :: _, X, W, G, h => by simp [chkXc] at h
  | .some x, Γ, [], X, W, G, h => by simp [chkXc] at h
  | .some x, Γ, [e], X, W, G, h => by
    simp only [chkXc] at h
    rw [evXc_some]
    exact pts_one (xOk x G h).2
  | .some x, Γ, _ :: _ :: _, X, W, G, h => by simp [chkXc] at h
theorem srOk : ∀ (sr : Sr) {Γ : Gm} {etg e : Expr} {X : Cx} {W : WX}, Good g cf Γ X W → chkSr sr Γ etg e = true → PI X etg e (rdI X.K g (evSr cf sr) W)
  | .val a, Γ, etg, e, X, W, G, h => by
    simp only [chkSr, Bool.and_eq_true] at h
    exact i_val (xOk a G h.1).1
  | .keys a, Γ, etg, e, X, W, G, h => by
    simp only [chkSr, Bool.and_eq_true] at h
    exact i_keys (xOk a G h.1).1
  | .rng a, Γ, etg, e, X, W, G, h => by
    cases e <;> first | (simp [chkSr] at h; done) | skip
    rename_i f as kws p
    cases f <;> first | (simp [chkSr] at h; done) | skip
    match as, kws, h with
    | [e], [], h =>
      simp only [chkSr, Bool.and_eq_true, decide_eq_true_eq] at h
      obtain ⟨⟨⟨rfl, h1⟩, h2⟩, h3⟩ := h
      exact i_rng G h1 h3 (xOk a G h2).1
    | [], _, h => simp [chkSr] at h
    | _ :: _ :: _, _, h => simp [chkSr] at h
    | [_], _ :: _, h => simp [chkSr] at h
  | .rng2 a b, Γ, etg, e, X, W, G, h => by
    cases e <;> first | (simp [chkSr] at h; done) | skip
    rename_i f as kws p
    cases f <;> first | (simp [chkSr] at h; done) | skip
    match as, kws, h with
    | [e, e2], [], h =>
      simp only [chkSr, Bool.and_eq_true, decide_eq_true_eq] at h
      obtain ⟨⟨⟨⟨⟨rfl, h1⟩, h2⟩, h3⟩, h4⟩, h5⟩ := h
      exact i_rng2 G h1 h4 h5 (xOk a G h2).1 (xOk b G h3).1
    | [], _, h => simp [chkSr] at h
    | [_], _, h => simp [chkSr] at h
    | _ :: _ :: _ :: _, _, h => simp [chkSr] at h
    | [_, _], _ :: _, h => simp [chkSr] at h
  | .enm a, Γ, etg, e, X, W, G, h => by
    cases etg <;> first | (simp [chkSr] at h; done) | skip
    cases e <;> first | (simp [chkSr] at h; done) | skip
    rename_i f as kws p
    cases f <;> first | (simp [chkSr] at h; done) | skip
    match as, kws, h with
    | [e], [], h =>
      simp only [chkSr, Bool.and_eq_true, decide_eq_true_eq] at h
      obtain ⟨⟨⟨rfl, h1⟩, h2⟩, h3⟩ := h
      exact i_enm G h1 h3 (xOk a G h2).1
    | [], _, h => simp [chkSr] at h
    | _ :: _ :: _, _, h => simp [chkSr] at h
    | [_], _ :: _, h => simp [chkSr] at h
  | .zip a b, Γ, etg, e, X, W, G, h => by
    cases etg <;> first | (simp [chkSr] at h; done) | skip
    cases e <;> first | (simp [chkSr] at h; done) | skip
    rename_i f as kws p
    cases f <;> first | (simp [chkSr] at h; done) | skip
    match as, kws, h with
    | [e, e2], [], h =>
      simp only [chkSr, Bool.and_eq_true, decide_eq_true_eq] at h
      obtain ⟨⟨⟨⟨⟨rfl, h1⟩, h2⟩, h3⟩, h4⟩, h5⟩ := h
      exact i_zip G h1 h4 h5 (xOk a G h2).1 (xOk b G h3).1
    | [], _, h => simp [chkSr] at h
    | [_], _, h => simp [chkSr] at h
    | _ :: _ :: _ :: _, _, h => simp [chkSr] at h
    | [_, _], _ :: _, h => simp [chkSr] at h
end
end
end EV
/-! EvL: statements that pass the check are sound. -/
namespace EV
open PySem PySem.Spec PyProof.Rows L2

/-! ### readings -/
section
variable {K : PySem.W.Frag} {g : G} {μ μ' μ1 : List Addr} {st st' st1 : Store} {H H' H1 : Hp} {α β : Type} {D D' : Ends} {W W' : WX}
def PostS (K : PySem.W.Frag) (g : G) (μ : List Addr) (st : Store) (H : Hp) (r : RS) (D : Ends) (W : WX) : Prop :=
  match r with
  | .nx e' st' => ∀ μ' H' σ', Ext μ st H μ' st' H' → Rel K g μ' st' H' → SlRep K g μ' st' H' e' σ' → D.nx σ' H'
  | .rt d st' => ∀ μ' H' v, Ext μ st H μ' st' H' → Rel K g μ' st' H' → Rep K g μ' st' H' d v → D.rt v H'
  | .bk e' st' => ∀ μ' H' σ', Ext μ st H μ' st' H' → Rel K g μ' st' H' → SlRep K g μ' st' H' e' σ' → D.bk σ' H'
  | .ct e' st' => ∀ μ' H' σ', Ext μ st H μ' st' H' → Rel K g μ' st' H' → SlRep K g μ' st' H' e' σ' → D.ct σ' H'
  | .exc c fs e' st' => ∀ μ' H' σ' cls dd, Ext μ st H μ' st' H' → Rel K g μ' st' H' → SlRep K g μ' st' H' e' σ' → XRep K g μ' st' H' c fs cls dd → W cls dd σ' H'
  | .fail => False
theorem PostS.rebase {r : RS} (h : PostS K g μ st H r D W) (E : Ext μ st H μ1 st1 H1) : PostS K g μ1 st1 H1 r D W := by
  cases r with
  | nx e' st' => intro μ' H' σ' E' R' S'; exact h μ' H' σ' (E.trans E') R' S'
  | rt d st' => intro μ' H' v E' R' r'; exact h μ' H' v (E.trans E') R' r'
  | bk e' st' => intro μ' H' σ' E' R' S'; exact h μ' H' σ' (E.trans E') R' S'
  | ct e' st' => intro μ' H' σ' E' R' S'; exact h μ' H' σ' (E.trans E') R' S'
  | exc c fs e' st' => intro μ' H' σ' cls dd E' R' S' x; exact h μ' H' σ' cls dd (E.trans E') R' S' x
  | fail => exact h
/-- an expression, then a statement -/
theorem PostS.thn {RA : List Addr → Store → Hp → α → β → Prop} {r : R α} {f : α → Store → RS} {e : Sl} {σ : L2.St} {Q1 : β → Hp → Prop} (h : PostS K g μ st H (r.thn e f) D W) (R : Rel K g μ st H) (S : SlRep K g μ st H e σ)
    (k : ∀ a st1 μ1 H1 v1, Ext μ st H μ1 st1 H1 → Rel K g μ1 st1 H1 → RA μ1 st1 H1 a v1 → PostS K g μ1 st1 H1 (f a st1) D W → Q1 v1 H1) : Post K g RA μ st H r Q1 (fun c d H' => W c d σ H') := by
  cases r with
  | ok a st' => intro μ' H' v E' R' r'; exact k a st' μ' H' v E' R' r' (PostS.rebase h E')
  | exc c fs st' => intro μ' H' cls dd E' R' x; exact h μ' H' σ cls dd E' R' (S.ext R E') x
  | fail => exact h
def rdS (K : PySem.W.Frag) (g : G) (m : Sl → Store → RS) (W : WX) : TS := fun D σ H => ∃ l e st μ, Rel K (g.h l) μ st H ∧ SlRep K (g.h l) μ st H e σ ∧ PostS K (g.h l) μ st H (m e st) D W
end

/-! ### the check -/
def Gm.suite (Γ : Gm) : Gm := { Γ with calm := false, top := false, lam := false }
/-- the comprehension stores by itself -/
def swB (sc : Scope) (v t : Expr) : Bool := match v, t with
  | .ListComp _ _ scope pos, .Name y py => sc.names.lookup y == some .local && py.line == pos.line && !(scope.names.any fun (n, k) => n == y && (k == .local || k == .cell))
  | _, _ => false
def isLC : Expr → Bool
  | .ListComp _ _ _ _ => true
  | _ => false
def isSC : Expr → Bool
  | .SetComp _ _ _ _ => true
  | .DictComp _ _ _ _ _ => true
  | _ => false
def plainBase : Expr → Bool
  | .Call _ _ _ _ => false
  | _ => true
/-- how an assignment is done -/
def asgMode (Γ : Gm) (tg : Tg) (x : EV.X) (t v : Expr) : Bool :=
  !isSC v && (match v, t with
    | .ListComp _ _ _ _, .Name y _ => Γ.top && (!swB Γ.sc v t || (match x, tg with
      | .lc _ _ _ _ _ _, .name _ => Γ.sc.names.lookup y == some .local
      | _, _ => false))
    | .Tuple vs _ _, .Tuple ts _ _ => Γ.top && Γ.sc.kind == .function && (match swOpt Γ.sc ts vs with
      | none => false
      | some none => true
      | some (some names) => (match tg, ts, x, vs with
        | .tup (.cons (.name i) (.cons (.name j) .nil)), [.Name a _, .Name b _], .tup (.cons _ (.cons _ .nil)), [_, _] =>
          decide (i ≠ j) && decide (names = [a, b]) && Γ.sc.names.lookup a == some .local && Γ.sc.names.lookup b == some .local
        | .tup (.cons (.name i) (.cons (.name j) (.cons (.name l) .nil))), [.Name a _, .Name b _, .Name c _], .tup (.cons _ (.cons _ (.cons _ .nil))), [_, _, _] =>
          decide (i ≠ j) && decide (i ≠ l) && decide (j ≠ l) && decide (names = [a, b, c]) && Γ.sc.names.lookup a == some .local && Γ.sc.names.lookup b == some .local && Γ.sc.names.lookup c == some .local
        | _, _, _, _ => false))
    | _, _ => true)
def chkRse (c : Nat) (Γ : Gm) (st : Stmt) : Bool := match st with
  | .Raise (some (.Call (.Name x _) [.Constant (.str _) _ _] [] _)) none _ => Γ.calm && decide (Γ.cls[c]? = some x) && Γ.rs.contains c && glb Γ.sc x && !dbg x
  | _ => false
/-- what a dict comprehension stores by itself -/
def swD (sc scope : Scope) (pos py : Pos) (y : Str) : Bool := sc.names.lookup y == some .local && py.line == pos.line && !(scope.names.any fun (n, k) => n == y && (k == .local || k == .cell))
def chkDcm (i : Nat) (tg : Tg) (src : Sr) (k v : EV.X) (own : List Nat) (Γ : Gm) (st : Stmt) : Bool := match st with
  | .Assign [.Name y py] (.DictComp ek ev [⟨etg, eiter, [], ia⟩] scope pos) _ => decide (ia = 0) && Γ.calm && Γ.top && blkC Γ.N Γ.sc scope (ownN Γ.N own) && chkSr src Γ etg eiter && chkTg (Γ.blk scope) tg etg && (tg.slots.all fun j => own.contains j) && chkX k (Γ.blk scope) ek && chkX v (Γ.blk scope) ev && decide (Γ.N[i]? = some y) && swD Γ.sc scope pos py y
  | _ => false
mutual
def chkS : S → Gm → Stmt → Bool
  | .asg tg x, Γ, .Assign [t] v _ => chkX x Γ v && chkTg Γ tg t && asgMode Γ tg x t v
  | .sto o i x, Γ, .Assign [.Subscript eo ei _] v _ => !isLC v && !isSC v && chkX x Γ v && chkX o Γ eo && chkX i Γ ei && !isSlice ei
  | .app o x, Γ, .Expr (.Call (.Attribute eo m apos) [e] [] cpos) _ => decide (m = ("append" : Str)) && plainBase eo && apos.endLine == cpos.line && chkX o Γ eo && chkX x Γ e && !isStar e
  | .ex x, Γ, .Expr e _ => chkX x Γ e && !isLC e && !isSC e
  | .ret x, Γ, .Return (some e) _ => chkX x Γ e
  | .retN, _, .Return none _ => true
  | .ite c a b, Γ, .If ec sa sb _ => chkX c Γ ec && chkSs a Γ sa && chkSs b Γ sb
  | .for tg src body, Γ, .For etg eiter sbody [] _ => Γ.calm && Γ.top && chkSr src Γ etg eiter && chkTg Γ tg etg && chkSs body Γ sbody
  | .whl c body, Γ, .While ec sbody [] _ => Γ.top && chkX c Γ ec && chkSs body Γ sbody
  | .rse c, Γ, st => chkRse c Γ st
  | .tryc body hs, Γ, .Try sbody shs [] [] _ => Γ.top && chkSs body Γ sbody && chkHs hs Γ shs && !shs.isEmpty
  | .dput o i x, Γ, .Assign [.Subscript eo ei _] v _ => !isLC v && !isSC v && chkX x Γ v && chkX o Γ eo && chkX i Γ ei
  | .dcm i tg src k v own, Γ, st => chkDcm i tg src k v own Γ st
  | .nev, _, _ => true
  | _, _, _ => false
def chkSs : Ss → Gm → List Stmt → Bool
  | .nil, _, [] => true
  | .cons (.frzv _) ss, Γ, sts => chkSs ss Γ sts
  | .cons s ss, Γ, t :: ts => chkS s Γ t && chkSs ss Γ ts
  | _, _, _ => false
def chkHs : Hs → Gm → List ExceptHandler → Bool
  | .nil, _, [] => true
  | .cons c body hs, Γ, .ExceptHandler (some (.Name x _)) none (b₀ :: suite) _ :: r => decide (Γ.cls[c]? = some x) && glb Γ.sc x && !dbg x && chkSs body Γ.suite (b₀ :: suite) && chkHs hs Γ r
  | _, _, _ => false
end

structure GoodS (g : G) (cf : Call) (sub : Nat → Nat → Bool) (Γ : Gm) (X : Cx) (W : WX) : Prop extends Good g cf Γ X W where
  cls : ∀ k x, Γ.cls[k]? = some x → X.mg x = some (.ref (g.ca k)) ∧ PySem.W.keepIn X.K (.ref (g.ca k)) = true
  raw : ∀ k, Γ.rs.contains k = true → PySem.W.excIn X.K (g.ca k) [.type "ValueError", .type "Exception", .type "BaseException", .type "object"] "ValueError.__new__" = true ∧ Raises X (.ref (g.ca k))
  exm : ∀ c k, k < Γ.cls.length → PySem.W.exmOne X.K (.ref (g.ca c)) (.ref (g.ca k)) = some (sub c k)

section
variable {g : G} {cf : Call} {sub : Nat → Nat → Bool} {fu : Nat} {Γ : Gm} {X : Cx} {W : WX} {e v t ea eb ec etg : Expr} {es : List Expr} {pos p : Pos} {a b c x y : EV.X} {xs : Xs} {tg : Tg}
theorem GoodS.tr (G : GoodS g cf sub Γ X W) {W' : WX} {pn : List (Addr × Obj)} {xe : Value → Shared → Prop} (tk : Takes (X.tr pn xe) W') (po : PassesOwn (model X.prog X.w) X.A X.env xe) : GoodS g cf sub Γ (X.tr pn xe) W' where
  N := G.N
  nd := G.nd
  sc := G.sc
  calm := G.calm
  room := G.room
  hu := G.hu
  tk := tk
  po := fun _ => po
  fk := G.fk
  fn := G.fn
  stk := G.stk
  bn := G.bn
  tab := G.tab
  tlv := G.tlv
  wrd := G.wrd
  lamk := G.lamk
  cst := G.cst
  gp := G.gp
  cls := G.cls
  raw := G.raw
  exm := G.exm
theorem GoodS.suite (G : GoodS g cf sub Γ X W) {a : Addr} {pn : List (Addr × Obj)} : GoodS g cf sub Γ.suite (X.suite a pn) W0 where
  N := G.N
  nd := G.nd
  sc := G.sc
  calm := fun h => by cases h
  room := fun h => by cases h
  hu := G.hu
  tk := fun u s' ⟨a, B, sI, pins, σ, H, cls, d, e, I, nb, up, sky, na, os, ag, w⟩ => w
  po := fun h => by cases h
  fk := fun h => by cases h
  fn := G.fn
  stk := fun h => by cases h
  bn := G.bn
  tab := G.tab
  tlv := G.tlv
  wrd := G.wrd
  lamk := fun h => by cases h
  cst := G.cst
  gp := G.gp
  cls := G.cls
  raw := G.raw
  exm := G.exm

/-! ### assignments -/
theorem swaps_no {line : Nat} {env : Env} (h1 : isSC v = false) (h2 : isLC v = false) : swapsWithSole [t] v line env = pure false := by
  cases v <;> first | rfl | (simp [isSC] at h1; done) | (simp [isLC] at h2)
theorem swaps_lc {line : Nat} {env : Env} (hk : env.scope.kind = .function) {eelt : Expr} {gs : List Comprehension} {scope : Scope} {p2 : Pos} : swapsWithSole [t] (.ListComp eelt gs scope p2) line env = pure (swB env.scope (.ListComp eelt gs scope p2) t) := by
  have hb : env.blockKind = .function := by unfold Env.blockKind; rw [hk]; rfl
  cases t <;> first | rfl | skip
  rename_i y py
  have hkd : env.kindOf y = env.scope.names.lookup y := rfl
  unfold swapsWithSole swapsWith swB
  simp only [hb, hkd]
  rfl
theorem sw_none {env : Env} (h : ∀ vs k p, v = .Tuple vs k p → ∀ ts k' p', t ≠ .Tuple ts k' p') (h2 : ∀ ts p', t ≠ .List ts p') : swappedStores [t] v env = pure none := by
  cases t <;> first | rfl | skip
  · rename_i es p; exact absurd rfl (h2 es p)
  · cases v <;> first | rfl | skip
    exact absurd rfl (h _ _ _ rfl _ _ _)
theorem sw_unf {env : Env} {ts vs : List Expr} {k k2 : Nat} {p p2 : Pos} : swappedStores [.Tuple ts k p] (.Tuple vs k2 p2) env =
    (if !(ts.length == 2 || ts.length == 3) || vs.length != ts.length || env.blockKind != .function then pure none
    else if vs.any isStar then pure none
    else if (ts.filterMap (locN env.scope ((ts.head?.map (·.pos.line)).getD 0))).length != ts.length || (ts.filterMap (locN env.scope ((ts.head?.map (·.pos.line)).getD 0))).eraseDups.length != (ts.filterMap (locN env.scope ((ts.head?.map (·.pos.line)).getD 0))).length then pure none
    else if vs.all (foldedForSure 8) then pure none
    else if vs.all (constantsAlone 8) then (do unsupported "assign.tuple-of-constant-expressions:order-of-the-stores"; pure (some (ts.filterMap (locN env.scope ((ts.head?.map (·.pos.line)).getD 0)))))
    else pure (some (ts.filterMap (locN env.scope ((ts.head?.map (·.pos.line)).getD 0))))) := by
  with_unfolding_all rfl
theorem sw_opt {env : Env} (hk : env.scope.kind = .function) {ts vs : List Expr} {k k2 : Nat} {p p2 : Pos} {o : Option (List Str)} (h : swOpt env.scope ts vs = some o) : swappedStores [.Tuple ts k p] (.Tuple vs k2 p2) env = pure o := by
  have hb : env.blockKind = .function := by unfold Env.blockKind; rw [hk]; rfl
  have ebk : (env.blockKind != .function) = false := by rw [hb]; rfl
  rw [sw_unf, ebk, Bool.or_false]
  unfold swOpt at h
  split at h
  · rename_i c; rw [if_pos c]; cases h; rfl
  · rename_i c
    rw [if_neg c]
    split at h
    · rename_i c; rw [if_pos c]; cases h; rfl
    · rename_i c
      rw [if_neg c]
      split at h
      · rename_i c; rw [if_pos c]; cases h; rfl
      · rename_i c
        rw [if_neg c]
        split at h
        · rename_i c; rw [if_pos c]; cases h; rfl
        · rename_i c
          rw [if_neg c]
          split at h
          · cases h
          · rename_i c; rw [if_neg c]; cases h; rfl
theorem asg_rd {K : PySem.W.Frag} {D : Ends} {σ : L2.St} {H : Hp} (h : rdS K g (fun e st => (evX cf x e st).thn e fun d st1 => evAsg tg d e st1) W D σ H) :
    rdX K g (evX cf x) W σ H fun v H1 => rdG K g tg v σ H1 D.nx := by
  obtain ⟨l, e, st, μ, R, S, P⟩ := h
  refine ⟨l, e, st, μ, R, S, P.thn R S fun d st1 μ1 H1 v1 E1 R1 r1 P1 => ?_⟩
  unfold evAsg at P1
  split at P1
  · rename_i e' he'
    exact ⟨l, μ1, st1, e, d, e', R1, S.ext R E1, r1, he', fun σ' S' _ _ => P1 _ _ _ (Ext.refl R1.len) R1 S'⟩
  · exact P1.elim
theorem s_asg (G : Good g cf Γ X W) (hx : PE X v (rdX X.K g (evX cf x) W)) (ht : chkTg Γ tg t = true) (hs : swapsWithSole [t] v pos.line X.env = pure false) (hw : swappedStores [t] v X.env = pure none) :
    PS X (.Assign [t] v pos) (rdS X.K g (fun e st => (evX cf x e st).thn e fun d st1 => evAsg tg d e st1) W) :=
  (ps_asg hx (tgOk G ht) hs hw (by rw [each_one ht]; rfl)).imp fun D σ H h => asg_rd h
/-- one name by itself -/
theorem name_rd {K : PySem.W.Frag} {D : Ends} {σ : L2.St} {H : Hp} {i : Nat} (h : rdS K g (fun e st => (evX cf x e st).thn e fun d st1 => evAsg (.name i) d e st1) W D σ H) :
    tAsg (rdX K g (evX cf x) W) (gName i) D σ H := by
  obtain ⟨l, e, st, μ, R, S, P⟩ := h
  refine ⟨l, e, st, μ, R, S, P.thn R S fun d st1 μ1 H1 v1 E1 R1 r1 P1 => ?_⟩
  unfold evAsg at P1
  rw [evTg] at P1
  split at P1
  · rename_i e' he'
    split at he'
    · cases he'
      exact P1 _ _ _ (Ext.refl R1.len) R1 ((S.ext R E1).set r1 i)
    · cases he'
  · exact P1.elim
theorem set_len {σ : Sl} {i : Nat} {o : Option EV.D} : (σ.set i o).length = σ.length := List.length_set
theorem par_rd {K : PySem.W.Frag} {D : Ends} {σ : L2.St} {H : Hp} {i j : Nat} (h : rdS K g (fun e st => (evX cf (.tup (.cons a (.cons b .nil))) e st).thn e fun d st1 => evAsg (.tup (.cons (.name i) (.cons (.name j) .nil))) d e st1) W D σ H) :
    tPar i j (rdXs K g (evXs cf (.cons a (.cons b .nil))) W) D σ H := by
  obtain ⟨l, e, st, μ, R, S, P⟩ := h
  have P : PostS K (g.h l) μ st H ((evX cf (.tup (.cons a (.cons b .nil))) e st).thn e fun d st1 => evAsg (.tup (.cons (.name i) (.cons (.name j) .nil))) d e st1) D W := P
  have P' : PostS K (g.h l) μ st H ((evXs cf (.cons a (.cons b .nil)) e st).thn e fun ds st1 => evAsg (.tup (.cons (.name i) (.cons (.name j) .nil))) (.tup ds) e st1) D W := by
    rw [evX] at P
    generalize evXs cf (.cons a (.cons b .nil)) e st = r at P ⊢
    cases r <;> exact P
  refine ⟨l, e, st, μ, R, S, P'.thn R S fun ds st1 μ1 H1 vs E1 R1 rs P1 => ?_⟩
  unfold evAsg at P1
  rw [evTg] at P1
  match ds, rs with
  | [d1, d2], .cons r1 (.cons r2 .nil) =>
    simp only [evTgs, evTg] at P1
    refine ⟨_, _, rfl, ?_⟩
    split at P1
    · rename_i e' he'
      split at he'
      · simp only [Option.bind_some] at he'
        split at he'
        · simp only [Option.bind_some] at he'
          cases he'
          exact P1 _ _ _ (Ext.refl R1.len) R1 (((S.ext R E1).set r1 i).set r2 j)
        · cases he'
      · cases he'
    · exact P1.elim
  | [], _ => simp [evTgs] at P1; exact P1.elim
  | [_], _ =>
    simp only [evTgs, evTg] at P1
    split at P1
    · rename_i e' he'
      split at he' <;> simp at he'
    · exact P1.elim
  | _ :: _ :: _ :: _, _ =>
    simp only [evTgs, evTg] at P1
    split at P1
    · rename_i e' he'
      split at he' <;> simp at he'
    · exact P1.elim
theorem par3_rd {K : PySem.W.Frag} {D : Ends} {σ : L2.St} {H : Hp} {i j k : Nat} (h : rdS K g (fun e st => (evX cf (.tup (.cons a (.cons b (.cons c .nil)))) e st).thn e fun d st1 => evAsg (.tup (.cons (.name i) (.cons (.name j) (.cons (.name k) .nil)))) d e st1) W D σ H) :
    tPar3 i j k (rdXs K g (evXs cf (.cons a (.cons b (.cons c .nil)))) W) D σ H := by
  obtain ⟨l, e, st, μ, R, S, P⟩ := h
  have P : PostS K (g.h l) μ st H ((evX cf (.tup (.cons a (.cons b (.cons c .nil)))) e st).thn e fun d st1 => evAsg (.tup (.cons (.name i) (.cons (.name j) (.cons (.name k) .nil)))) d e st1) D W := P
  have P' : PostS K (g.h l) μ st H ((evXs cf (.cons a (.cons b (.cons c .nil))) e st).thn e fun ds st1 => evAsg (.tup (.cons (.name i) (.cons (.name j) (.cons (.name k) .nil)))) (.tup ds) e st1) D W := by
    rw [evX] at P
    generalize evXs cf (.cons a (.cons b (.cons c .nil))) e st = r at P ⊢
    cases r <;> exact P
  refine ⟨l, e, st, μ, R, S, P'.thn R S fun ds st1 μ1 H1 vs E1 R1 rs P1 => ?_⟩
  unfold evAsg at P1
  rw [evTg] at P1
  match ds, rs with
  | [d1, d2, d3], .cons r1 (.cons r2 (.cons r3 .nil)) =>
    simp only [evTgs, evTg] at P1
    refine ⟨_, _, _, rfl, ?_⟩
    split at P1
    · rename_i e' he'
      split at he'
      · simp only [Option.bind_some] at he'
        split at he'
        · simp only [Option.bind_some] at he'
          split at he'
          · simp only [Option.bind_some] at he'
            cases he'
            exact P1 _ _ _ (Ext.refl R1.len) R1 ((((S.ext R E1).set r1 i).set r2 j).set r3 k)
          · cases he'
        · cases he'
      · cases he'
    · exact P1.elim
  | [], _ => simp [evTgs] at P1; exact P1.elim
  | [_], _ =>
    simp only [evTgs, evTg] at P1
    split at P1
    · rename_i e' he'
      split at he' <;> simp at he'
    · exact P1.elim
  | [_, _], _ =>
    simp only [evTgs, evTg] at P1
    split at P1
    · rename_i e' he'
      split at he'
      · simp only [Option.bind_some] at he'
        split at he' <;> simp at he'
      · simp at he'
    · exact P1.elim
  | _ :: _ :: _ :: _ :: _, _ =>
    simp only [evTgs, evTg] at P1
    split at P1
    · rename_i e' he'
      split at he'
      · simp only [Option.bind_some] at he'
        split at he'
        · simp only [Option.bind_some] at he'
          split at he' <;> simp at he'
        · simp at he'
      · simp at he'
    · exact P1.elim

/-! ### small statements -/
theorem ixN_of {n : Nat} {i : Int} {j : Nat} (h : ixOf n i = some j) : ixN n i = some j := h
theorem s_sto {o i : EV.X} {eo ei : Expr} (h1 : isSC v = false) (h2 : isLC v = false) (h3 : (!isSlice ei) = true) (hx : PE X v (rdX X.K g (evX cf x) W)) (ho : PE X eo (rdX X.K g (evX cf o) W)) (hi : PE X ei (rdX X.K g (evX cf i) W)) :
    PS X (.Assign [.Subscript eo ei p] v pos) (rdS X.K g (fun e st => (evX cf x e st).thn e fun d st1 => (evX cf o e st1).thn e fun y st2 => (evX cf i e st2).thn e fun z st3 => evSto y z d e st3) W) := by
  refine (ps_asg hx (pg_sub ho hi set_list (by intro _; cases ei <;> first | rfl | (simp [isSlice] at h3))) (swaps_no h1 h2) (by cases v <;> rfl) (by rfl)).imp fun D σ H ⟨l, e, st, μ, R, S, P⟩ => ?_
  refine ⟨l, e, st, μ, R, S, P.thn R S fun d st1 μ1 H1 v1 E1 R1 r1 P1 => ?_⟩
  have S1 := S.ext R E1
  refine ⟨l, e, st1, μ1, R1, S1, P1.thn R1 S1 fun y st2 μ2 H2 v2 E2 R2 r2 P2 => ?_⟩
  have S2 := S1.ext R1 E2
  refine ⟨l, e, st2, μ2, R2, S2, P2.thn R2 S2 fun z st3 μ3 H3 v3 E3 R3 r3 P3 => ?_⟩
  have S3 := S2.ext R2 E3
  unfold evSto at P3
  split at P3
  · rename_i q k
    split at P3
    · rename_i ds hds
      split at P3
      · rename_i j hj
        obtain ⟨ad, xs, rfl, m1, h4, hz, rs⟩ := Rep.locL R3 (r2.ext R2 E3) hds
        cases r3
        refine ⟨ad, xs, k, j, rfl, rfl, h4, by rw [← rs.length]; exact ixN_of hj, ?_⟩
        have rd := (r1.ext R1 E2).ext R2 E3
        obtain ⟨E4, R4⟩ := put_loc R3 (ds := ds.set j d) (xs := xs.set j v1) (u := .lst (xs.set j v1)) m1 hds trivial (by rw [List.length_set]; exact hz) (rs.set rd j)
        exact P3 _ _ _ E4 R4 (S3.ext R3 E4)
      · exact P3.elim
    · exact P3.elim
  · exact P3.elim
theorem s_dput {o i : EV.X} {eo ei : Expr} (G : Good g cf Γ X W) (h1 : isSC v = false) (h2 : isLC v = false) (hx : PE X v (rdX X.K g (evX cf x) W)) (ho : PE X eo (rdX X.K g (evX cf o) W)) (hi : PE X ei (rdX X.K g (evX cf i) W)) :
    PS X (.Assign [.Subscript eo ei p] v pos) (rdS X.K g (fun e st => (evX cf x e st).thn e fun d st1 => (evX cf o e st1).thn e fun y st2 => (evX cf i e st2).thn e fun z st3 => evDput y z d e st3) W) := by
  refine (ps_xput (by have := G.hu; omega) ho hi hx (by cases v <;> first | rfl | (simp [isSC] at h1; done) | (simp [isLC] at h2))).imp fun D σ H ⟨l, e, st, μ, R, S, P⟩ => ?_
  refine ⟨l, e, st, μ, R, S, P.thn R S fun d st1 μ1 H1 v1 E1 R1 r1 P1 => ?_⟩
  have S1 := S.ext R E1
  refine ⟨l, e, st1, μ1, R1, S1, P1.thn R1 S1 fun y st2 μ2 H2 v2 E2 R2 r2 P2 => ?_⟩
  have S2 := S1.ext R1 E2
  refine ⟨l, e, st2, μ2, R2, S2, P2.thn R2 S2 fun z st3 μ3 H3 v3 E3 R3 r3 P3 => ?_⟩
  have S3 := S2.ext R2 E3
  unfold evDput at P3
  split at P3
  · rename_i q
    split at P3
    · rename_i t kvs hds
      split at P3
      · rename_i hh
        simp only [Bool.and_eq_true, decide_eq_true_eq] at hh
        obtain ⟨ok, hlt⟩ := hh
        have ry := r2.ext R2 E3
        have rd := (r1.ext R1 E2).ext R2 E3
        have hln := dPut_len kvs z d
        obtain ⟨ad, hm, rfl⟩ : ∃ ad, μ3[q]? = some ad ∧ v2 = .ref ad := by cases ry with | loc hm => exact ⟨_, hm, rfl⟩
        · have ob := R3.obj _ _ _ hds hm
          cases t with
          | false =>
            obtain ⟨ns, xs, q1, q2, q3⟩ := ob
            cases z <;> simp [keyOk] at ok
            cases r3
            rename_i j
            obtain ⟨ns', xs', f1, f2⟩ := entK_put (i := j) rd q3
            obtain ⟨E4, R4⟩ := put_obj R3 (o' := .dct false (dPut kvs (.int j) d)) (u := dKof ns' xs') hm hds trivial (fun E => ⟨ns', xs', upd_same, by omega, f1.imp fun _ _ r => r.ext R3 E⟩)
            refine ⟨_, _, rfl, .inl (DPut.k (k := .inl j) q1 (by rw [(entK_len q3).1, sizeLine_eq]; unfold most at hlt; omega)), ?_⟩
            have e4 : (.dK (putK (zK ns xs) (.inl j) v1) : HO) = dKof ns' xs' := by rw [← f2]; rfl
            rw [e4]
            exact P3 _ _ _ E4 R4 (S3.ext R3 E4)
          | true =>
            obtain ⟨ents, q1, q2, q3⟩ := ob
            obtain ⟨b, rfl⟩ := key_ref r3 ok
            obtain ⟨E4, R4⟩ := put_obj R3 (o' := .dct true (dPut kvs z d)) (u := .ext (dctF (g.h l).P (g.h l).w ad (putE ents z.key b v1))) hm hds trivial (fun E => ⟨_, upd_same, by omega, (entT_put ok r3 rd q3).imp fun _ _ r => r.ext R3 E⟩)
            refine ⟨_, _, rfl, .inr ⟨ents, z.key, b, ents_at G.gp q1 q3, rfl, key_at r3 ok, by rw [entT_len q3, sizeLine_eq]; unfold most at hlt; omega, rfl⟩, ?_⟩
            have e4 : (.ext (dctF X.prog X.w ad (putE ents z.key b v1)) : HO) = .ext (dctF (g.h l).P (g.h l).w ad (putE ents z.key b v1)) := by
              show _ = HO.ext (dctF g.P g.w _ _)
              rw [G.gp.1, G.gp.2]
            rw [e4]
            exact P3 _ _ _ E4 R4 (S3.ext R3 E4)
      · exact P3.elim
    · exact P3.elim
  · exact P3.elim
theorem s_app {o : EV.X} {eo : Expr} {apos cpos : Pos} (hb : plainBase eo = true) (hl : (apos.endLine == cpos.line) = true) (hs : (!isStar e) = true) (ho : PE X eo (rdX X.K g (evX cf o) W)) (hx : PE X e (rdX X.K g (evX cf x) W)) :
    PS X (.Expr (.Call (.Attribute eo "append" apos) [e] [] cpos) pos) (rdS X.K g (fun e st => (evX cf o e st).thn e fun y st1 => if isLoc st1 y then (evX cf x e st1).thn e fun d st2 => evApp y d e st2 else .fail) W) := by
  refine (ps_expr (pe_bm PySem.F.plainAttrs_list PySem.F.slot_list_append PySem.F.type_list_append mt_append ho (pa_cons hx pa_nil (star_one hs)) (by cases eo <;> first | rfl | (simp [plainBase] at hb)) (by rw [star_one hs]; rfl) hl (star_one hs) rfl) rfl).imp fun D σ H ⟨l, e, st, μ, R, S, P⟩ => ?_
  refine ⟨l, e, st, μ, R, S, P.thn R S fun y st1 μ1 H1 v1 E1 R1 r1 P1 => ?_⟩
  have S1 := S.ext R E1
  split at P1
  · rename_i hy
    unfold isLoc at hy
    split at hy
    · rename_i q
      split at hy
      · rename_i ds hds
        obtain ⟨ad, xs, rfl, m1, h4, hz, rs⟩ := Rep.locL R1 r1 hds
        refine ⟨.inl ⟨rfl, xs, SqL.of h4⟩, l, e, st1, μ1, R1, S1, P1.thn R1 S1 fun d st2 μ2 H2 v2 E2 R2 r2 P2 => ?_⟩
        have S2 := S1.ext R1 E2
        unfold evApp at P2
        simp only [] at P2
        split at P2
        · rename_i ds2 hds2
          split at P2
          · rename_i hlt
            simp only [decide_eq_true_eq] at hlt
            obtain ⟨ad2, xs2, e2, m2, h5, hz2, rs2⟩ := Rep.locL R2 (r1.ext R1 E2) hds2
            cases e2
            refine ⟨ad, xs2, v2, rfl, rfl, h5, ?_, ?_⟩
            · rw [← rs2.length, sizeLine_eq]; unfold most at hlt; omega
            · obtain ⟨E4, R4⟩ := put_loc R2 (ds := ds2 ++ [d]) (xs := xs2 ++ [v2]) (u := .lst (xs2 ++ [v2])) m2 hds2 trivial (by rw [List.length_append, List.length_singleton]; omega) (rs2.append (.one r2))
              exact P2 _ _ _ E4 R4 (S2.ext R2 E4)
          · exact P2.elim
        · exact P2.elim
      · cases hy
    · cases hy
  · exact P1.elim
theorem s_ex (h1 : (!isLC e) = true) (h2 : (!isSC e) = true) (hx : PE X e (rdX X.K g (evX cf x) W)) : PS X (.Expr e pos) (rdS X.K g (fun e st => (evX cf x e st).thn e fun _ st1 => .nx e st1) W) := by
  refine (ps_expr hx (by cases e <;> first | rfl | (simp [isLC] at h1; done) | (simp [isSC] at h2))).imp fun D σ H ⟨l, e, st, μ, R, S, P⟩ => ?_
  exact ⟨l, e, st, μ, R, S, P.thn R S fun y st1 μ1 H1 v1 E1 R1 r1 P1 => P1 _ _ _ (Ext.refl R1.len) R1 (S.ext R E1)⟩
theorem s_ret (hx : PE X e (rdX X.K g (evX cf x) W)) : PS X (.Return (some e) pos) (rdS X.K g (fun e st => (evX cf x e st).thn e fun d st1 => .rt d st1) W) := by
  refine (ps_ret hx).imp fun D σ H ⟨l, e, st, μ, R, S, P⟩ => ?_
  exact ⟨l, e, st, μ, R, S, P.thn R S fun y st1 μ1 H1 v1 E1 R1 r1 P1 => P1 _ _ _ (Ext.refl R1.len) R1 r1⟩
theorem s_retN : PS X (.Return none pos) (rdS X.K g (fun _ st => .rt .non st) W) := by
  refine ps_retN.imp fun D σ H ⟨l, e, st, μ, R, S, P⟩ => ?_
  exact P _ _ _ (Ext.refl R.len) R .non
theorem s_ite {c : EV.X} {sa sb : List Stmt} {ma mb : Sl → Store → RS} (hc : PT X ec (rdB X.K g (asB (evX cf c)) W)) (ha : PSs X sa (rdS X.K g ma W)) (hb : PSs X sb (rdS X.K g mb W)) :
    PS X (.If ec sa sb pos) (rdS X.K g (fun e st => (evX cf c e st).thn e fun d st1 => match d with | .bl true => ma e st1 | .bl false => mb e st1 | _ => .fail) W) := by
  refine (ps_if hc ha hb).imp fun D σ H ⟨l, e, st, μ, R, S, P⟩ => ⟨l, e, st, μ, R, S, ?_⟩
  simp only [] at P
  unfold asB
  generalize evX cf c e st = r at P ⊢
  cases r with
  | ok d st1 =>
    cases d with
    | bl k =>
      intro μ' H' k' E' R' r'
      cases r'
      cases k with
      | true => exact ⟨l, e, st1, μ', R', S.ext R E', PostS.rebase P E'⟩
      | false => exact ⟨l, e, st1, μ', R', S.ext R E', PostS.rebase P E'⟩
    | _ => exact P.elim
  | exc c fs st1 => exact fun μ' H' cls dd E' R' x' => P μ' H' σ cls dd E' R' (S.ext R E') x'
  | fail => exact P.elim

/-! ### loops -/
theorem s_for {src : Sr} {eiter : Expr} {sbody : List Stmt} {mb : Sl → Store → RS} (G : Good g cf Γ X W) (hc : Γ.calm = true) (htp : Γ.top = true) (ht : chkTg Γ tg etg = true) (hi : PI X etg eiter (rdI X.K g (evSr cf src) W)) (hs : (!isSet eiter) = true) (hb : PSs X sbody (rdS X.K g mb W)) :
    PS X (.For etg eiter sbody [] pos) (rdS X.K g (fun e st => (evSr cf src e st).thn e fun items st1 => forLoop (fun d e1 s => match evTg tg d e1 with | some e2 => mb e2 s | none => .fail) items e st1) W) := by
  refine (ps_for (G.po htp) (G.calm hc) hi (tgOk G ht) hb (set_pure hs)).imp fun D σ H ⟨l, e, st, μ, R, S, P⟩ => ?_
  refine ⟨l, e, st, μ, R, S, P.thn R S fun items st1 μ1 H1 J E1 R1 ⟨hmost, Gq, Y, wk, hG, hY⟩ P1 => ?_⟩
  have hhid : ∀ a ∈ l, a ∈ (g.h l).hid ∨ H1 a = none := fun a ha => .inl ha
  refine for_it wk (fun i σ' H' => ∃ μ' st' e', Ext μ1 st1 H1 μ' st' H' ∧ Rel X.K (g.h l) μ' st' H' ∧ SlRep X.K (g.h l) μ' st' H' e' σ' ∧
      PostS X.K (g.h l) μ1 st1 H1 (forLoop (fun d e1 s => match evTg tg d e1 with | some e2 => mb e2 s | none => .fail) (items.drop i) e' st') D W) ?_ ?_ ?_ ?_
  · exact ⟨μ1, st1, e, Ext.refl R1.len, R1, S.ext R E1, P1⟩
  · rintro i σ' H' hi ⟨μ', st', e', E, _⟩
    exact hG _ _ _ E
  · rintro i x σ' H2 H3 hi ⟨μ', st', e', E, R2, S2, PP⟩ y
    have hd : items[i]? = some items[i] := List.getElem?_eq_getElem hi
    obtain ⟨E3, R3, r3⟩ := hY i x H2 H3 items[i] l μ' st' hhid E R2 hd y
    have EE := E.trans E3
    rw [List.drop_eq_getElem_cons hi, forLoop] at PP
    cases hev : evTg tg items[i] e' with
    | none => simp only [hev] at PP; exact PP.elim
    | some e2 =>
      simp only [hev] at PP
      refine ⟨l, μ', st', e', items[i], e2, R3, S2.ext R2 E3, r3, hev, fun σ2 Sσ hσl hσ => ⟨l, e2, st', μ', R3, Sσ, ?_⟩⟩
      generalize mb e2 st' = r at PP ⊢
      cases r with
      | nx e3 st3 => exact fun μ4 H4 σ4 E4 R4 S4 => ⟨μ4, st3, e3, EE.trans E4, R4, S4, PP⟩
      | ct e3 st3 => exact fun μ4 H4 σ4 E4 R4 S4 => ⟨μ4, st3, e3, EE.trans E4, R4, S4, PP⟩
      | bk e3 st3 => exact fun μ4 H4 σ4 E4 R4 S4 => PP μ4 H4 σ4 (EE.trans E4) R4 S4
      | rt d st3 => exact fun μ4 H4 v4 E4 R4 r4 => PP μ4 H4 v4 (EE.trans E4) R4 r4
      | exc c fs e3 st3 => exact fun μ4 H4 σ4 cls dd E4 R4 S4 x4 => PP μ4 H4 σ4 cls dd (EE.trans E4) R4 S4 x4
      | fail => exact PP.elim
  · rintro σ' H' ⟨μ', st', e', E, R2, S2, PP⟩
    rw [List.drop_eq_nil_of_le (Nat.le_refl _), forLoop] at PP
    exact PP μ' H' σ' E R2 S2
theorem s_whl {c : EV.X} {sbody : List Stmt} {mb : Sl → Store → RS} (G : Good g cf Γ X W) (htp : Γ.top = true) (hc : PT X ec (rdB X.K g (asB (evX cf c)) W)) (hb : PSs X sbody (rdS X.K g mb W)) :
    PS X (.While ec sbody [] pos) (rdS X.K g (fun e st => whlLoop (evX cf c) mb fu e st) W) := by
  refine (ps_while (G.po htp) hc hb).imp fun D σ H ⟨l, e, st, μ, R, S, P⟩ => ?_
  refine ⟨fun m σ' H' => ∃ μ' st' e', Ext μ st H μ' st' H' ∧ Rel X.K (g.h l) μ' st' H' ∧ SlRep X.K (g.h l) μ' st' H' e' σ' ∧ PostS X.K (g.h l) μ st H (whlLoop (evX cf c) mb m e' st') D W, ⟨fu, μ, st, e, Ext.refl R.len, R, S, P⟩, ?_⟩
  rintro m σ' H' ⟨μ', st', e', E, R2, S2, PP⟩
  cases m with
  | zero => rw [whlLoop] at PP; exact PP.elim
  | succ m =>
    rw [whlLoop] at PP
    refine ⟨l, e', st', μ', R2, S2, ?_⟩
    unfold asB
    generalize evX cf c e' st' = r at PP ⊢
    cases r with
    | ok d st1 =>
      cases d with
      | bl k =>
        intro μ3 H3 k' E3 R3 r3
        cases r3
        have EE := E.trans E3
        cases k with
        | true =>
          rw [if_pos rfl]
          refine ⟨fun σ'' H'' => ∃ μ' st' e', Ext μ st H μ' st' H'' ∧ Rel X.K (g.h l) μ' st' H'' ∧ SlRep X.K (g.h l) μ' st' H'' e' σ'' ∧ PostS X.K (g.h l) μ st H (whlLoop (evX cf c) mb m e' st') D W, fun σ'' H'' h => ⟨m, Nat.lt_succ_self m, h⟩, l, e', st1, μ3, R3, S2.ext R2 E3, ?_⟩
          simp only [] at PP
          generalize mb e' st1 = r at PP ⊢
          cases r with
          | nx e3 st3 => exact fun μ4 H4 σ4 E4 R4 S4 => ⟨μ4, st3, e3, EE.trans E4, R4, S4, PP⟩
          | ct e3 st3 => exact fun μ4 H4 σ4 E4 R4 S4 => ⟨μ4, st3, e3, EE.trans E4, R4, S4, PP⟩
          | bk e3 st3 => exact fun μ4 H4 σ4 E4 R4 S4 => PP μ4 H4 σ4 (EE.trans E4) R4 S4
          | rt d st3 => exact fun μ4 H4 v4 E4 R4 r4 => PP μ4 H4 v4 (EE.trans E4) R4 r4
          | exc c fs e3 st3 => exact fun μ4 H4 σ4 cls dd E4 R4 S4 x4 => PP μ4 H4 σ4 cls dd (EE.trans E4) R4 S4 x4
          | fail => exact PP.elim
        | false =>
          rw [if_neg Bool.false_ne_true]
          exact PP μ3 H3 σ' EE R3 (S2.ext R2 E3)
      | _ => exact PP.elim
    | exc c fs st1 => exact fun μ3 H3 cls dd E3 R3 x3 => PP μ3 H3 σ' cls dd (E.trans E3) R3 (S2.ext R2 E3) x3
    | fail => exact PP.elim
theorem s_rse {k : Nat} {n : Str} {m : Str} {j : Nat} {p2 p3 : Pos} (G : GoodS g cf sub Γ X W) (hc : Γ.calm = true) (h1 : Γ.cls[k]? = some n) (h2 : Γ.rs.contains k = true) (h3 : glb Γ.sc n = true) (h4 : (!dbg n) = true) :
    PS X (.Raise (some (.Call (.Name n p) [.Constant (.str m) j p2] [] p3)) none pos) (rdS X.K g (fun e st => .exc k [] e st) W) := by
  obtain ⟨m1, k1⟩ := G.cls k n h1
  obtain ⟨x1, r1⟩ := G.raw k h2
  refine (ps_raise (G.calm hc) G.tk (pmk_own PySem.F.excBase_ValueError x1 m1 k1 r1 (G.gl h3) (dbg_ne h4))).imp fun D σ H ⟨l, e, st, μ, R, S, P⟩ => ?_
  exact P _ _ _ _ _ (Ext.refl R.len) R S ⟨rfl, rfl⟩
/-! ### a dict comprehension -/
theorem swaps_dc {env : Env} (hk : env.scope.kind = .function) {kx vx : Expr} {gs : List Comprehension} {scope : Scope} {p2 py : Pos} {y : Str} {line : Nat} : swapsWith (.DictComp kx vx gs scope p2) (some (.Name y py)) line env = pure (swD env.scope scope p2 py y) := by
  have hb : env.blockKind = .function := by unfold Env.blockKind; rw [hk]; rfl
  have hkd : env.kindOf y = env.scope.names.lookup y := rfl
  unfold swapsWith swD
  simp only [hb, hkd]
  rfl
theorem dset_put {g : G} {l μ : List Addr} {st : Store} {H : Hp} {q : Nat} {L : Addr} {x y : EV.D} {v w : V} {st' : Store} (gp : g.P = X.prog ∧ g.w = X.w) (R : Rel X.K (g.h l) μ st H) (hm : μ[q]? = some L) (rx : Rep X.K (g.h l) μ st H x v) (ry : Rep X.K (g.h l) μ st H y w) (e : evDset q x y st = .ok () st') :
    ∃ H', (∀ X', Like X X' → NPut X' H L v w H') ∧ Ext μ st H μ st' H' ∧ Rel X.K (g.h l) μ st' H' := by
  unfold evDset at e
  split at e
  · rename_i kvs hds
    split at e
    · rename_i hh
      simp only [Bool.and_eq_true, decide_eq_true_eq] at hh
      obtain ⟨ok, hlt⟩ := hh
      cases e
      have hln := dPut_len kvs x y
      obtain ⟨ents, q1, q2, q3⟩ := R.obj _ _ _ hds hm
      obtain ⟨b, rfl⟩ := key_ref rx ok
      obtain ⟨E4, R4⟩ := put_obj R (o' := .dct true (dPut kvs x y)) (u := .ext (dctF (g.h l).P (g.h l).w L (putE ents x.key b w))) hm hds trivial (fun E => ⟨_, upd_same, by omega, (entT_put ok rx ry q3).imp fun _ _ r => r.ext R E⟩)
      refine ⟨_, fun X' ⟨hK, hP, hw⟩ => ?_, E4, R4⟩
      have gp' : g.P = X'.prog ∧ g.w = X'.w := ⟨gp.1.trans hP.symm, gp.2.trans hw.symm⟩
      refine ⟨ents, x.key, b, ents_at gp' q1 (hK ▸ q3), rfl, key_at (hK ▸ rx) ok, by rw [entT_len q3, sizeLine_eq]; unfold most at hlt; omega, ?_⟩
      show upd H L (HO.ext (dctF g.P g.w L _)) = _
      rw [gp'.1, gp'.2]
    · cases e
  · cases e
theorem dcm_rd {tg : Tg} {src : Sr} {k v : EV.X} {own : List Nat} {i : Nat} (gp : g.P = X.prog ∧ g.w = X.w) (hsub : (tg.slots.all fun j => own.contains j) = true) {D : Ends} {σ : L2.St} {H : Hp} (h : rdS X.K g (fun e st => (evSr cf src e st).thn e fun items st1 =>
      (dcLoop (fun d s => match evTg tg d (wipeE e own) with
        | none => .fail
        | some σ1 => (evX cf k σ1 s).bind fun x s1 => (evX cf v σ1 s1).bind fun y s2 => evDset st1.length x y s2) items (st1 ++ [.dct true []])).thn e fun _ st2 => evAsg (.name i) (.loc st1.length) e st2) W D σ H) :
    tAsg (tDn X (rdI X.K g (evSr cf src) W) (rdG X.K g tg) (rdX X.K g (evX cf k) W0) (rdX X.K g (evX cf v) W0) own) (gName i) D σ H := by
  obtain ⟨l, e, st, μ, R, S, P⟩ := h
  refine ⟨l, e, st, μ, R, S, P.thn R S fun items st1 μ1 H1 J E1 R1 ⟨hmost, Gq, Y, wk, hG, hY⟩ P1 L hL => ?_⟩
  have S1 := S.ext R E1
  have hhid : ∀ a ∈ l, a ∈ (g.h l).hid ∨ H1 a = none := fun a ha => .inl ha
  obtain ⟨E0, R0, r0⟩ := new_obj (o := .dct true []) (u := nwD X L) R1 hL fun _ => ⟨[], by
      show upd H1 L _ L = some (.ext (dctF g.P g.w L []))
      rw [gp.1, gp.2]; exact upd_same, Nat.zero_le _, .nil⟩
  generalize hf : (fun (d : EV.D) (s : Store) => match evTg tg d (wipeE e own) with
        | none => (EV.R.fail : EV.R Unit)
        | some σ1 => (evX cf k σ1 s).bind fun x s1 => (evX cf v σ1 s1).bind fun y s2 => evDset st1.length x y s2) = f at P1
  refine dn_it wk (fun j H' => ∃ μ' st', Ext μ1 st1 H1 μ' st' H' ∧ Rel X.K (g.h l) μ' st' H' ∧ Rep X.K (g.h l) μ' st' H' (.loc st1.length) (.ref L) ∧
      PostS X.K (g.h l) μ1 st1 H1 ((dcLoop f (items.drop j) st').thn e fun _ st2 => evAsg (.name i) (.loc st1.length) e st2) D W) ?_ ?_ ?_ ?_
  · exact ⟨_, _, E0, R0, r0, P1⟩
  · rintro j H' hj ⟨μ', st', E, _⟩
    exact hG _ _ _ E
  · rintro j x H2 H3 hj ⟨μ', st', E, R2, r2, PP⟩ y
    have hd : items[j]? = some items[j] := List.getElem?_eq_getElem hj
    obtain ⟨E3, R3, r3⟩ := hY j x H2 H3 items[j] l μ' st' hhid E R2 hd y
    have EE := E.trans E3
    have S3 : SlRep X.K (g.h l) μ' st' H3 e σ := S1.ext R1 EE
    have S4 := S3.wipe own
    rw [List.drop_eq_getElem_cons hj, dcLoop] at PP
    have hfi : f items[j] st' = match evTg tg items[j] (wipeE e own) with
        | none => (EV.R.fail : EV.R Unit)
        | some σ1 => (evX cf k σ1 st').bind fun x s1 => (evX cf v σ1 s1).bind fun y s2 => evDset st1.length x y s2 := by rw [← hf]
    rw [hfi] at PP
    cases hev : evTg tg items[j] (wipeE e own) with
    | none => rw [hev] at PP; exact PP.elim
    | some e1 =>
      rw [hev] at PP
      simp only [] at PP
      refine ⟨l, μ', st', wipeE e own, items[j], e1, R3, S4, r3, hev, fun σ2 Sσ hσl hσ => ⟨?_, l, e1, st', μ', R3, Sσ, ?_⟩⟩
      · rw [← wipe_idem (σ := σ)]
        refine wipe_same hσl fun j hj => hσ j fun z => hj ?_
        have := List.all_eq_true.mp hsub j z
        simpa using this
      · cases hq : evX cf k e1 st' with
        | exc c fs s1 => rw [hq] at PP; exact PP.elim
        | fail => rw [hq] at PP; exact PP.elim
        | ok dk s1 =>
          rw [hq] at PP
          intro μ5 H5 v5 E5 R5 r5
          refine ⟨l, e1, s1, μ5, R5, Sσ.ext R3 E5, ?_⟩
          simp only [EV.R.bind_ok] at PP
          cases hq2 : evX cf v e1 s1 with
          | exc c fs s2 => rw [hq2] at PP; exact PP.elim
          | fail => rw [hq2] at PP; exact PP.elim
          | ok dv s2 =>
            rw [hq2] at PP
            intro μ6 H6 v6 E6 R6 r6
            simp only [EV.R.bind_ok] at PP
            have r2' := ((r2.ext R2 E3).ext R3 E5).ext R5 E6
            obtain ⟨L', hm, eL⟩ : ∃ L', μ6[st1.length]? = some L' ∧ V.ref L = V.ref L' := by
              cases r2' with
              | loc hm => exact ⟨_, hm, rfl⟩
            cases eL
            cases hq3 : evDset st1.length dk dv s2 with
            | exc c fs s3 => rw [hq3] at PP; exact PP.elim
            | fail => rw [hq3] at PP; exact PP.elim
            | ok u s3 =>
              rw [hq3] at PP
              cases u
              obtain ⟨H7, np, E7, R7⟩ := dset_put gp R6 hm (r5.ext R5 E6) r6 hq3
              exact ⟨H7, np, μ6, s3, ((EE.trans E5).trans E6).trans E7, R7, r2'.ext R6 E7, PP⟩
  · rintro H' ⟨μ', st', E, R2, r2, PP⟩
    rw [List.drop_eq_nil_of_le (Nat.le_refl _), dcLoop] at PP
    have PP : PostS X.K (g.h l) μ1 st1 H1 (evAsg (.name i) (.loc st1.length) e st') D W := PP
    unfold evAsg at PP
    rw [evTg] at PP
    have S2 := S1.ext R1 E
    split at PP
    · rename_i e' he'
      split at he'
      · cases he'
        exact PP _ _ _ E R2 (S2.set r2 i)
      · cases he'
    · exact PP.elim
end
end EV
/-! EvM: every statement that passes the check is sound; defs. -/
namespace EV
open PySem PySem.Spec PyProof.Rows L2

section
variable {g : G} {cf : Call} {sub : Nat → Nat → Bool} {fu : Nat}
theorem frz_rd {X : Cx} {W : WX} {sts : List Stmt} {i : Nat} {m : Sl → Store → RS} (h : PSs X sts (rdS X.K g m W)) : PSs X sts (rdS X.K g (fun e st => (evFrzv i e st).then m) W) := by
  refine ⟨fun pins s σ H D I ⟨l, e, st, μ, R, S, P⟩ => ?_⟩
  simp only [] at P
  unfold evFrzv at P
  split at P
  · rename_i q hq
    obtain ⟨v, hv, rv⟩ := S.2 i _ hq
    have same : ∀ a, v = .ref a → σ.set i (some (.ref a)) = σ := by
      rintro a rfl
      apply List.ext_getElem?
      intro j
      by_cases hj : i = j
      · subst hj
        rw [List.getElem?_set_self (List.getElem?_eq_some_iff.mp hv).1, hv]
      · rw [List.getElem?_set_ne hj]
    split at P
    · rename_i ds hds
      cases rv with
      | loc hm =>
        obtain ⟨E2, R2, r2⟩ := frz_loc R hm hds
        have S2 := (S.ext R E2).set r2 i
        rw [same _ rfl] at S2
        exact h.run pins s σ H D I ⟨l, _, _, μ, R2, S2, P.rebase E2⟩
    · rename_i kvs hds
      cases rv with
      | loc hm =>
        obtain ⟨ns, xs, q1, q2, q3⟩ := R.obj _ _ _ hds hm
        obtain ⟨od, I2⟩ := I.lock q1 trivial
        obtain ⟨E2, R2⟩ := put_obj R (o' := .gone) (u := .frz od (dKof ns xs)) hm hds trivial (fun _ => trivial)
        obtain ⟨k1, k2⟩ := entK_keys q3
        obtain ⟨_, l1, l2⟩ := entK_len q3
        have r2 : Rep X.K (g.h l) μ (st.set q .gone) (upd H _ (.frz od (dKof ns xs))) (.dct (kvs.map (·.1)) (kvs.map (·.2))) _ := .dct upd_same k1 (l1.trans l2.symm) (by rw [List.length_map]; exact q2) (k2.ext R E2)
        have S2 := (S.ext R E2).set r2 i
        rw [same _ rfl] at S2
        exact h.run pins s σ _ D I2 ⟨l, _, _, μ, R2, S2, P.rebase E2⟩
    · exact P.elim
  · exact P.elim
mutual
theorem sOk : ∀ (s : S) {Γ : Gm} {st : Stmt} {X : Cx} {W : WX}, GoodS g cf sub Γ X W → chkS s Γ st = true → PS X st (rdS X.K g (evS cf sub fu s) W)
  | .asg tg x, Γ, st, X, W, G, h => by
    have ee : evS cf sub fu (.asg tg x) = fun e st => (evX cf x e st).thn e fun d st1 => evAsg tg d e st1 := by funext e st; rw [evS]
    rw [ee]
    cases st <;> first | (simp [chkS] at h; done) | skip
    rename_i ts v pos
    match ts, h with
    | [t], h =>
      simp only [chkS, Bool.and_eq_true] at h
      obtain ⟨⟨h1, h2⟩, h3⟩ := h
      have hx := (xOk x G.toGood h1).1
      unfold asgMode at h3
      rw [Bool.and_eq_true] at h3
      obtain ⟨hsc, h3⟩ := h3
      have hsc : isSC v = false := by simpa using hsc
      cases v with
      | ListComp eelt gs scope p2 =>
        cases t with
        | Name y py =>
          simp only [Bool.and_eq_true] at h3
          obtain ⟨htp, h3⟩ := h3
          have hk := G.fk htp
          cases hsw : swB Γ.sc (.ListComp eelt gs scope p2) (.Name y py) with
          | false =>
            refine s_asg G.toGood hx h2 ?_ (sw_none (fun _ _ _ z => by cases z) (fun _ _ z => by cases z))
            rw [swaps_lc hk, G.sc, hsw]
          | true =>
            rw [hsw] at h3
            simp only [Bool.not_true, Bool.false_or] at h3
            split at h3
            · rename_i mu elt tg2 src cond own i
              simp only [beq_iff_eq] at h3
              match gs, h1, hsw with
              | [⟨etg, eiter, ifs, ia⟩], h1, hsw =>
                simp only [chkX, Bool.and_eq_true, decide_eq_true_eq] at h1
                obtain ⟨⟨⟨⟨⟨⟨⟨rfl, k1⟩, k2⟩, k3⟩, k4⟩, k5⟩, k6⟩, k7⟩ := h1
                simp only [chkTg, Bool.and_eq_true, decide_eq_true_eq] at h2
                have sw : swapsWith (.ListComp eelt [⟨etg, eiter, ifs, 0⟩] scope p2) (some (.Name y py)) pos.line X.env = pure true := by
                  have := swaps_lc (t := .Name y py) (line := pos.line) hk (eelt := eelt) (gs := [⟨etg, eiter, ifs, 0⟩]) (scope := scope) (p2 := p2)
                  rw [G.sc, hsw] at this
                  exact this
                refine (s_lc (mu := mu) (elt := elt) (tg := tg2) (src := src) (cond := cond) (own := own) (i := i) G.toGood k1 k2 (srOk src G.toGood k3) k4 k5 (fun X' hK G' => hK ▸ xcOk cond G' k6) (fun X' hK G' => hK ▸ (xOk elt G' k7).1) (srSet src k3) h2.1 h3 sw).imp fun D σ H q => name_rd q
              | [], h1, _ => simp [chkX] at h1
              | _ :: _ :: _, h1, _ => simp [chkX] at h1
            · cases h3
        | _ =>
          refine s_asg G.toGood hx h2 (by rfl) ?_
          exact sw_none (fun _ _ _ z => by cases z) (fun _ _ z => by cases z <;> (cases tg <;> simp [chkTg] at h2))
      | Tuple vs k2 p2 =>
        cases t with
        | Tuple ts k3 p3 =>
          simp only [Bool.and_eq_true] at h3
          obtain ⟨⟨htp, hkd⟩, h3⟩ := h3
          have hk := G.fk htp
          split at h3
          · cases h3
          · rename_i ho
            refine s_asg G.toGood hx h2 (by rfl) (sw_opt hk (by rw [G.sc]; exact ho))
          · rename_i names ho
            have hsw := sw_opt (k := k3) (k2 := k2) (p := p3) (p2 := p2) hk (by rw [G.sc]; exact ho)
            split at h3
            · rename_i i j a pa b pb xa xb ea eb
              simp only [Bool.and_eq_true, decide_eq_true_eq, beq_iff_eq] at h3
              obtain ⟨⟨⟨q1, q2⟩, q3⟩, q4⟩ := h3
              subst q2
              simp only [chkTg, chkTgs, Bool.and_eq_true, decide_eq_true_eq] at h2
              simp only [chkX, Bool.and_eq_true] at h1
              exact (ps_par (G.calm h2.1) G.nd (by rw [G.N]; exact h2.2.1.1) (by rw [G.N]; exact h2.2.2.1.1) q1 (by rw [G.sc]; exact q3) (by rw [G.sc]; exact q4) (xsOk _ G.toGood h1.1) hsw (by rfl)).imp fun D σ H q => par_rd q
            · rename_i i j l a pa b pb c pc xa xb xc ea eb ec
              simp only [Bool.and_eq_true, decide_eq_true_eq, beq_iff_eq] at h3
              obtain ⟨⟨⟨⟨⟨⟨q1, q2⟩, q3⟩, q4⟩, q5⟩, q6⟩, q7⟩ := h3
              subst q4
              simp only [chkTg, chkTgs, Bool.and_eq_true, decide_eq_true_eq] at h2
              simp only [chkX, Bool.and_eq_true] at h1
              exact (ps_par3 (G.calm h2.1) G.nd (by rw [G.N]; exact h2.2.1.1) (by rw [G.N]; exact h2.2.2.1.1) (by rw [G.N]; exact h2.2.2.2.1.1) q1 q2 q3 (by rw [G.sc]; exact q5) (by rw [G.sc]; exact q6) (by rw [G.sc]; exact q7) (xsOk _ G.toGood h1.1) hsw (by rfl)).imp fun D σ H q => par3_rd q
            · cases h3
        | _ =>
          refine s_asg G.toGood hx h2 (by rfl) ?_
          exact sw_none (fun _ _ _ z _ _ _ z2 => by cases z2) (fun _ _ z => by cases z <;> (cases tg <;> simp [chkTg] at h2))
      | _ =>
        refine s_asg G.toGood hx h2 (swaps_no hsc (by rfl)) (sw_none (fun _ _ _ z => by cases z) (fun _ _ z => ?_))
        cases z <;> (cases tg <;> simp [chkTg] at h2)
    | [], h => exact absurd h (by clear h; simp [chkS])
    | _ :: _ :: _, h => exact absurd h (by clear h; simp [chkS])
  | .sto o i x, Γ, st, X, W, G, h => by
    have ee : evS cf sub fu (.sto o i x) = fun e st => (evX cf x e st).thn e fun d st1 => (evX cf o e st1).thn e fun y st2 => (evX cf i e st2).thn e fun z st3 => evSto y z d e st3 := by funext e st; rw [evS]
    rw [ee]
    cases st <;> first | (simp [chkS] at h; done) | skip
    rename_i ts v pos
    match ts, h with
    | [.Subscript eo ei p], h =>
      simp only [chkS, Bool.and_eq_true, Bool.not_eq_true'] at h
      obtain ⟨⟨⟨⟨⟨h1, h2⟩, h3⟩, h4⟩, h5⟩, h6⟩ := h
      exact s_sto h2 h1 (by simpa using h6) (xOk x G.toGood h3).1 (xOk o G.toGood h4).1 (xOk i G.toGood h5).1
    | [], h => exact absurd h (by clear h; simp [chkS])
    | t :: _ :: _, h => exact absurd h (by clear h; cases t <;> simp [chkS])
    | [.BoolOp ..], h | [.NamedExpr ..], h | [.BinOp ..], h | [.UnaryOp ..], h | [.Lambda ..], h | [.IfExp ..], h | [.Dict ..], h | [.Set ..], h | [.ListComp ..], h
    | [.SetComp ..], h | [.DictComp ..], h | [.GeneratorExp ..], h | [.Await ..], h | [.Yield ..], h | [.YieldFrom ..], h | [.Compare ..], h | [.Call ..], h | [.FormattedValue ..], h
    | [.JoinedStr ..], h | [.Constant ..], h | [.Attribute ..], h | [.Name ..], h | [.Starred ..], h | [.List ..], h | [.Tuple ..], h | [.Slice ..], h => exact absurd h (by clear h; simp [chkS])
  | .dput o i x, Γ, st, X, W, G, h => by
    have ee : evS cf sub fu (.dput o i x) = fun e st => (evX cf x e st).thn e fun d st1 => (evX cf o e st1).thn e fun y st2 => (evX cf i e st2).thn e fun z st3 => evDput y z d e st3 := by funext e st; rw [evS]
    rw [ee]
    cases st <;> first | (simp [chkS] at h; done) | skip
    rename_i ts v pos
    match ts, h with
    | [.Subscript eo ei p], h =>
      simp only [chkS, Bool.and_eq_true, Bool.not_eq_true'] at h
      obtain ⟨⟨⟨⟨h1, h2⟩, h3⟩, h4⟩, h5⟩ := h
      exact s_dput G.toGood h2 h1 (xOk x G.toGood h3).1 (xOk o G.toGood h4).1 (xOk i G.toGood h5).1
    | [], h => exact absurd h (by clear h; simp [chkS])
    | t :: _ :: _, h => exact absurd h (by clear h; cases t <;> simp [chkS])
    | [.BoolOp ..], h | [.NamedExpr ..], h | [.BinOp ..], h | [.UnaryOp ..], h | [.Lambda ..], h | [.IfExp ..], h | [.Dict ..], h | [.Set ..], h | [.ListComp ..], h
    | [.SetComp ..], h | [.DictComp ..], h | [.GeneratorExp ..], h | [.Await ..], h | [.Yield ..], h | [.YieldFrom ..], h | [.Compare ..], h | [.Call ..], h | [.FormattedValue ..], h
    | [.JoinedStr ..], h | [.Constant ..], h | [.Attribute ..], h | [.Name ..], h | [.Starred ..], h | [.List ..], h | [.Tuple ..], h | [.Slice ..], h => exact absurd h (by clear h; simp [chkS])
  | .dcm i tg src k v own, Γ, st, X, W, G, h => by
    have ee : evS cf sub fu (.dcm i tg src k v own) = fun e st => (evSr cf src e st).thn e fun items st1 =>
      (dcLoop (fun d s => match evTg tg d (wipeE e own) with
        | none => .fail
        | some σ1 => (evX cf k σ1 s).bind fun x s1 => (evX cf v σ1 s1).bind fun y s2 => evDset st1.length x y s2) items (st1 ++ [.dct true []])).thn e fun _ st2 => evAsg (.name i) (.loc st1.length) e st2 := by
      funext e st
      rw [evS]
      all_goals first | rfl | (congr 1)
    rw [ee]
    rw [chkS] at h
    unfold chkDcm at h
    split at h
    · rename_i y py ek ev etg eiter ia scope pos spos
      simp only [Bool.and_eq_true, decide_eq_true_eq] at h
      obtain ⟨⟨⟨⟨⟨⟨⟨⟨⟨⟨rfl, h1⟩, h2⟩, h3⟩, h4⟩, h5⟩, h6⟩, h7⟩, h8⟩, h9⟩, h10⟩ := h
      have hk := G.fk h2
      have hl : Γ.sc.names.lookup y = some .local := by
        unfold swD at h10
        simp only [Bool.and_eq_true, beq_iff_eq] at h10
        exact h10.1.1
      have hsw : swapsWith (.DictComp ek ev [⟨etg, eiter, [], 0⟩] scope pos) (some (.Name y py)) spos.line X.env = pure true := by
        rw [swaps_dc hk, G.sc, h10]
      refine (ps_setDn (i := i) (g := rdG X.K g tg) (tk := rdX X.K g (evX cf k) W0) (tv := rdX X.K g (evX cf v) W0) (wi := rdI X.K g (evSr cf src) W) (by have := G.hu; omega) (G.calm h1) G.nd (by rw [G.N]; exact h9) (by rw [G.sc]; exact hl) hsw (srOk src G.toGood h4) (blkOk_by (by rw [G.N, G.sc]; exact h3)) (fun s H C cl fp => tgOk G.toGood.blk h5) (fun s H C cl fp => (xOk k G.toGood.blk h7).1) (fun s H C cl fp => (xOk v G.toGood.blk h8).1) (set_pure (srSet src h4))).imp fun D σ H q => ?_
      rw [ownN_snd]
      exact dcm_rd G.gp h6 q
    · cases h
  | .app o x, Γ, st, X, W, G, h => by
    have ee : evS cf sub fu (.app o x) = fun e st => (evX cf o e st).thn e fun y st1 => if isLoc st1 y then (evX cf x e st1).thn e fun d st2 => evApp y d e st2 else .fail := by funext e st; rw [evS]
    rw [ee]
    cases st <;> first | (simp [chkS] at h; done) | skip
    rename_i v pos
    cases v <;> first | (simp [chkS] at h; done) | skip
    rename_i f as kws cpos
    cases f <;> first | (simp [chkS] at h; done) | skip
    rename_i eo m apos
    match as, kws, h with
    | [e], [], h =>
      simp only [chkS, Bool.and_eq_true, decide_eq_true_eq] at h
      obtain ⟨⟨⟨⟨⟨rfl, h1⟩, h2⟩, h3⟩, h4⟩, h5⟩ := h
      exact s_app h1 h2 h5 (xOk o G.toGood h3).1 (xOk x G.toGood h4).1
    | [], _, h => exact absurd h (by clear h; simp [chkS])
    | _ :: _ :: _, _, h => exact absurd h (by clear h; simp [chkS])
    | [_], _ :: _, h => exact absurd h (by clear h; simp [chkS])
  | .ex x, Γ, st, X, W, G, h => by
    have ee : evS cf sub fu (.ex x) = fun e st => (evX cf x e st).thn e fun _ st1 => .nx e st1 := by funext e st; rw [evS]
    rw [ee]
    cases st <;> first | (simp [chkS] at h; done) | skip
    simp only [chkS, Bool.and_eq_true] at h
    exact s_ex h.1.2 h.2 (xOk x G.toGood h.1.1).1
  | .ret x, Γ, st, X, W, G, h => by
    have ee : evS cf sub fu (.ret x) = fun e st => (evX cf x e st).thn e fun d st1 => .rt d st1 := by funext e st; rw [evS]
    rw [ee]
    cases st <;> first | (simp [chkS] at h; done) | skip
    rename_i o pos
    cases o with
    | none => exact absurd h (by clear h; simp [chkS])
    | some e =>
      simp only [chkS] at h
      exact s_ret (xOk x G.toGood h).1
  | .retN, Γ, st, X, W, G, h => by
    have ee : evS cf sub fu .retN = fun _ st => .rt .non st := by funext e st; rw [evS]
    rw [ee]
    cases st <;> first | (simp [chkS] at h; done) | skip
    rename_i o pos
    cases o with
    | none => exact s_retN
    | some e => exact absurd h (by clear h; simp [chkS])
  | .ite c a b, Γ, st, X, W, G, h => by
    have ee : evS cf sub fu (.ite c a b) = fun e st => (evX cf c e st).thn e fun d st1 => match d with | .bl true => evSs cf sub fu a e st1 | .bl false => evSs cf sub fu b e st1 | _ => .fail := by funext e st; rw [evS] <;> rfl
    rw [ee]
    cases st <;> first | (simp [chkS] at h; done) | skip
    simp only [chkS, Bool.and_eq_true] at h
    exact s_ite (xOk c G.toGood h.1.1).2 (ssOk a G h.1.2) (ssOk b G h.2)
  | .for tg src body, Γ, st, X, W, G, h => by
    have ee : evS cf sub fu (.for tg src body) = fun e st => (evSr cf src e st).thn e fun items st1 => forLoop (fun d e1 s => match evTg tg d e1 with | some e2 => evSs cf sub fu body e2 s | none => .fail) items e st1 := by funext e st; rw [evS] <;> rfl
    rw [ee]
    cases st <;> first | (simp [chkS] at h; done) | skip
    rename_i etg eiter sbody orelse pos
    cases orelse with
    | cons _ _ => exact absurd h (by clear h; simp [chkS])
    | nil =>
      simp only [chkS, Bool.and_eq_true] at h
      obtain ⟨⟨⟨⟨h1, h2⟩, h3⟩, h4⟩, h5⟩ := h
      exact s_for G.toGood h1 h2 h4 (srOk src G.toGood h3) (srSet src h3) (ssOk body G h5)
  | .whl c body, Γ, st, X, W, G, h => by
    have ee : evS cf sub fu (.whl c body) = fun e st => whlLoop (evX cf c) (evSs cf sub fu body) fu e st := by funext e st; rw [evS]
    rw [ee]
    cases st <;> first | (simp [chkS] at h; done) | skip
    rename_i ec sbody orelse pos
    cases orelse with
    | cons _ _ => exact absurd h (by clear h; simp [chkS])
    | nil =>
      simp only [chkS, Bool.and_eq_true] at h
      exact s_whl G.toGood h.1.1 (xOk c G.toGood h.1.2).2 (ssOk body G h.2)
  | .rse c, Γ, st, X, W, G, h => by
    have ee : evS cf sub fu (.rse c) = fun e st => .exc c [] e st := by funext e st; rw [evS]
    rw [ee]
    rw [chkS] at h
    unfold chkRse at h
    split at h
    · simp only [Bool.and_eq_true, decide_eq_true_eq] at h
      obtain ⟨⟨⟨⟨h1, h2⟩, h3⟩, h4⟩, h5⟩ := h
      exact s_rse G h1 h2 h3 h4 h5
    · cases h
  | .rseA c e, Γ, st, X, W, G, h => by simp [chkS] at h
  | .tryc body hs, Γ, st, X, W, G, h => by
    have ee : evS cf sub fu (.tryc body hs) = fun e st => match evSs cf sub fu body e st with | .exc c fs σ1 st1 => evHs cf sub fu hs c fs σ1 st1 | r => r := by funext e st; rw [evS] <;> rfl
    rw [ee]
    cases st <;> first | (simp [chkS] at h; done) | skip
    rename_i sbody shs orelse fin pos
    cases orelse with
    | cons _ _ => exact absurd h (by clear h; simp [chkS])
    | nil =>
      cases fin with
      | cons _ _ => exact absurd h (by clear h; simp [chkS])
      | nil =>
        simp only [chkS, Bool.and_eq_true] at h
        obtain ⟨⟨⟨h1, h2⟩, h3⟩, h4⟩ := h
        obtain ⟨lst, hd, k⟩ := hsOk hs G h3
        cases shs with
        | nil => simp at h4
        | cons h₀ hds =>
          refine (ps_try_many (tb := fun W' => rdS X.K g (evSs cf sub fu body) W') (G.stk h1).1 (G.stk h1).2 G.tk (fun W' pn xe tk po => ssOk body (G.tr tk po) h2) hd).imp fun D σ H ⟨l, e, st, μ, R, S, P⟩ => ?_
          refine ⟨l, e, st, μ, R, S, ?_⟩
          simp only [] at P
          generalize evSs cf sub fu body e st = r at P ⊢
          cases r with
          | exc c fs e1 st1 => exact fun μ' H' σ' cls dd E' R' S' x' => k W D l μ st H c fs e1 st1 P μ' H' σ' cls dd E' R' S' x'
          | nx e1 st1 => exact P
          | rt d st1 => exact P
          | bk e1 st1 => exact P
          | ct e1 st1 => exact P
          | fail => exact P
  | .frzv i, Γ, st, X, W, G, h => by cases st <;> simp [chkS] at h
  | .nev, Γ, st, X, W, G, h => by
    have ee : evS cf sub fu .nev = fun _ _ => .fail := by funext e st; rw [evS]
    rw [ee]
    exact ⟨fun pins s σ H D I ⟨l, e, st, μ, R, S, P⟩ => P.elim⟩
theorem ssOk : ∀ (ss : Ss) {Γ : Gm} {sts : List Stmt} {X : Cx} {W : WX}, GoodS g cf sub Γ X W → chkSs ss Γ sts = true → PSs X sts (rdS X.K g (evSs cf sub fu ss) W)
  | .nil, Γ, [], X, W, G, h => by
    refine pss_nil.imp fun D σ H ⟨l, e, st, μ, R, S, P⟩ => ?_
    rw [evSs] at P
    exact P _ _ _ (Ext.refl R.len) R S
  | .nil, Γ, _ :: _, X, W, G, h => by simp [chkSs] at h
  | .cons s ss, Γ, sts, X, W, G, h => by
    have ee : evSs cf sub fu (.cons s ss) = fun e st => (evS cf sub fu s e st).then fun σ1 st1 => evSs cf sub fu ss σ1 st1 := by funext e st; rw [evSs]
    rw [ee]
    by_cases hf : ∃ i, s = .frzv i
    · obtain ⟨i, rfl⟩ := hf
      rw [chkSs] at h
      have e2 : (fun e st => (evS cf sub fu (.frzv i) e st).then fun σ1 st1 => evSs cf sub fu ss σ1 st1) = fun e st => (evFrzv i e st).then (evSs cf sub fu ss) := by funext e st; rw [evS]
      rw [e2]
      exact frz_rd (ssOk ss G h)
    · cases sts with
      | nil => cases s <;> first | (simp [chkSs] at h; done) | exact absurd ⟨_, rfl⟩ hf
      | cons t ts =>
        have h : chkS s Γ t = true ∧ chkSs ss Γ ts = true := by
          cases s <;> first | exact absurd ⟨_, rfl⟩ hf | (simpa only [chkSs, Bool.and_eq_true] using h)
        refine (pss_cons (sOk s G h.1) (ssOk ss G h.2)).imp fun D σ H ⟨l, e, st, μ, R, S, P⟩ => ?_
        refine ⟨l, e, st, μ, R, S, ?_⟩
        simp only [] at P
        generalize evS cf sub fu s e st = r at P ⊢
        cases r with
        | nx e1 st1 => exact fun μ' H' σ' E' R' S' => ⟨l, e1, st1, μ', R', S', PostS.rebase P E'⟩
        | rt d st1 => exact P
        | bk e1 st1 => exact P
        | ct e1 st1 => exact P
        | exc c fs e1 st1 => exact P
        | fail => exact P
theorem hsOk : ∀ (hs : Hs) {Γ : Gm} {shs : List ExceptHandler} {X : Cx} {W : WX}, GoodS g cf sub Γ X W → chkHs hs Γ shs = true → ∃ lst, HdsOk X shs lst ∧
    ∀ (Wo : WX) (D : Ends) (l μ : List Addr) (st : Store) (H : Hp) (c : Nat) (fs : List EV.D) (e1 : Sl) (st1 : Store), PostS X.K (g.h l) μ st H (evHs cf sub fu hs c fs e1 st1) D Wo →
      ∀ μ' H' σ' cls dd, Ext μ st H μ' st1 H' → Rel X.K (g.h l) μ' st1 H' → SlRep X.K (g.h l) μ' st1 H' e1 σ' → XRep X.K (g.h l) μ' st1 H' c fs cls dd → wMany X.K Wo D lst cls dd σ' H'
  | .nil, Γ, [], X, W, G, h => by
    refine ⟨[], .nil, fun Wo D l μ st H c fs e1 st1 P μ' H' σ' cls dd E' R' S' x' => ?_⟩
    rw [evHs] at P
    exact P μ' H' σ' cls dd E' R' S' x'
  | .nil, Γ, _ :: _, X, W, G, h => by simp [chkHs] at h
  | .cons k body hs, Γ, [], X, W, G, h => by simp [chkHs] at h
  | .cons k body hs, Γ, h₀ :: hds, X, W, G, h => by
    obtain ⟨ty, nm, sb, pos⟩ := h₀
    cases ty with
    | none => simp [chkHs] at h
    | some ty =>
      cases ty <;> first | (simp [chkHs] at h; done) | skip
      rename_i x np
      cases nm with
      | some _ => simp [chkHs] at h
      | none =>
        cases sb with
        | nil => simp [chkHs] at h
        | cons b₀ suite =>
          simp only [chkHs, Bool.and_eq_true, decide_eq_true_eq] at h
          obtain ⟨⟨⟨⟨h1, h2⟩, h3⟩, h4⟩, h5⟩ := h
          obtain ⟨lst, hd, kk⟩ := hsOk hs G h5
          obtain ⟨m1, kp⟩ := G.cls k x h1
          refine ⟨(.ref (g.ca k), fun _ _ _ => rdS X.K g (evSs cf sub fu body) W0) :: lst, .cons ⟨G.gl h2, dbg_ne h3, .inl m1⟩ (fun a oe cls d pn _ _ => ssOk body G.suite h4) hd, fun Wo D l μ st H c fs e1 st1 P μ' H' σ' cls dd E' R' S' x' => ?_⟩
          refine ⟨sub c k, ?_, fun hs a na => ?_, fun hs => ?_⟩
          · rw [x'.1]
            exact G.exm c k (List.getElem?_eq_some_iff.mp h1).1
          · rw [evHs, if_pos hs] at P
            refine ⟨l, e1, st1, μ', R', S', ?_⟩
            generalize evSs cf sub fu body e1 st1 = r at P ⊢
            cases r with
            | nx e2 st2 => exact PostS.rebase (r := .nx e2 st2) P E'
            | rt d st2 => exact PostS.rebase (r := .rt d st2) P E'
            | bk e2 st2 => exact PostS.rebase (r := .bk e2 st2) P E'
            | ct e2 st2 => exact PostS.rebase (r := .ct e2 st2) P E'
            | exc c fs e2 st2 => exact P.elim
            | fail => exact P.elim
          · rw [evHs, if_neg (by simp [hs])] at P
            exact kk Wo D l μ st H c fs e1 st1 P μ' H' σ' cls dd E' R' S' x'
end
end
end EV
/-! EvN: defs, tables of defs, refinement, the law's end. -/
namespace EV
open PySem PySem.Spec PyProof.Rows L2

/-! ### what is left over in the store may go -/
mutual
def D.und (n : Nat) : D → Bool
  | .non | .bl _ | .int _ | .str _ | .fn _ => true
  | .tup ds => D.unds n ds
  | .lst ds => D.unds n ds
  | .rol ds => D.unds n ds
  | .dct _ _ => false
  | .loc l => decide (l < n)
def D.unds (n : Nat) : List D → Bool
  | [] => true
  | d :: ds => d.und n && D.unds n ds
end
def O.und (n : Nat) : O → Bool
  | .lst ds => D.unds n ds
  | .dct _ kvs => kvs.all fun p => p.1.und n && p.2.und n
  | .gone => true
section
variable {K : PySem.W.Frag} {g : G} {μ μ' μ1 : List Addr} {st st' st1 : Store} {H H' H1 : Hp} {d : D} {v : V} {ds es : List D} {vs us : List V} {a : Addr}
theorem live_take {n : Nat} {junk : Store} (hn : n = st.length) (h : Live (μ.take n) st a) : Live μ (st ++ junk) a := by
  obtain ⟨l, o, h1, h2, h3⟩ := h
  have hl : l < st.length := (List.getElem?_eq_some_iff.mp h2).1
  refine ⟨l, o, ?_, by rw [List.getElem?_append_left hl]; exact h2, h3⟩
  rw [List.getElem?_take] at h1
  split at h1
  · exact h1
  · cases h1
mutual
theorem Rep.trim {n : Nat} {junk : Store} (hn : n = st.length) : ∀ {d : D} {v : V}, Rep K g μ (st ++ junk) H d v → d.und n = true → Rep K g (μ.take n) st H d v
  | _, _, .non, _ => .non
  | _, _, .bl b, _ => .bl b
  | _, _, .int i, _ => .int i
  | _, _, .str x, _ => .str x
  | _, _, .tup h l r, e => .tup h l (Reps.trim hn r (by rw [D.und] at e; exact e))
  | _, _, .lst h n nh l r, e => .lst h (fun z => n (live_take hn z)) nh l (Reps.trim hn r (by rw [D.und] at e; exact e))
  | _, _, .lstK h l r, e => .lstK h l (Reps.trim hn r (by rw [D.und] at e; exact e))
  | _, _, .rol h l r, e => .rol h l (Reps.trim hn r (by rw [D.und] at e; exact e))
  | _, _, .dct _ _ _ _ _, e => by rw [D.und] at e; cases e
  | _, _, .loc h, e => .loc (by rw [D.und, decide_eq_true_eq] at e; rw [List.getElem?_take, if_pos e]; exact h)
  | _, _, .fn k, _ => .fn k
theorem Reps.trim {n : Nat} {junk : Store} (hn : n = st.length) : ∀ {ds : List D} {vs : List V}, Reps K g μ (st ++ junk) H ds vs → D.unds n ds = true → Reps K g (μ.take n) st H ds vs
  | _, _, .nil, _ => .nil
  | _, _, .cons r t, e => by
    rw [D.unds, Bool.and_eq_true] at e
    exact .cons (Rep.trim hn r e.1) (Reps.trim hn t e.2)
end
theorem EntK.trim {n : Nat} {junk : Store} (hn : n = st.length) : ∀ {kvs : List (D × D)} {ns : List Int} {xs : List V}, EntK (Rep K g μ (st ++ junk) H) kvs ns xs → (kvs.all fun p => p.1.und n && p.2.und n) = true → EntK (Rep K g (μ.take n) st H) kvs ns xs
  | _, _, _, .nil, _ => .nil
  | _, _, _, .cons r t, e => by
    rw [List.all_cons, Bool.and_eq_true, Bool.and_eq_true] at e
    exact .cons (r.trim hn e.1.2) (EntK.trim hn t e.2)
theorem EntT.trim {n : Nat} {junk : Store} (hn : n = st.length) : ∀ {kvs : List (D × D)} {es : List (NestedKey × Addr × V)}, EntT (Rep K g μ (st ++ junk) H) kvs es → (kvs.all fun p => p.1.und n && p.2.und n) = true → EntT (Rep K g (μ.take n) st H) kvs es
  | _, _, .nil, _ => .nil
  | _, _, .cons k r q t, e => by
    rw [List.all_cons, Bool.and_eq_true, Bool.and_eq_true] at e
    exact .cons k (r.trim hn e.1.1) (q.trim hn e.1.2) (EntT.trim hn t e.2)
theorem Rel.trim {junk : Store} (R : Rel K g μ (st ++ junk) H) (hu : ∀ o ∈ st, O.und st.length o = true) : Rel K g (μ.take st.length) st H := by
  have hl : μ.length = st.length + junk.length := by rw [R.len, List.length_append]
  refine ⟨by rw [List.length_take]; omega, R.nd.sublist (List.take_sublist _ _), fun a ha => R.there a (List.mem_of_mem_take ha), fun l ob a h1 h2 => ?_, fun a ha => ⟨fun z => (R.hid a ha).1 (List.mem_of_mem_take z), (R.hid a ha).2⟩, R.tabs⟩
  have hlt : l < st.length := (List.getElem?_eq_some_iff.mp h1).1
  rw [List.getElem?_take, if_pos hlt] at h2
  have q := R.obj l ob a (by rw [List.getElem?_append_left hlt]; exact h1) h2
  have u := hu ob (List.mem_of_getElem? h1)
  cases ob with
  | lst ds =>
    obtain ⟨xs, q1, q2, q3⟩ := q
    exact ⟨xs, q1, q2, q3.trim rfl u⟩
  | dct t kvs =>
    cases t with
    | false => obtain ⟨ns, xs, q1, q2, q3⟩ := q; exact ⟨ns, xs, q1, q2, q3.trim rfl u⟩
    | true => obtain ⟨ents, q1, q2, q3⟩ := q; exact ⟨ents, q1, q2, q3.trim rfl u⟩
  | gone => trivial
theorem Ext.trim {junk : Store} (E : Ext μ st H μ' (st' ++ junk) H') (hl : st.length ≤ st'.length) : Ext μ st H (μ'.take st'.length) st' H' := by
  obtain ⟨more, e, hm⟩ := E.pre
  refine ⟨E.len, ⟨more.take (st'.length - μ.length), ?_, fun a ha => hm a (List.mem_of_mem_take ha)⟩, E.keepN, fun l h => ?_, E.here⟩
  · rw [e, List.take_append, List.take_of_length_le (by rw [E.len]; exact hl)]
  · have q := E.gone l h
    have hlt : l < st'.length := Nat.lt_of_lt_of_le (List.getElem?_eq_some_iff.mp h).1 hl
    rw [List.getElem?_append_left hlt] at q
    exact q
end
def stUnd (st : Store) : Bool := st.all (O.und st.length)
/-- m' is m, but for what is left over in the store -/
def Ref (m m' : List D → Store → R D) : Prop := ∀ as st, match m as st with
  | .ok d st1 => ∃ junk, m' as st = .ok d (st1 ++ junk) ∧ (junk = [] ∨ (st.length ≤ st1.length ∧ d.und st1.length = true ∧ stUnd st1 = true))
  | .exc c fs st1 => ∃ junk, m' as st = .exc c fs (st1 ++ junk) ∧ (junk = [] ∨ (st.length ≤ st1.length ∧ D.unds st1.length fs = true ∧ stUnd st1 = true))
  | .fail => True
theorem Ref.spec {K : PySem.W.Frag} {g : G} {m m' : List D → Store → R D} (r : Ref m m') {n : Nat} {vs : List V} {H : Hp} {Q : VK} {E : XK} (h : spOf K g n m vs H Q E) : spOf K g n m' vs H Q E := by
  obtain ⟨hl, l, μ, st, ds, R, rs, P⟩ := h
  refine ⟨hl, l, μ, st, ds, R, rs, ?_⟩
  have q := r ds st
  cases e : m ds st with
  | fail => rw [e] at P; exact P.elim
  | ok d st1 =>
    rw [e] at P q
    obtain ⟨junk, e', hu⟩ := q
    rw [e']
    intro μ' H' v E' R' r'
    rcases hu with rfl | ⟨hle, hd, hs⟩
    · rw [List.append_nil] at E' R' r'
      exact P μ' H' v E' R' r'
    · exact P _ H' v (E'.trim hle) (R'.trim fun o ho => List.all_eq_true.mp hs o ho) (r'.trim rfl hd)
  | exc c fs st1 =>
    rw [e] at P q
    obtain ⟨junk, e', hu⟩ := q
    rw [e']
    intro μ' H' cls dd E' R' x'
    rcases hu with rfl | ⟨hle, hd, hs⟩
    · rw [List.append_nil] at E' R' x'
      exact P μ' H' cls dd E' R' x'
    · refine P _ H' cls dd (E'.trim hle) (R'.trim fun o ho => List.all_eq_true.mp hs o ho) ⟨x'.1, ?_⟩
      have x2 := x'.2
      match fs, x2, hd with
      | [], x2, _ => exact x2
      | [d], ⟨dx, v, h1, h2, h3⟩, hd =>
        rw [D.unds, Bool.and_eq_true] at hd
        exact ⟨dx, v, h1, h2, h3.trim rfl hd.1⟩
/-- what a def leaves over goes -/
def trimR (st : Store) (r : R D) : R D := match r with
  | .ok d st1 => if decide (st.length ≤ st1.length) && d.und st.length && stUnd (st1.take st.length) then .ok d (st1.take st.length) else .ok d st1
  | .exc c fs st1 => if decide (st.length ≤ st1.length) && D.unds st.length fs && stUnd (st1.take st.length) then .exc c fs (st1.take st.length) else .exc c fs st1
  | .fail => .fail
theorem trim_ref (m : List D → Store → R D) : Ref (fun as st => trimR st (m as st)) m := by
  intro as st
  show (match trimR st (m as st) with
    | .ok d st1 => ∃ junk, m as st = .ok d (st1 ++ junk) ∧ (junk = [] ∨ (st.length ≤ st1.length ∧ d.und st1.length = true ∧ stUnd st1 = true))
    | .exc c fs st1 => ∃ junk, m as st = .exc c fs (st1 ++ junk) ∧ (junk = [] ∨ (st.length ≤ st1.length ∧ D.unds st1.length fs = true ∧ stUnd st1 = true))
    | .fail => True)
  cases e : m as st with
  | fail => trivial
  | ok d st1 =>
    unfold trimR
    by_cases c : (decide (st.length ≤ st1.length) && d.und st.length && stUnd (st1.take st.length)) = true
    · simp only [c, if_true]
      simp only [Bool.and_eq_true, decide_eq_true_eq] at c
      have hl : (st1.take st.length).length = st.length := by rw [List.length_take]; omega
      exact ⟨st1.drop st.length, by rw [List.take_append_drop], .inr ⟨by omega, by rw [hl]; exact c.1.2, c.2⟩⟩
    · simp only [if_neg c]
      exact ⟨[], by rw [List.append_nil], .inl rfl⟩
  | exc c0 fs st1 =>
    unfold trimR
    by_cases c : (decide (st.length ≤ st1.length) && D.unds st.length fs && stUnd (st1.take st.length)) = true
    · simp only [c, if_true]
      simp only [Bool.and_eq_true, decide_eq_true_eq] at c
      have hl : (st1.take st.length).length = st.length := by rw [List.length_take]; omega
      exact ⟨st1.drop st.length, by rw [List.take_append_drop], .inr ⟨by omega, by rw [hl]; exact c.1.2, c.2⟩⟩
    · simp only [if_neg c]
      exact ⟨[], by rw [List.append_nil], .inl rfl⟩
theorem trim_same {st st1 : Store} {d : D} (h : st1.length = st.length) : trimR st (.ok d st1) = .ok d st1 := by
  unfold trimR
  have : st1.take st.length = st1 := List.take_of_length_le (by omega)
  simp only [this]
  split <;> rfl
theorem trim_exc {st st1 : Store} {c : Nat} {fs : List D} (h : st1.length = st.length) : trimR st (.exc c fs st1) = .exc c fs st1 := by
  unfold trimR
  have : st1.take st.length = st1 := List.take_of_length_le (by omega)
  simp only [this]
  split <;> rfl
theorem trim_junk {st st1 junk : Store} {d : D} (h : st1.length = st.length) (hd : d.und st.length = true) (hs : stUnd st1 = true) : trimR st (.ok d (st1 ++ junk)) = .ok d st1 := by
  unfold trimR
  have e : (st1 ++ junk).take st.length = st1 := by rw [← h, List.take_left']; rfl
  simp only [e]
  rw [if_pos]
  simp only [Bool.and_eq_true, decide_eq_true_eq]
  exact ⟨⟨by rw [List.length_append]; omega, hd⟩, hs⟩
/-- the table of the defs: slots and body, the last one first -/
def cfL (sub : Nat → Nat → Bool) (fu : Nat) : List (Nat × Ss) → Call
  | [], _, _, _ => .fail
  | (n, b) :: r, k, as, st => if k = r.length then trimR st (evDef (cfL sub fu r) sub fu n b as st) else cfL sub fu r k as st
theorem cfL_top {sub : Nat → Nat → Bool} {fu n : Nat} {b : Ss} {r : List (Nat × Ss)} {as : List D} {st : Store} : cfL sub fu ((n, b) :: r) r.length as st = trimR st (evDef (cfL sub fu r) sub fu n b as st) := by
  rw [cfL, if_pos rfl]
theorem cfL_low {sub : Nat → Nat → Bool} {fu : Nat} {e : Nat × Ss} {r : List (Nat × Ss)} {k : Nat} (h : k < r.length) : cfL sub fu (e :: r) k = cfL sub fu r k := by
  funext as st
  obtain ⟨n, b⟩ := e
  rw [cfL, if_neg (by omega)]

theorem cfL_app {sub : Nat → Nat → Bool} {fu : Nat} {r : List (Nat × Ss)} {k : Nat} (h : k < r.length) : ∀ pre : List (Nat × Ss), cfL sub fu (pre ++ r) k = cfL sub fu r k
  | [] => rfl
  | e :: pre => by
    rw [List.cons_append, cfL_low (by rw [List.length_append]; omega)]
    exact cfL_app h pre
theorem pure_top {sub : Nat → Nat → Bool} {fu n k : Nat} {b : Ss} {r : List (Nat × Ss)} {as : List D} {st : Store} {d : D} (hk : k = r.length) (h : evDef (cfL sub fu r) sub fu n b as st = .ok d st) : cfL sub fu ((n, b) :: r) k as st = .ok d st := by
  subst hk
  rw [cfL_top, h]
  exact trim_same rfl
theorem st_top {sub : Nat → Nat → Bool} {fu n k : Nat} {b : Ss} {r : List (Nat × Ss)} {as : List D} {st st' : Store} {d : D} (hk : k = r.length) (h : evDef (cfL sub fu r) sub fu n b as st = .ok d st') (hl : st'.length = st.length) : cfL sub fu ((n, b) :: r) k as st = .ok d st' := by
  subst hk
  rw [cfL_top, h]
  exact trim_same hl
theorem loc_top {sub : Nat → Nat → Bool} {fu n k : Nat} {b : Ss} {r : List (Nat × Ss)} {as : List D} {st st' : Store} (hk : k = r.length) (h : evDef (cfL sub fu r) sub fu n b as st = .ok (.loc st.length) st') : cfL sub fu ((n, b) :: r) k as st = .ok (.loc st.length) st' := by
  subst hk
  rw [cfL_top, h]
  simp [trimR, D.und]

/-! ### a def -/
/-- what is known of the module: built-ins, constants, own errors -/
structure Kn (P : Program) (w : World) (g : G) (sub : Nat → Nat → Bool) (cs : List (Str × D)) (cl : List Str) (rs : List Nat) (K : PySem.W.Frag) (mg : Str → Option Value) : Prop where
  bn : ∀ x ∈ bnames, mg x = none
  cst : ∀ x d, cs.lookup x = some d → ∃ u v, mg x = some u ∧ RelV v u ∧ ∀ l μ st H, Rep K (g.h l) μ st H d v
  cls : ∀ k x, cl[k]? = some x → mg x = some (.ref (g.ca k)) ∧ PySem.W.keepIn K (.ref (g.ca k)) = true
  raw : ∀ k, rs.contains k = true → PySem.W.excIn K (g.ca k) [.type "ValueError", .type "Exception", .type "BaseException", .type "object"] "ValueError.__new__" = true ∧ PySem.W.subIn K (.ref (g.ca k)) (.type "BaseException") = some true ∧ PySem.W.typeIn K (.ref (g.ca k)) = some (.type "type")
  exm : ∀ c k, k < cl.length → PySem.W.exmOne K (.ref (g.ca c)) (.ref (g.ca k)) = some (sub c k)
  gp : g.P = P ∧ g.w = w
section
variable {P : Program} {w : World} {K : PySem.W.Frag} {mg : Str → Option Value} {base : Heap} {g : G} {cf : Call} {sub : Nat → Nat → Bool} {fu : Nat} {cs : List (Str × D)} {cls : List Str} {rs : List Nat} {fns : List (Str × Nat)} {lv : Nat}
theorem slots_of {μ : List Addr} {st : Store} {H : Hp} {ds : List D} {vs : List V} {N : List Str} (r : Reps K g μ st H ds vs) : SlRep K g μ st H (ds.map some ++ List.replicate (N.length - ds.length) none) (L2.start N vs) := by
  have hl := r.length
  unfold L2.start
  refine ⟨by simp [hl], fun i d h => ?_⟩
  by_cases hi : i < ds.length
  · rw [List.getElem?_append_left (by rw [List.length_map]; exact hi), List.getElem?_map] at h
    obtain ⟨d', h1, h2⟩ := Option.map_eq_some_iff.mp h
    cases h2
    obtain ⟨v, hv, rv⟩ := r.get h1
    refine ⟨v, ?_, rv⟩
    rw [List.getElem?_append_left (by rw [List.length_map, ← hl]; exact hi), List.getElem?_map, hv]
    rfl
  · rw [List.getElem?_append_right (by rw [List.length_map]; omega)] at h
    rw [List.getElem?_replicate] at h
    split at h <;> cases h
/-- the code object of a def with lambdas, and its table -/
def LamFact (base : Heap) (mg : Str → Option Value) (g : G) (x : Str) (fd : FuncData) : Prop := ∃ c P, LamX.TabB base mg c P ∧ fd.code = .ref c ∧ (P, x ++ ".<locals>." ++ "<lambda>") ∈ g.tb ∧ ∀ p ∈ g.tb, p.1 = P → p.2 = x ++ ".<locals>." ++ "<lambda>"
def WordsOk (P : Program) (w : World) (K : PySem.W.Frag) (mg : Str → Option Value) (base : Heap) (g : G) (wd : List (Str × Bool × D × List (Nat × Wd))) : Prop := ∀ x k c h, wd.lookup x = some (k, c, h) → WordDef P w K mg base x (TTw g k c h)
theorem wordsNil : WordsOk P w K mg base g [] := fun x k c h e => by simp at e
variable {wd : List (Str × Bool × D × List (Nat × Wd))}
theorem defOk {x : Str} {stm : Stmt} {f : Addr} {fd : FuncData} {N ps : List Str} {b : Ss} {tl : Nat} {lm : Bool} (F : Fun K x x stm f fd) (S : FnScope N ps (defScope stm)) (kn : Kn P w g sub cs cls rs K mg) (wk : WordsOk P w K mg base g wd) (T : TabOk g cf fns tl P w K mg base) (hl : lm = true → LamFact base mg g x fd)
    (chk : chkSs b { N := N, sc := defScope stm, fns := fns, cs := cs, cls := cls, rs := rs, lvl := tl + 2, wd := wd, lam := lm, tl := tl } (defBody stm) = true) :
    FnOk P w K mg base (L2.CX P w) (tl + 3) f fd ps (spOf K g ps.length (evDef cf sub fu N.length b)) := by
  obtain ⟨oc, od, kV, doc, pm, an, cdv, ct, osl, rfl, lk, hcd⟩ := F.ex
  refine fn_of lk hcd S (fun vs H Q E h => h.1) fun A outer s H vs Q E hr h => ?_
  have G : GoodS g cf sub { N := N, sc := defScope stm, fns := fns, cs := cs, cls := cls, rs := rs, lvl := tl + 2, wd := wd, lam := lm, tl := tl } (cxOf (L2.CX P w) P w K mg base N x (defScope stm) f cdv A outer s H E) (fun cls d _ H => E cls d H) :=
    { N := rfl, nd := S.nd, sc := rfl, calm := fun _ => rfl, room := fun _ => hr, hu := (show (A.deeper (envOfC x (defScope stm) s.heap.objs.size f cdv)).units + 65 < cLine by have := hr.un; omega), tk := takes_of rfl rfl rfl rfl, po := fun _ => passes_of rfl, fk := fun _ => S.kind, fn := fun _ _ => rfl, stk := fun _ => ⟨rfl, rfl⟩, bn := kn.bn, tab := T, tlv := Nat.le_add_right _ _,
      wrd := wk, lamk := fun h => let ⟨c, P, h1, h2, h3, h4⟩ := hl h; ⟨⟨c, P, h1, h2, h3, h4⟩, Nat.le_refl _⟩, cst := kn.cst, gp := kn.gp, cls := kn.cls, raw := fun k h => ⟨(kn.raw k h).1, raises_own (kn.raw k h).2.1 (kn.raw k h).2.2⟩, exm := kn.exm }
  refine ⟨_, ssOk (fu := fu) b G chk, ?_⟩
  obtain ⟨hl, l, μ, st, ds, R, rs, Pq⟩ := h
  refine ⟨l, ds.map some ++ List.replicate (N.length - ds.length) none, st, μ, R, slots_of rs, ?_⟩
  unfold evDef at Pq
  generalize evSs cf sub fu b (ds.map some ++ List.replicate (N.length - ds.length) none) st = r at Pq ⊢
  cases r with
  | nx e1 st1 => exact fun μ' H' σ' E' R' S' => Pq μ' H' .non E' R' .non
  | rt d st1 => exact fun μ' H' v E' R' r' => Pq μ' H' v E' R' r'
  | bk e1 st1 => exact Pq.elim
  | ct e1 st1 => exact Pq.elim
  | exc c fs e1 st1 => exact fun μ' H' σ' cls dd E' R' S' x' => Pq μ' H' cls dd E' R' x'
  | fail => exact Pq.elim
theorem tab_nil : TabOk g cf [] 0 P w K mg base := fun k x n h => by simp at h
theorem TabOk.congr {cf' : Call} (T : TabOk g cf fns lv P w K mg base) (h : ∀ k, k < fns.length → cf' k = cf k) : TabOk g cf' fns lv P w K mg base := fun k x n e => by
  obtain ⟨fd, ps, lv', h1, h2, h3, h4, h5, h6⟩ := T k x n e
  refine ⟨fd, ps, lv', h1, h2, h3, h4, h5, ?_⟩
  rw [h k (List.getElem?_eq_some_iff.mp e).1]
  exact h6
/-- one more def of the table -/
theorem tab_cfL {r : List (Nat × Ss)} {x : Str} {stm : Stmt} {fd : FuncData} {N ps : List Str} {b : Ss} {n : Nat} {lm : Bool} (T : TabOk g (cfL sub fu r) (fns.take n) (3 * n) P w K mg base) (kn : Kn P w g sub cs cls rs K mg) (wk : WordsOk P w K mg base g wd) (hr : r.length = n) (hx : fns[n]? = some (x, ps.length)) (F : Fun K x x stm (g.fa n) fd) (hb : Binds K fd ps []) (hm : mg x = some (.ref (g.fa n))) (S : FnScope N ps (defScope stm))
    (chk : chkSs b { N := N, sc := defScope stm, fns := fns.take n, cs := cs, cls := cls, rs := rs, lvl := 3 * n + 2, wd := wd, lam := lm, tl := 3 * n } (defBody stm) = true) (hl : lm = true → LamFact base mg g x fd := by intro h; cases h) : TabOk g (cfL sub fu ((N.length, b) :: r)) (fns.take (n + 1)) (3 * (n + 1)) P w K mg base := by
  have hlen : n < fns.length := (List.getElem?_eq_some_iff.mp hx).1
  have hlt : (fns.take n).length = n := by rw [List.length_take]; omega
  have T' : TabOk g (cfL sub fu ((N.length, b) :: r)) (fns.take n) (3 * n) P w K mg base := T.congr fun k hk => cfL_low (by omega)
  rw [List.take_add_one, hx]
  intro k y m h
  by_cases hk : k < (fns.take n).length
  · rw [List.getElem?_append_left hk] at h
    obtain ⟨fd', ps', lv', h1, h2, h3, h4, h5, h6⟩ := T' k y m h
    exact ⟨fd', ps', lv', h1, h2, h3, h4, by omega, h6⟩
  · have hk2 : k = n := by
      have := (List.getElem?_eq_some_iff.mp h).1
      rw [List.length_append] at this
      simp at this
      omega
    subst hk2
    rw [List.getElem?_append_right (by omega), hlt, Nat.sub_self] at h
    cases h
    refine ⟨fd, ps, 3 * k + 3, rfl, hm, F.kp, hb, by omega, (defOk (fu := fu) F S kn wk T hl chk).imp fun vs H Q E h => ?_⟩
    have e : cfL sub fu ((N.length, b) :: r) k = fun as st => trimR st (evDef (cfL sub fu r) sub fu N.length b as st) := by
      funext as st
      rw [← hr, cfL_top]
    rw [e] at h
    exact (trim_ref _).spec h

/-! ### the law's end -/
/-- the law's promise: at a script of ints it gives True -/
def spLaw (K : PySem.W.Frag) (m : List D → Store → R D) : Sp := fun vs H Q _ => ∃ (a : Addr) (ns : List Int), vs = [.ref a] ∧ ns.length ≤ 63 ∧ Only H ∧ SqL K H a (ns.map V.int) ∧ m [.rol (ns.map .int)] [] = .ok (.bl true) [] ∧ ∀ H', Q (.bl true) H'
theorem spLaw.of {vs : List V} {H : Hp} {Q : VK} {E : XK} {m : List D → Store → R D} (h : spLaw K m vs H Q E) (htb : g.tb = [] := by rfl) : spOf K g 1 m vs H Q E := by
  obtain ⟨a, ns, rfl, hl, hO, hS, hm, q⟩ := h
  refine ⟨rfl, [], [], [], [.rol (ns.map .int)], ⟨rfl, List.nodup_nil, (fun _ h => by cases h), (fun _ _ _ h => by simp at h), (fun _ h => by cases h), fun p hp => by rw [show (g.h []).tb = [] from htb] at hp; cases hp⟩, .one ?_, ?_⟩
  · have hz : (ns.map D.int).length ≤ most := by rw [List.length_map]; unfold most; omega
    rcases hS with h | h
    · rcases h with h | ⟨o, h⟩
      · rcases hO a with z | ⟨o, xs, z⟩
        · rw [h] at z; cases z
        · rw [h] at z; cases z
      · exact .rol h hz (Reps.ofInts ns)
    · exact .lstK h hz (Reps.ofInts ns)
  · rw [hm]
    intro μ' H' v E' R' r'
    cases r'
    exact q H'
/-! ### the law's end where tables of code objects stand -/
/-- the script's list, whichever way it is known -/
def spLawT (K : PySem.W.Frag) (tb : List (Addr × Str)) (m : List D → Store → R D) : Sp := fun vs H Q _ => ∃ (a : Addr) (ns : List Int), vs = [.ref a] ∧ ns.length ≤ 63 ∧ LamX.Tabs tb H ∧ SqL K H a (ns.map V.int) ∧ (∀ z : D, z = .rol (ns.map .int) ∨ z = .lst (ns.map .int) → m [z] [] = .ok (.bl true) []) ∧ ∀ H', Q (.bl true) H'
theorem spLawT.of {vs : List V} {H : Hp} {Q : VK} {E : XK} {m : List D → Store → R D} (h : spLawT K g.tb m vs H Q E) : spOf K g 1 m vs H Q E := by
  obtain ⟨a, ns, rfl, hl, hT, hS, hm, q⟩ := h
  have hz : (ns.map D.int).length ≤ most := by rw [List.length_map]; unfold most; omega
  have R : Rel K (g.h []) [] [] H := ⟨rfl, List.nodup_nil, (fun _ h => by cases h), (fun _ _ _ h => by simp at h), (fun _ h => by cases h), hT⟩
  obtain ⟨z, hz2, rz⟩ : ∃ z : D, (z = .rol (ns.map .int) ∨ z = .lst (ns.map .int)) ∧ Rep K (g.h []) [] [] H z (.ref a) := by
    rcases hS with (h | ⟨o, h⟩) | h
    · exact ⟨_, .inr rfl, .lst (.inl h) (fun ⟨l, o, h1, _⟩ => by simp at h1) (fun h => by cases h) hz (Reps.ofInts ns)⟩
    · exact ⟨_, .inl rfl, .rol h hz (Reps.ofInts ns)⟩
    · exact ⟨_, .inl rfl, .lstK h hz (Reps.ofInts ns)⟩
  refine ⟨rfl, [], [], [], [z], R, .one rz, ?_⟩
  rw [hm z hz2]
  intro μ' H' v E' R' r'
  cases r'
  exact q H'
end
end EV
/-! EvO: from the facts of the written part to the tables. -/
namespace EV
open PySem PySem.Spec PyProof.Rows L2

section
variable {P : Program} {w : World} {K : PySem.W.Frag} {mg : Str → Option Value} {base : Heap} {g : G} {cf : Call} {sub : Nat → Nat → Bool} {fu : Nat} {cs : List (Str × D)} {cls : List Str} {rs : List Nat} {fns : List (Str × Nat)} {lv : Nat}
/-! ### constants -/
/-- a constant by its fact: a number, a text; a tuple of such -/
def litB : Value → D → Bool
  | .none, .non => true
  | .bool a, .bl b => a == b
  | .int i _, .int j => decide (i = j)
  | .str x _, .str y => decide (x = y)
  | _, _ => false
def litsB : List Value → List D → Bool
  | [], [] => true
  | u :: us, d :: ds => litB u d && litsB us ds
  | _, _ => false
theorem lit_rep : ∀ {u : Value} {d : D}, litB u d = true → ∃ v, RelV v u ∧ ∀ l μ st H, Rep K (g.h l) μ st H d v := by
  intro u d h
  cases u <;> cases d <;> first | (simp [litB] at h; done) | skip
  · exact ⟨.non, rfl, fun _ _ _ _ => .non⟩
  · simp [litB] at h; subst h; exact ⟨.bl _, rfl, fun _ _ _ _ => .bl _⟩
  · simp [litB] at h; subst h; exact ⟨.int _, ⟨_, rfl⟩, fun _ _ _ _ => .int _⟩
  · simp [litB] at h; subst h; exact ⟨.str _, ⟨_, rfl⟩, fun _ _ _ _ => .str _⟩
theorem lits_rep : ∀ {us : List Value} {ds : List D}, litsB us ds = true → ∃ vs, Vals vs us ∧ ∀ l μ st H, Reps K (g.h l) μ st H ds vs
  | [], [], _ => ⟨[], .nil, fun _ _ _ _ => .nil⟩
  | [], _ :: _, h => by simp [litsB] at h
  | _ :: _, [], h => by simp [litsB] at h
  | u :: us, d :: ds, h => by
    rw [litsB, Bool.and_eq_true] at h
    obtain ⟨v, r1, r2⟩ := lit_rep (K := K) (g := g) h.1
    obtain ⟨vs, q1, q2⟩ := lits_rep h.2
    exact ⟨v :: vs, .cons r1 q1, fun l μ st H => .cons (r2 l μ st H) (q2 l μ st H)⟩
theorem cst_lit {h : Heap} {x : Str} {u : Value} {d : D} (X : K.In h) (G : h.Ns mainGlobals mg) (a : PySem.W.nsIn K mainGlobals x = some (some u)) (c : litB u d = true) : ∃ u v, mg x = some u ∧ RelV v u ∧ ∀ l μ st H, Rep K (g.h l) μ st H d v :=
  let ⟨v, r, rr⟩ := lit_rep (K := K) (g := g) c
  ⟨u, v, PySem.W.mg_of X G a, r, rr⟩
theorem cst_tup {h : Heap} {x : Str} {a : Addr} {ds : List D} {od : Option Addr} {its : Array Value} {n : Nat} {sl : Array (Option Value)} (X : K.In h) (G : h.Ns mainGlobals mg) (e : PySem.W.nsIn K mainGlobals x = some (some (.ref a))) (l : K.lookup a = some ⟨.type "tuple", od, .seq its n, sl⟩) (hz : decide (its.size ≤ 1000) = true) (c : litsB its.toList ds = true) :
    ∃ u v, mg x = some u ∧ RelV v u ∧ ∀ l μ st H, Rep K (g.h l) μ st H (.tup ds) v := by
  obtain ⟨vs, rv, rr⟩ := lits_rep (K := K) (g := g) c
  have hz : its.size ≤ 1000 := of_decide_eq_true hz
  refine ⟨.ref a, .ref a, PySem.W.mg_of X G e, rfl, fun m μ st H => .tup (xs := vs) (.inr ⟨_, its, n, l, rfl, rfl, by rw [sizeLine_eq]; omega, rv⟩) ?_ (rr m μ st H)⟩
  have h5 : ds.length = vs.length := (rr m μ st H).length
  have h4 : vs.length = its.toList.length := rv.length
  have h6 : its.toList.length = its.size := Array.length_toList
  unfold most
  omega
/-- class c is k, or below it, or apart from it -/
theorem exm_by {S C : Addr} {b : Bool} (h1 : PySem.W.subIn K (.ref S) (.type "BaseException") = some true) (h2 : PySem.W.isClsIn K S = true) (h3 : PySem.W.typeIn K (.ref S) = some (.type "type")) (h4 : PySem.W.subIn K (.ref C) (.ref S) = some b) : PySem.W.exmOne K (.ref C) (.ref S) = some b := by
  have h5 : (PySem.W.clsIn K S).isSome = true := by
    unfold PySem.W.isClsIn at h2
    exact h2
  unfold PySem.W.exmOne PySem.W.kitCls
  rw [h1, if_pos (by rfl)]
  show (if ((PySem.W.clsIn K S).isSome && PySem.W.typeIn K (.ref S) == some (.type "type")) = true then PySem.W.subIn K (.ref C) (.ref S) else none) = some b
  rw [h5, h3, if_pos (by rfl), h4]
end
end EV
/-! EvOw: found = c0; try: [found =] call(); except C [as e]: found = ..; return found. -/
namespace EV
open PySem PySem.Spec PyProof.Rows L2 LamX

section
variable {X : Cx} {pos : Pos} {j : Nat}
theorem pe_k {d : D} {k : Const} (h : conIs d k = true) : PE X (.Constant k j pos) (fun _ H Q => Q (conV d) H) := by
  cases k with
  | none => cases d <;> simp [conIs] at h; exact pe_non
  | bool b => cases d <;> simp [conIs] at h; subst h; exact pe_bl
  | int i => cases d <;> simp [conIs] at h; subst h; exact pe_int
  | str x => cases d <;> simp [conIs] at h; subst h; exact pe_str
  | _ => simp [conIs] at h
end
/-! ### the text -/
def loc1 (sc : Scope) (x : Str) : Bool := sc.names.lookup x == some .local && !dbg x && !cdc x
def suiteB (N : List Str) (sc : Scope) (r : Str) (xa : Nat → Str) (k : Nat) : Wd → ExceptHandler → Bool
  | .con d, .ExceptHandler (some (.Name _ _)) none [.Assign [.Name r' _] (.Constant c _ _) _] _ => decide (r' = r) && conIs d c
  | .atr, .ExceptHandler (some (.Name _ _)) (some n) [.Assign [.Name r' _] (.Attribute (.Name n' _) f _) _] _ => decide (r' = r) && decide (n' = n) && decide (f = xa k) && decide (N[2]? = some n) && loc1 sc n
  | _, _ => false
theorem suite_con {N : List Str} {sc : Scope} {r : Str} {xa : Nat → Str} {k : Nat} {d : D} {h : ExceptHandler} (hb : suiteB N sc r xa k (.con d) h = true) : ∃ x np pr c j pc pa ph, h = .ExceptHandler (some (.Name x np)) none [.Assign [.Name r pr] (.Constant c j pc) pa] ph ∧ conIs d c = true := by
  generalize hw : Wd.con d = w at hb
  unfold suiteB at hb
  split at hb
  · cases hw
    simp only [Bool.and_eq_true, decide_eq_true_eq] at hb
    obtain ⟨rfl, h2⟩ := hb
    exact ⟨_, _, _, _, _, _, _, _, rfl, h2⟩
  · cases hw
  · cases hb
theorem suite_atr {N : List Str} {sc : Scope} {r : Str} {xa : Nat → Str} {k : Nat} {h : ExceptHandler} (hb : suiteB N sc r xa k .atr h = true) : ∃ x np n pr pn pf pa ph, h = .ExceptHandler (some (.Name x np)) (some n) [.Assign [.Name r pr] (.Attribute (.Name n pn) (xa k) pf) pa] ph ∧ N[2]? = some n ∧ loc1 sc n = true := by
  generalize hw : Wd.atr = w at hb
  unfold suiteB at hb
  split at hb
  · cases hw
  · simp only [Bool.and_eq_true, decide_eq_true_eq] at hb
    obtain ⟨⟨⟨⟨rfl, rfl⟩, rfl⟩, h2⟩, h3⟩ := hb
    exact ⟨_, _, _, _, _, _, _, _, rfl, h2, h3⟩
  · cases hb
def clauseName : ExceptHandler → Str
  | .ExceptHandler (some (.Name x _)) _ _ _ => x
  | _ => Str.empty
def clausesB (N : List Str) (sc : Scope) (cls : List Str) (r : Str) (xa : Nat → Str) : List (Nat × Wd) → List ExceptHandler → Bool
  | [], [] => true
  | (k, w) :: hs, h :: hds => suiteB N sc r xa k w h && decide (cls[k]? = some (clauseName h)) && glb sc (clauseName h) && !dbg (clauseName h) && clausesB N sc cls r xa hs hds
  | _, _ => false
/-- each class is met by its own clause -/
def apartB (sub : Nat → Nat → Bool) : List (Nat × Wd) → Bool
  | [] => true
  | (k, _) :: r => sub k k && (r.all fun p => !sub p.1 k) && apartB sub r
def callB (a r : Str) (keep : Bool) : Stmt → Bool
  | .Expr (.Call (.Name a' _) [] [] _) _ => !keep && decide (a' = a)
  | .Assign [.Name r' _] (.Call (.Name a' _) [] [] _) _ => keep && decide (a' = a) && decide (r' = r)
  | _ => false
def wordB (N : List Str) (sc : Scope) (cls : List Str) (sub : Nat → Nat → Bool) (xa : Nat → Str) (keep : Bool) (c0 : D) (hs : List (Nat × Wd)) (bg : List Stmt) : Bool := match N, bg with
  | a :: r :: _, [.Assign [.Name r1 _] (.Constant k0 _ _) _, .Try [S] (h :: hds) [] [] _, .Return (some (.Name r2 _)) _] =>
    decide (r1 = r) && decide (r2 = r) && conIs c0 k0 && loc1 sc r && vis sc a && !dbg a && !cdc a && callB a r keep S && clausesB N sc cls r xa hs (h :: hds) && apartB sub hs
  | _, _ => false
theorem word_inv {N : List Str} {sc : Scope} {cls : List Str} {sub : Nat → Nat → Bool} {xa : Nat → Str} {keep : Bool} {c0 : D} {hs : List (Nat × Wd)} {bg : List Stmt} (h : wordB N sc cls sub xa keep c0 hs bg = true) :
    ∃ a r N' pr1 k0 j0 pk p0 st h₀ hds pt pr2 pret, N = a :: r :: N' ∧ bg = [.Assign [.Name r pr1] (.Constant k0 j0 pk) p0, .Try [st] (h₀ :: hds) [] [] pt, .Return (some (.Name r pr2)) pret] ∧ conIs c0 k0 = true ∧ loc1 sc r = true ∧ vis sc a = true ∧ (!dbg a) = true ∧ (!cdc a) = true ∧ callB a r keep st = true ∧
      clausesB N sc cls r xa hs (h₀ :: hds) = true ∧ apartB sub hs = true := by
  unfold wordB at h
  split at h
  · simp only [Bool.and_eq_true, decide_eq_true_eq] at h
    obtain ⟨⟨⟨⟨⟨⟨⟨⟨⟨rfl, rfl⟩, h3⟩, h4⟩, h5⟩, h6⟩, h7⟩, h8⟩, h9⟩, h10⟩ := h
    exact ⟨_, _, _, _, _, _, _, _, _, _, _, _, _, _, rfl, rfl, h3, h4, h5, h6, h7, h8, h9, h10⟩
  · cases h
theorem wHs_mem {g : G} {c : Nat} {dd : Option Addr} {H : Hp} {Q : VK} : ∀ {hs : List (Nat × Wd)}, wHs g hs c dd H Q → ∃ w, (c, w) ∈ hs
  | [], h => h.elim
  | (k, w) :: r, h => by
    rw [wHs] at h
    split at h
    · rename_i e
      subst e
      exact ⟨w, List.mem_cons_self⟩
    · obtain ⟨w', m⟩ := wHs_mem h
      exact ⟨w', List.mem_cons_of_mem _ m⟩
theorem wHs_imp {g : G} {c : Nat} {dd : Option Addr} {H : Hp} {Q Q' : VK} (h : ∀ v H, Q v H → Q' v H) : ∀ {hs : List (Nat × Wd)}, wHs g hs c dd H Q → wHs g hs c dd H Q'
  | [], z => z.elim
  | (k, w) :: r, z => by
    rw [wHs] at z ⊢
    split
    · rename_i e
      rw [if_pos e] at z
      cases w with
      | con d => exact h _ _ z
      | atr => obtain ⟨dx, v, h1, h2, h3⟩ := z; exact ⟨dx, v, h1, h2, h _ _ h3⟩
    · rename_i e
      rw [if_neg e] at z
      exact wHs_imp h z
section
variable {P : Program} {w : World} {K : PySem.W.Frag} {mg : Str → Option Value} {base : Heap} {g : G} {sub : Nat → Nat → Bool} {cs : List (Str × D)} {cls : List Str} {rs : List Nat}
/-- attributes of own errors can be read -/
def AtrOk (K : PySem.W.Frag) (g : G) (hs : List (Nat × Wd)) : Prop := ∀ k, (k, Wd.atr) ∈ hs → XfC K (g.ca k) ∧ PySem.W.findIn K (.ref (g.ca k)) (g.xa k) = some none
theorem clauses_ok {X : Cx} (kn : Kn P w g sub cs cls rs X.K X.mg) {r : Str} (hnd : X.N.Nodup) (hr : X.N[1]? = some r) (hl : loc1 X.env.scope r = true) {D' : Ends} {Wout : WX} :
    ∀ {hs : List (Nat × Wd)} {hds : List ExceptHandler}, clausesB X.N X.env.scope cls r g.xa hs hds = true → apartB sub hs = true → AtrOk X.K g hs →
      ∃ lst, Clauses X hds lst ∧ ∀ (c : Nat) (dd : Option Addr) (σ : L2.St) (H : Hp), 3 ≤ σ.length ∨ (∀ k, (k, Wd.atr) ∉ hs) → wHs g hs c dd H (fun v H' => ∀ σ', σ'[1]? = some (some v) → D'.nx σ' H') → 2 ≤ σ.length → wClauses X.K Wout D' lst (.ref (g.ca c)) dd σ H
  | [], [], _, _, _ => ⟨[], .nil, fun c dd σ H _ h _ => h.elim⟩
  | [], _ :: _, h, _, _ => by simp [clausesB] at h
  | _ :: _, [], h, _, _ => by simp [clausesB] at h
  | (k, wd) :: hs, h₀ :: hds, h, ap, at_ => by
    simp only [clausesB, Bool.and_eq_true, decide_eq_true_eq] at h
    obtain ⟨⟨⟨⟨h1, h2⟩, h3⟩, h4⟩, h5⟩ := h
    rw [apartB, Bool.and_eq_true, Bool.and_eq_true] at ap
    obtain ⟨⟨ap1, ap2⟩, ap3⟩ := ap
    obtain ⟨lst, hc, kk⟩ := clauses_ok kn hnd hr hl h5 ap3 (fun k m => at_ k (List.mem_cons_of_mem _ m))
    have hlt : k < cls.length := (List.getElem?_eq_some_iff.mp h2).1
    have hloc : X.env.scope.names.lookup r = some .local := by
      unfold loc1 at hl
      simp only [Bool.and_eq_true, beq_iff_eq] at hl
      exact hl.1.1
    have later : ∀ {c : Nat} {dd : Option Addr} {H : Hp} {Q : VK}, c ≠ k → wHs g hs c dd H Q → sub c k = false := fun hne hw => by
      obtain ⟨w', m⟩ := wHs_mem hw
      have := List.all_eq_true.mp ap2 _ m
      simpa using this
    cases wd with
    | con d =>
      obtain ⟨x, np, pr, cst, j, pc, pa, ph, rfl, hcon⟩ := suite_con h1
      · have names : Names X x (.ref (g.ca k)) := ⟨beq_iff_eq.mp h3, dbg_ne h4, .inl (kn.cls k x h2).1⟩
        refine ⟨(.ref (g.ca k), none, fun _ _ _ => tAsg (fun _ H Q => Q (conV d) H) (gName 1)) :: lst, .plain names (fun a oe cls dd pn _ _ => pss_one (ps_set (X := X.suite a ((a, oe) :: pn)) hnd hr (.inl hloc) (pe_k hcon) (by rfl) (.inr hloc))) hc, fun c dd σ H hσ hw h2σ => ?_⟩
        rw [wHs] at hw
        refine ⟨sub c k, kn.exm c k hlt, fun hs' a na => ?_, fun hs' => ?_⟩
        · by_cases e : c = k
          · rw [if_pos e] at hw
            exact hw _ (List.getElem?_set_self (by omega))
          · rw [if_neg e] at hw
            rw [later e hw] at hs'
            cases hs'
        · by_cases e : c = k
          · subst e
            rw [ap1] at hs'
            cases hs'
          · rw [if_neg e] at hw
            exact kk c dd σ H (hσ.imp id fun z k m => z k (List.mem_cons_of_mem _ m)) hw h2σ
    | atr =>
      obtain ⟨x, np, n, pr, pn, pf, pa, ph, rfl, hn2, hnl⟩ := suite_atr h1
      · have hnloc : X.env.scope.names.lookup n = some .local ∧ (n == ("__debug__" : Str)) = false ∧ (n == ("__classdict__" : Str)) = false := by
          unfold loc1 at hnl
          simp only [Bool.and_eq_true, beq_iff_eq] at hnl
          exact ⟨hnl.1.1, dbg_ne hnl.1.2, cdc_ne hnl.2⟩
        have names : Names X x (.ref (g.ca k)) := ⟨beq_iff_eq.mp h3, dbg_ne h4, .inl (kn.cls k x h2).1⟩
        obtain ⟨xf, none_⟩ := at_ k List.mem_cons_self
        refine ⟨(.ref (g.ca k), some 2, fun a cls dd => tAsg (tXf a cls dd (g.ca k) (g.xa k) (tVar 2)) (gName 1)) :: lst, .named names hn2 hnloc.1 (fun a oe cls dd pn hz hf => pss_one (ps_set (X := X.suite a ((a, oe) :: pn)) hnd hr (.inl hloc) (pe_xf xf none_ hz hf (pe_var (X := X.suite a ((a, oe) :: pn)) (i := 2) hn2 (.inl hnloc.1) hnloc.2.1 hnloc.2.2) (by rfl)) (by rfl) (.inr hloc))) hc, fun c dd σ H hσ hw h2σ => ?_⟩
        rw [wHs] at hw
        refine ⟨sub c k, kn.exm c k hlt, fun hs' a na => ?_, fun hs' => ?_⟩
        · by_cases e : c = k
          · rw [if_pos e] at hw
            obtain ⟨dx, v, e1, e2, q⟩ := hw
            subst e
            have h3σ : 3 ≤ σ.length := hσ.resolve_right fun z => z c List.mem_cons_self
            refine ⟨.ref a, List.getElem?_set_self (by omega), rfl, rfl, dx, _, v, e1, e2, ?_, ?_⟩
            · simp [List.lookup]
            · refine q _ ?_
              rw [List.getElem?_set_ne (by omega)]
              exact List.getElem?_set_self (by rw [List.length_set]; omega)
          · rw [if_neg e] at hw
            rw [later e hw] at hs'
            cases hs'
        · by_cases e : c = k
          · subst e
            rw [ap1] at hs'
            cases hs'
          · rw [if_neg e] at hw
            exact kk c dd σ H (hσ.imp id fun z k m => z k (List.mem_cons_of_mem _ m)) hw h2σ
/-- what the word-def makes of a lambda -/
theorem word_gives (kn : Kn P w g sub cs cls rs K mg) {N : List Str} {a : Str} {sc : Scope} {x : Str} {f : Addr} {cdv : Value} {keep : Bool} {c0 : D} {hs : List (Nat × Wd)} {bg : List Stmt} (S : FnScope N [a] sc) (h : wordB N sc cls sub g.xa keep c0 hs bg = true) (h3 : 3 ≤ N.length ∨ ∀ k, (k, Wd.atr) ∉ hs) (at_ : AtrOk K g hs) :
    N[0]? = some a ∧ Vis sc a ∧ (a == ("__debug__" : Str)) = false ∧ (a == ("__classdict__" : Str)) = false ∧ GivesW P w K mg base N x sc f cdv bg a (TTw g keep c0 hs) := by
  have ha : N[0]? = some a := by
    have := S.pre
    cases N with
    | nil => simp at this
    | cons b N => simp at this; rw [this]; rfl
  obtain ⟨a', r1, N', pr1, k0, j0, pk, p0, st, h₀, hds, pt, pr2, pret, rfl, rfl, h3', hl, h5, h6, h7, h8, h9, h10⟩ := word_inv h
  · obtain rfl : a' = a := Option.some.inj ha
    refine ⟨ha, lookup_vis h5, dbg_ne h6, cdc_ne h7, ?_⟩
    intro A outer s H Q E fl c' q tl mono act code tt
    have hloc : sc.names.lookup r1 = some .local ∧ (r1 == ("__debug__" : Str)) = false ∧ (r1 == ("__classdict__" : Str)) = false := by
      unfold loc1 at hl
      simp only [Bool.and_eq_true, beq_iff_eq] at hl
      exact ⟨hl.1.1, dbg_ne hl.1.2, cdc_ne hl.2⟩
    generalize hX : cxOf (L2.CX P w) P w K mg base (a' :: r1 :: N') x sc f cdv A outer s H E = X at act
    have eN : X.N = a' :: r1 :: N' := by rw [← hX]; rfl
    have eK : X.K = K := by rw [← hX]; rfl
    have emg : X.mg = mg := by rw [← hX]; rfl
    have esc : X.env.scope = sc := by rw [← hX]; rfl
    have estk : X.stack = X.env :: X.outer := by rw [← hX]; rfl
    have efr : X.env.frame = some X.env.locals := by rw [← hX]; rfl
    have tk : Takes X (fun cls d _ H => E cls d H) := by rw [← hX]; exact takes_of rfl rfl rfl rfl
    have i1 : X.N[1]? = some r1 := by rw [eN]; rfl
    have nd : X.N.Nodup := by rw [eN]; exact S.nd
    have loc : X.env.scope.names.lookup r1 = some .local := by rw [esc]; exact hloc.1
    subst eK emg
    obtain ⟨lst, hc, kk⟩ := clauses_ok (X := X) kn nd i1 (by rw [esc]; exact hl) (D' := { nx := fun σ H' => ∃ v, σ[1]? = some (some v) ∧ Q v H', rt := Q }) (Wout := fun cls d _ H => E cls d H) (hs := hs) (hds := h₀ :: hds) (by rw [esc, eN]; exact h9) h10 at_
    -- the statement that calls
    have body : ∃ tb : WX → TS, (∀ (W : WX) (pn : List (Addr × Obj)) (xe : Value → Shared → Prop), Takes (X.tr pn xe) W → PassesOwn (model X.prog X.w) X.A X.env xe → PSs (X.tr pn xe) [st] (tb W)) ∧
        ∀ (W : WX) (D : Ends) (σ : L2.St) (HZ : Hp), σ[0]? = some (some (.ref fl)) → HZ c' = some (CodeO c' q) → (tl (WE W σ) HZ fun v H' => D.nx (if keep = true then σ.set 1 (some v) else σ) H') → tb W D σ HZ := by
      unfold callB at h8
      split at h8
      · rename_i a2 pa pc pe
        simp only [Bool.and_eq_true, decide_eq_true_eq, Bool.not_eq_true'] at h8
        obtain ⟨rfl, rfl⟩ := h8
        refine ⟨fun W => tDrop (fun σZ HZ Q => σZ[0]? = some (some (.ref fl)) ∧ HZ c' = some (CodeO c' q) ∧ tl (WE W σZ) HZ Q), fun W pn xe tk' _ => pss_one (ps_expr (act W pn xe pa pc tk') (by rfl)), fun W D σ HZ h1 h2 h3 => ⟨h1, h2, h3⟩⟩
      · rename_i r2 pr a2 pa pc pe
        simp only [Bool.and_eq_true, decide_eq_true_eq] at h8
        obtain ⟨⟨rfl, rfl⟩, rfl⟩ := h8
        refine ⟨fun W => tAsg (fun σZ HZ Q => σZ[0]? = some (some (.ref fl)) ∧ HZ c' = some (CodeO c' q) ∧ tl (WE W σZ) HZ Q) (gName 1), fun W pn xe tk' _ => pss_one (ps_set (X := X.tr pn xe) nd i1 (.inl loc) (act W pn xe pa pc tk') (by rfl) (.inr loc)), fun W D σ HZ h1 h2 h3 => ⟨h1, h2, h3⟩⟩
      · cases h8
    obtain ⟨tb, hb, use⟩ := body
    refine ⟨_, pss_cons (ps_set (X := X) (i := 1) nd i1 (.inl loc) (pe_k h3') (by rfl) (.inr loc)) (pss_cons (ps_try_clauses (X := X) (tb := tb) estk efr nd tk hb hc) (pss_one (ps_ret (pe_var (X := X) (i := 1) i1 (.inl loc) hloc.2.1 hloc.2.2)))), ?_⟩
    have len : (L2.start (a' :: r1 :: N') [V.ref fl]).length = N'.length + 2 := by simp [L2.start]
    have s0 : (L2.start (a' :: r1 :: N') [V.ref fl])[0]? = some (some (.ref fl)) := by simp [L2.start]
    show tb _ _ ((L2.start (a' :: r1 :: N') [V.ref fl]).set 1 (some (conV c0))) H
    refine use _ _ _ _ (by rw [List.getElem?_set_ne (by omega)]; exact s0) code ?_
    have h1 : ∀ (cls : Value) (dd : Option Addr) (H' : Hp), (∃ c, cls = .ref (g.ca c) ∧ wHs g hs c dd H' Q) → wClauses X.K (fun cls d _ H => E cls d H) { nx := fun σ H' => ∃ v, σ[1]? = some (some v) ∧ Q v H', rt := Q } lst cls dd ((L2.start (a' :: r1 :: N') [V.ref fl]).set 1 (some (conV c0))) H' := by
      rintro cls dd H' ⟨c, rfl, hw⟩
      refine kk c dd _ H' ?_ (wHs_imp (fun v H' hq σ' hσ => ⟨v, hσ, hq⟩) hw) (by simp [L2.start])
      refine h3.imp (fun z => ?_) id
      simp [L2.start] at z ⊢
      omega
    have h2 : ∀ (v : V) (H' : Hp), Q (if keep = true then v else conV c0) H' → ∃ u, (if keep = true then ((L2.start (a' :: r1 :: N') [V.ref fl]).set 1 (some (conV c0))).set 1 (some v) else ((L2.start (a' :: r1 :: N') [V.ref fl]).set 1 (some (conV c0))))[1]? = some (some u) ∧ Q u H' := by
      intro v H' hq
      refine ⟨if keep = true then v else conV c0, ?_, hq⟩
      cases keep with
      | true =>
        rw [if_pos rfl, if_pos rfl]
        exact List.getElem?_set_self (by simp [L2.start])
      | false =>
        rw [if_neg Bool.false_ne_true, if_neg Bool.false_ne_true]
        exact List.getElem?_set_self (by simp [L2.start])
    exact mono _ _ _ _ _ h1 h2 tt
theorem word_def (kn : Kn P w g sub cs cls rs K mg) {N : List Str} {a x : Str} {stm : Stmt} {f : Addr} {fd : FuncData} {keep : Bool} {c0 : D} {hs : List (Nat × Wd)} (F : Fun K x x stm f fd) (hb : Binds K fd [a] []) (hm : mg x = some (.ref f)) (S : FnScope N [a] (defScope stm))
    (h : wordB N (defScope stm) cls sub g.xa keep c0 hs (defBody stm) = true) (h3 : 3 ≤ N.length ∨ ∀ k, (k, Wd.atr) ∉ hs) (at_ : AtrOk K g hs) : WordDef P w K mg base x (TTw g keep c0 hs) := by
  obtain ⟨oc, od, kV, doc, pm, an, cdv, ct, osl, rfl, lk, hcd⟩ := F.ex
  obtain ⟨w1, w2, w3, w4, w5⟩ := word_gives (base := base) (x := x) (f := f) (cdv := cdv) kn S h h3 at_
  exact ⟨f, _, _, _, _, _, _, _, _, _, _, _, _, _, N, a, hm, F.kp, lk, hcd, hb, S, w1, w2, w3, w4, w5⟩
end
/-! ### the end of a law whose defs make lambdas -/
theorem tab_code {K : PySem.W.Frag} {x : Str} {f c P : Addr} {oc : Value} {od : Option Addr} {fd : FuncData} {sl : Array (Option Value)} (a : PySem.W.nsIn K mainGlobals x = some (some (.ref f))) (l : K.lookup f = some ⟨oc, od, .func fd, sl⟩) (t : PySem.W.tabIn K x = some (c, P)) : fd.code = .ref c := by
  unfold PySem.W.tabIn at t
  rw [a] at t
  simp only [l] at t
  split at t
  · rename_i c' hc
    split at t
    · split at t
      · cases t
        exact hc
      · cases t
    · cases t
  · cases t
theorem no_tab {K : PySem.W.Frag} {h : Heap} (X : K.In h) (n : PySem.W.noTabs K = true) {P : Addr} (e : h.get? P = some (PySem.W.tabObj #[])) : K.lookup P = none := by
  cases q : K.lookup P with
  | none => rfl
  | some o =>
    have h1 := X _ _ q
    rw [e] at h1
    obtain rfl := Option.some.inj h1
    have := List.all_eq_true.mp n _ (PySem.W.mem_of_lookupK q)
    exact absurd (show false = true from this) Bool.false_ne_true
theorem walk_ofL {l : PySem.W.OpenLaw} {n k : Nat} {q : Program} {loose : List Str} {XP : (Str → Option Value) → Heap → Prop} {YP : World → Heap → Prop} {d : DefRec} {K : Params → PySem.W.Frag} {CX : World → CXT} {x : Str}
    (hn : l.most = some n) (hn2 : n ≤ sizeLine) (hdf : d.params.defaults = []) (hr : Room k callerA) (hY : ∀ (w : World) (h : Heap), YP w h → (K w.params).In h)
    (F : ∀ (w : World) (mg : Str → Option Value) (fa : Addr) (h : Heap), YP w h → (K w.params).In h → h.Ns mainGlobals mg → mg d.name = some (.ref fa) → LawAtS l w (K w.params) (CX w) k n x mg fa h)
    (hCX : ∀ (w : World) (H : Hp) (s : Shared) (e : Value) (s' : Shared), CX w [] H s (fun _ _ _ => False) e s' → False) :
    PySem.W.WalkO q loose XP YP l.row.toRowW d [] (fun f vs => PySem.call f vs) := by
  refine Att.attach_callB hn hdf fun w s₀ s₁ mg mb fa o pm cd doc a vs ns G Y ho hd hcd hmg hobj hints hlen hbits hg => ?_
  have inside := hY w _ Y
  obtain ⟨fd, cs, sp, t1, t2, t3, bind, promise, ok⟩ := F w mg fa _ Y inside G.T.g hmg
  exact law_callTs inside G.T.g G.T.b G.T.builtins G.T.nolimit hg t1 t2 t3 G.T.bmain hobj hints (Nat.le_trans hlen hn2) hr ok bind (fun H hH hS => promise H a ns hlen hbits hH hS) fun H e s' => hCX w H s₁ e s'
end EV
/-! EvQ: the evaluator's equations, each continuation a word of its own: simp works out what comes first first. -/
namespace EV
open PySem
section
variable {cf : Call} {sub : Nat → Nat → Bool} {fu : Nat} {σ : Sl} {st : Store}
def getV (o : Option (Option D)) (st : Store) : R D := match o with
  | some (some d) => .ok d st
  | _ => .fail
@[simp] theorem getV_some (d : D) : getV (some (some d)) st = .ok d st := rfl
@[simp] theorem evX_var (i : Nat) : evX cf (.var i) σ st = getV σ[i]? st := by rw [evX]; rfl
@[simp] theorem evX_con (d : D) : evX cf (.con d) σ st = .ok d st := by rw [evX]
@[simp] theorem evX_gfn (k : Nat) : evX cf (.gfn k) σ st = .ok (.fn k) st := by rw [evX]
def k_bin2 (op : Bop) (x y : D) (st : Store) : R D := ofOpt (evBin op x y) st
@[simp] theorem k_bin2_eq (op : Bop) (x y : D) : k_bin2 op x y st = ofOpt (evBin op x y) st := id rfl
def k_bin1 (cf : Call) (op : Bop) (b : X) (σ : Sl) (x : D) (st : Store) : R D := (evX cf b σ st).bind (k_bin2 op x)
@[simp] theorem k_bin1_eq (op : Bop) (b : X) (x : D) : k_bin1 cf op b σ x st = (evX cf b σ st).bind (k_bin2 op x) := id rfl
@[simp] theorem evX_bin (op : Bop) (a b : X) : evX cf (.bin op a b) σ st = (evX cf a σ st).bind (k_bin1 cf op b σ) := by rw [evX]; rfl
def k_neg (x : D) (st : Store) : R D := match x with
  | .int i => .ok (.int (-i)) st
  | _ => .fail
@[simp] theorem k_neg_eq (i : Int) : k_neg (.int i) st = .ok (.int (-i)) st := rfl
@[simp] theorem evX_neg (a : X) : evX cf (.neg a) σ st = (evX cf a σ st).bind k_neg := by rw [evX]; rfl
def k_not (x : D) (st : Store) : R D := match x with
  | .bl b => .ok (.bl (!b)) st
  | _ => .fail
@[simp] theorem k_not_eq (b : Bool) : k_not (.bl b) st = .ok (.bl (!b)) st := rfl
@[simp] theorem evX_not (a : X) : evX cf (.not a) σ st = (evX cf a σ st).bind k_not := by rw [evX]; rfl
@[simp] theorem evX_bop (isAnd : Bool) (xs : Xs) : evX cf (.bop isAnd xs) σ st = evBop cf isAnd xs σ st := by rw [evX]
@[simp] theorem evBop_one (isAnd : Bool) (x : X) : evBop cf isAnd (.cons x .nil) σ st = evX cf x σ st := by rw [evBop]
def k_bop (cf : Call) (isAnd : Bool) (xs : Xs) (σ : Sl) (d : D) (st : Store) : R D := match d with
  | .bl b => if b = isAnd then evBop cf isAnd xs σ st else .ok (.bl b) st
  | _ => .fail
@[simp] theorem k_bop_tt (xs : Xs) : k_bop cf true xs σ (.bl true) st = evBop cf true xs σ st := rfl
@[simp] theorem k_bop_tf (xs : Xs) : k_bop cf true xs σ (.bl false) st = .ok (.bl false) st := rfl
@[simp] theorem k_bop_ff (xs : Xs) : k_bop cf false xs σ (.bl false) st = evBop cf false xs σ st := rfl
@[simp] theorem k_bop_ft (xs : Xs) : k_bop cf false xs σ (.bl true) st = .ok (.bl true) st := rfl
@[simp] theorem evBop_more (isAnd : Bool) (x y : X) (ys : Xs) : evBop cf isAnd (.cons x (.cons y ys)) σ st = (evX cf x σ st).bind (k_bop cf isAnd (.cons y ys) σ) := by
  rw [evBop]
  · rfl
  · intro z; cases z
def k_cmp2 (op : Cop) (x y : D) (st : Store) : R D := ofOpt ((evCmp st op x y).map .bl) st
@[simp] theorem k_cmp2_eq (op : Cop) (x y : D) : k_cmp2 op x y st = ofOpt ((evCmp st op x y).map .bl) st := rfl
def k_cmp1 (cf : Call) (op : Cop) (b : X) (σ : Sl) (x : D) (st : Store) : R D := (evX cf b σ st).bind (k_cmp2 op x)
@[simp] theorem k_cmp1_eq (op : Cop) (b : X) (x : D) : k_cmp1 cf op b σ x st = (evX cf b σ st).bind (k_cmp2 op x) := rfl
@[simp] theorem evX_cmp (op : Cop) (a b : X) : evX cf (.cmp op a b) σ st = (evX cf a σ st).bind (k_cmp1 cf op b σ) := by rw [evX]; rfl
def k_chn3 (cf : Call) (op' : Cop) (c : X) (σ : Sl) (y : D) (o : Option Bool) (st : Store) : R D := match o with
  | none => .fail
  | some false => .ok (.bl false) st
  | some true => (evX cf c σ st).bind (k_cmp2 op' y)
@[simp] theorem k_chn3_f (op' : Cop) (c : X) (y : D) : k_chn3 cf op' c σ y (some false) st = .ok (.bl false) st := rfl
@[simp] theorem k_chn3_t (op' : Cop) (c : X) (y : D) : k_chn3 cf op' c σ y (some true) st = (evX cf c σ st).bind (k_cmp2 op' y) := rfl
def k_chn2 (cf : Call) (op op' : Cop) (c : X) (σ : Sl) (x y : D) (st : Store) : R D := k_chn3 cf op' c σ y (evCmp st op x y) st
@[simp] theorem k_chn2_eq (op op' : Cop) (c : X) (x y : D) : k_chn2 cf op op' c σ x y st = k_chn3 cf op' c σ y (evCmp st op x y) st := rfl
def k_chn1 (cf : Call) (op op' : Cop) (b c : X) (σ : Sl) (x : D) (st : Store) : R D := (evX cf b σ st).bind (k_chn2 cf op op' c σ x)
@[simp] theorem k_chn1_eq (op op' : Cop) (b c : X) (x : D) : k_chn1 cf op op' b c σ x st = (evX cf b σ st).bind (k_chn2 cf op op' c σ x) := rfl
@[simp] theorem evX_chn (op op' : Cop) (a b c : X) : evX cf (.chn op op' a b c) σ st = (evX cf a σ st).bind (k_chn1 cf op op' b c σ) := by
  rw [evX]
  first | rfl | (congr 1)
def k_ife (cf : Call) (a b : X) (σ : Sl) (x : D) (st : Store) : R D := match x with
  | .bl true => evX cf a σ st
  | .bl false => evX cf b σ st
  | _ => .fail
@[simp] theorem k_ife_t (a b : X) : k_ife cf a b σ (.bl true) st = evX cf a σ st := rfl
@[simp] theorem k_ife_f (a b : X) : k_ife cf a b σ (.bl false) st = evX cf b σ st := rfl
@[simp] theorem evX_ife (c a b : X) : evX cf (.ife c a b) σ st = (evX cf c σ st).bind (k_ife cf a b σ) := by rw [evX]; rfl
def k_tup (ds : List D) (st : Store) : R D := .ok (.tup ds) st
@[simp] theorem k_tup_eq (ds : List D) : k_tup ds st = .ok (.tup ds) st := rfl
@[simp] theorem evX_tup (xs : Xs) : evX cf (.tup xs) σ st = (evXs cf xs σ st).bind k_tup := by rw [evX]; rfl
def k_lst (mu : Bool) (ds : List D) (st : Store) : R D := if mu then .ok (.loc st.length) (st ++ [.lst ds]) else .ok (.lst ds) st
@[simp] theorem k_lst_t (ds : List D) : k_lst true ds st = .ok (.loc st.length) (st ++ [.lst ds]) := rfl
@[simp] theorem k_lst_f (ds : List D) : k_lst false ds st = .ok (.lst ds) st := rfl
@[simp] theorem evX_lst (mu : Bool) (xs : Xs) : evX cf (.lst mu xs) σ st = (evXs cf xs σ st).bind (k_lst mu) := by rw [evX]; rfl
def k_idx2 (x y : D) (st : Store) : R D := ofOpt (evIdx st x y) st
@[simp] theorem k_idx2_eq (x y : D) : k_idx2 x y st = ofOpt (evIdx st x y) st := rfl
def k_idx1 (cf : Call) (b : X) (σ : Sl) (x : D) (st : Store) : R D := (evX cf b σ st).bind (k_idx2 x)
@[simp] theorem k_idx1_eq (b : X) (x : D) : k_idx1 cf b σ x st = (evX cf b σ st).bind (k_idx2 x) := rfl
@[simp] theorem evX_idx (a i : X) : evX cf (.idx a i) σ st = (evX cf a σ st).bind (k_idx1 cf i σ) := by rw [evX]; rfl
def k_sl3 (x : D) (l h : Option Int) (st : Store) : R D := ofOpt (evSl st x l h) st
@[simp] theorem k_sl3_eq (x : D) (l h : Option Int) : k_sl3 x l h st = ofOpt (evSl st x l h) st := rfl
def k_sl2 (cf : Call) (hi : Xo) (σ : Sl) (x : D) (l : Option Int) (st : Store) : R D := (evXo cf hi σ st).bind (k_sl3 x l)
@[simp] theorem k_sl2_eq (hi : Xo) (x : D) (l : Option Int) : k_sl2 cf hi σ x l st = (evXo cf hi σ st).bind (k_sl3 x l) := rfl
def k_sl1 (cf : Call) (lo hi : Xo) (σ : Sl) (x : D) (st : Store) : R D := (evXo cf lo σ st).bind (k_sl2 cf hi σ x)
@[simp] theorem k_sl1_eq (lo hi : Xo) (x : D) : k_sl1 cf lo hi σ x st = (evXo cf lo σ st).bind (k_sl2 cf hi σ x) := rfl
@[simp] theorem evX_sl (a : X) (lo hi : Xo) : evX cf (.sl a lo hi) σ st = (evX cf a σ st).bind (k_sl1 cf lo hi σ) := by rw [evX]; rfl
@[simp] theorem evXo_none : evXo cf .none σ st = .ok none st := by rw [evXo]
def k_xo (d : D) (st : Store) : R (Option Int) := match d with
  | .int i => .ok (some i) st
  | _ => .fail
@[simp] theorem k_xo_eq (i : Int) : k_xo (.int i) st = .ok (some i) st := rfl
@[simp] theorem evXo_some (a : X) : evXo cf (.some a) σ st = (evX cf a σ st).bind k_xo := by rw [evXo]; rfl
@[simp] theorem evX_call (k : Nat) (args : Xs) : evX cf (.call k args) σ st = (evXs cf args σ st).bind (cf k) := by rw [evX]
def k_callv (cf : Call) (ks : List Nat) (args : Xs) (σ : Sl) (o : Option (Option D)) (st : Store) : R D := match o with
  | some (some (.fn k)) => if ks.contains k then (evXs cf args σ st).bind (cf k) else .fail
  | _ => .fail
@[simp] theorem k_callv_eq (ks : List Nat) (args : Xs) (k : Nat) : k_callv cf ks args σ (some (some (.fn k))) st = if ks.contains k then (evXs cf args σ st).bind (cf k) else .fail := rfl
@[simp] theorem evX_callv (i : Nat) (ks : List Nat) (args : Xs) : evX cf (.callv i ks args) σ st = k_callv cf ks args σ σ[i]? st := by rw [evX]; rfl
def k_blt (f : Blt) (ds : List D) (st : Store) : R D := ofOpt (evBlt st f ds) st
@[simp] theorem k_blt_eq (f : Blt) (ds : List D) : k_blt f ds st = ofOpt (evBlt st f ds) st := rfl
@[simp] theorem evX_blt (f : Blt) (args : Xs) : evX cf (.blt f args) σ st = (evXs cf args σ st).bind (k_blt f) := by rw [evX]; rfl
def k_isi (t : Tyc) (d : D) (st : Store) : R D := ofOpt ((evIsi d t).map .bl) st
@[simp] theorem k_isi_eq (t : Tyc) (d : D) : k_isi t d st = ofOpt ((evIsi d t).map .bl) st := rfl
@[simp] theorem evX_isi (a : X) (t : Tyc) : evX cf (.isi a t) σ st = (evX cf a σ st).bind (k_isi t) := by rw [evX]; rfl
def k_srs (d : D) (st : Store) : R D := ofOpt (evSrs d) st
@[simp] theorem k_srs_eq (d : D) : k_srs d st = ofOpt (evSrs d) st := rfl
@[simp] theorem evX_srs (a : X) : evX cf (.srs a) σ st = (evX cf a σ st).bind k_srs := by rw [evX]; rfl
def k_trg (d : D) (st : Store) : R D := ofOpt (evTrg d) st
@[simp] theorem k_trg_eq (d : D) : k_trg d st = ofOpt (evTrg d) st := rfl
@[simp] theorem evX_trg (a : X) : evX cf (.trg a) σ st = (evX cf a σ st).bind k_trg := by rw [evX]; rfl
def k_dgt4 (k1 k2 : Str) (x y u z : D) (st : Store) : R D := ofOpt (evDgt k1 k2 x y u z) st
@[simp] theorem k_dgt4_eq (k1 k2 : Str) (x y u z : D) : k_dgt4 k1 k2 x y u z st = ofOpt (evDgt k1 k2 x y u z) st := rfl
def k_dgt3 (cf : Call) (k1 k2 : Str) (d : X) (σ : Sl) (x y u : D) (st : Store) : R D := (evX cf d σ st).bind (k_dgt4 k1 k2 x y u)
@[simp] theorem k_dgt3_eq (k1 k2 : Str) (d : X) (x y u : D) : k_dgt3 cf k1 k2 d σ x y u st = (evX cf d σ st).bind (k_dgt4 k1 k2 x y u) := rfl
def k_dgt2 (cf : Call) (k1 k2 : Str) (k d : X) (σ : Sl) (x y : D) (st : Store) : R D := (evX cf k σ st).bind (k_dgt3 cf k1 k2 d σ x y)
@[simp] theorem k_dgt2_eq (k1 k2 : Str) (k d : X) (x y : D) : k_dgt2 cf k1 k2 k d σ x y st = (evX cf k σ st).bind (k_dgt3 cf k1 k2 d σ x y) := rfl
def k_dgt1 (cf : Call) (k1 k2 : Str) (b k d : X) (σ : Sl) (x : D) (st : Store) : R D := (evX cf b σ st).bind (k_dgt2 cf k1 k2 k d σ x)
@[simp] theorem k_dgt1_eq (k1 k2 : Str) (b k d : X) (x : D) : k_dgt1 cf k1 k2 b k d σ x st = (evX cf b σ st).bind (k_dgt2 cf k1 k2 k d σ x) := rfl
@[simp] theorem evX_dgt (k1 k2 : Str) (a b k d : X) : evX cf (.dgt k1 k2 a b k d) σ st = (evX cf a σ st).bind (k_dgt1 cf k1 k2 b k d σ) := by rw [evX]; rfl
@[simp] theorem evCatm_eq (xs ys : List D) : evCatm (.lst xs) (.lst ys) st = if decide (xs.length + ys.length ≤ most) then .ok (.loc st.length) (st ++ [.lst (xs ++ ys)]) else .fail := rfl
def k_catm (cf : Call) (b : X) (σ : Sl) (x : D) (st : Store) : R D := (evX cf b σ st).bind (evCatm x)
@[simp] theorem k_catm_eq (b : X) (x : D) : k_catm cf b σ x st = (evX cf b σ st).bind (evCatm x) := rfl
@[simp] theorem evX_catm (a b : X) : evX cf (.catm a b) σ st = (evX cf a σ st).bind (k_catm cf b σ) := by rw [evX]; rfl
def k_frz1 (l : Nat) (o : Option O) (st : Store) : R D := match o with
  | some (.lst ds) => .ok (.lst ds) (st.set l .gone)
  | _ => .fail
@[simp] theorem k_frz1_eq (l : Nat) (ds : List D) : k_frz1 l (some (.lst ds)) st = .ok (.lst ds) (st.set l .gone) := rfl
def k_frz (d : D) (st : Store) : R D := match d with
  | .loc l => k_frz1 l st[l]? st
  | _ => .fail
@[simp] theorem k_frz_eq (l : Nat) : k_frz (.loc l) st = k_frz1 l st[l]? st := rfl
@[simp] theorem evX_frz (a : X) : evX cf (.frz a) σ st = (evX cf a σ st).bind k_frz := by rw [evX]; rfl
@[simp] theorem evX_dnew (t : Bool) : evX cf (.dnew t) σ st = .ok (.loc st.length) (st ++ [.dct t []]) := by rw [evX]
def k_dsp2 (x y : D) (st : Store) : R D := if keyOk false x then .ok (.loc st.length) (st ++ [.dct false [(x, y)]]) else .fail
@[simp] theorem k_dsp2_eq (i : Int) (y : D) : k_dsp2 (.int i) y st = .ok (.loc st.length) (st ++ [.dct false [(.int i, y)]]) := rfl
def k_dsp1 (cf : Call) (v : X) (σ : Sl) (x : D) (st : Store) : R D := (evX cf v σ st).bind (k_dsp2 x)
@[simp] theorem k_dsp1_eq (v : X) (x : D) : k_dsp1 cf v σ x st = (evX cf v σ st).bind (k_dsp2 x) := rfl
@[simp] theorem evX_dsp (k v : X) : evX cf (.dsp k v) σ st = (evX cf k σ st).bind (k_dsp1 cf v σ) := by rw [evX]; rfl
def k_dix2 (x y : D) (st : Store) : R D := ofOpt (evDix st x y) st
@[simp] theorem k_dix2_eq (x y : D) : k_dix2 x y st = ofOpt (evDix st x y) st := rfl
def k_dix1 (cf : Call) (k : X) (σ : Sl) (x : D) (st : Store) : R D := (evX cf k σ st).bind (k_dix2 x)
@[simp] theorem k_dix1_eq (k : X) (x : D) : k_dix1 cf k σ x st = (evX cf k σ st).bind (k_dix2 x) := rfl
@[simp] theorem evX_dix (d k : X) : evX cf (.dix d k) σ st = (evX cf d σ st).bind (k_dix1 cf k σ) := by rw [evX]; rfl
def k_din2 (neg : Bool) (y x : D) (st : Store) : R D := ofOpt ((evDin st y x).map fun b => .bl (b != neg)) st
@[simp] theorem k_din2_eq (neg : Bool) (y x : D) : k_din2 neg y x st = ofOpt ((evDin st y x).map fun b => .bl (b != neg)) st := rfl
def k_din1 (cf : Call) (neg : Bool) (d : X) (σ : Sl) (y : D) (st : Store) : R D := (evX cf d σ st).bind (k_din2 neg y)
@[simp] theorem k_din1_eq (neg : Bool) (d : X) (y : D) : k_din1 cf neg d σ y st = (evX cf d σ st).bind (k_din2 neg y) := rfl
@[simp] theorem evX_din (neg : Bool) (k d : X) : evX cf (.din neg k d) σ st = (evX cf k σ st).bind (k_din1 cf neg d σ) := by rw [evX]; rfl
def k_dge3 (x y u : D) (st : Store) : R D := ofOpt (evDge st x y u) st
@[simp] theorem k_dge3_eq (x y u : D) : k_dge3 x y u st = ofOpt (evDge st x y u) st := rfl
def k_dge2 (cf : Call) (z : X) (σ : Sl) (x y : D) (st : Store) : R D := (evX cf z σ st).bind (k_dge3 x y)
@[simp] theorem k_dge2_eq (z : X) (x y : D) : k_dge2 cf z σ x y st = (evX cf z σ st).bind (k_dge3 x y) := rfl
def k_dge1 (cf : Call) (k z : X) (σ : Sl) (x : D) (st : Store) : R D := if (dicOf st x).isSome then (evX cf k σ st).bind (k_dge2 cf z σ x) else .fail
@[simp] theorem k_dge1_eq (k z : X) (x : D) : k_dge1 cf k z σ x st = if (dicOf st x).isSome then (evX cf k σ st).bind (k_dge2 cf z σ x) else .fail := rfl
@[simp] theorem evX_dge (d k z : X) : evX cf (.dge d k z) σ st = (evX cf d σ st).bind (k_dge1 cf k z σ) := by rw [evX]; rfl
def k_lix2 (x y : D) (st : Store) : R D := ofOpt (evLix st x y) st
@[simp] theorem k_lix2_eq (x y : D) : k_lix2 x y st = ofOpt (evLix st x y) st := rfl
def k_lix1 (cf : Call) (z : X) (σ : Sl) (x : D) (st : Store) : R D := if x.isL then (evX cf z σ st).bind (k_lix2 x) else .fail
@[simp] theorem k_lix1_eq (z : X) (ds : List D) : k_lix1 cf z σ (.lst ds) st = (evX cf z σ st).bind (k_lix2 (.lst ds)) := rfl
@[simp] theorem evX_lix (a z : X) : evX cf (.lix a z) σ st = (evX cf a σ st).bind (k_lix1 cf z σ) := by rw [evX]; rfl
def k_rev (x : D) (st : Store) : R D := ofOpt (evRev x) st
@[simp] theorem k_rev_eq (ds : List D) : k_rev (.lst ds) st = .ok (.lst ds.reverse) st := rfl
@[simp] theorem k_rev_tup (ds : List D) : k_rev (.tup ds) st = .ok (.tup ds.reverse) st := rfl
@[simp] theorem evX_rev (a : X) : evX cf (.rev a) σ st = (evX cf a σ st).bind k_rev := by rw [evX]; rfl
def k_lc2 (mu : Bool) (ds : List D) (st : Store) : R D := if mu then .ok (.loc st.length) (st ++ [.lst ds]) else .ok (.lst ds) st
@[simp] theorem k_lc2_t (ds : List D) : k_lc2 true ds st = .ok (.loc st.length) (st ++ [.lst ds]) := rfl
@[simp] theorem k_lc2_f (ds : List D) : k_lc2 false ds st = .ok (.lst ds) st := rfl
def k_elt2 (x : D) (st : Store) : R (Option D) := .ok (some x) st
@[simp] theorem k_elt2_eq (x : D) : k_elt2 x st = .ok (some x) st := rfl
def k_elt (cf : Call) (elt : X) (σ : Sl) (b : Bool) (st : Store) : R (Option D) := if b then (evX cf elt σ st).bind k_elt2 else .ok none st
@[simp] theorem k_elt_t (elt : X) : k_elt cf elt σ true st = (evX cf elt σ st).bind k_elt2 := rfl
@[simp] theorem k_elt_f (elt : X) : k_elt cf elt σ false st = .ok none st := rfl
def k_turn1 (cf : Call) (elt : X) (cond : Xo) (o : Option Sl) (st : Store) : R (Option D) := match o with
  | none => .fail
  | some σ1 => (evXc cf cond σ1 st).bind (k_elt cf elt σ1)
@[simp] theorem k_turn1_eq (elt : X) (cond : Xo) : k_turn1 cf elt cond (some σ) st = (evXc cf cond σ st).bind (k_elt cf elt σ) := rfl
/-- a comprehension's turn -/
def k_turn (cf : Call) (elt : X) (tg : Tg) (cond : Xo) (σ : Sl) (d : D) (st : Store) : R (Option D) := k_turn1 cf elt cond (evTg tg d σ) st
theorem k_turn_eq (elt : X) (tg : Tg) (cond : Xo) (d : D) : k_turn cf elt tg cond σ d st = k_turn1 cf elt cond (evTg tg d σ) st := rfl
def k_lc1 (cf : Call) (mu : Bool) (elt : X) (tg : Tg) (cond : Xo) (σ : Sl) (items : List D) (st : Store) : R D := (lcLoop (k_turn cf elt tg cond σ) items [] st).bind (k_lc2 mu)
@[simp] theorem k_lc1_eq (mu : Bool) (elt : X) (tg : Tg) (cond : Xo) (items : List D) : k_lc1 cf mu elt tg cond σ items st = (lcLoop (k_turn cf elt tg cond σ) items [] st).bind (k_lc2 mu) := rfl
@[simp] theorem evX_lc (mu : Bool) (elt : X) (tg : Tg) (src : Sr) (cond : Xo) (own : List Nat) : evX cf (.lc mu elt tg src cond own) σ st = (evSr cf src σ st).bind (k_lc1 cf mu elt tg cond (wipeE σ own)) := by
  rw [evX]
  first | rfl | (congr 1)
@[simp] theorem evXc_none : evXc cf .none σ st = .ok true st := by rw [evXc]
def k_xc (d : D) (st : Store) : R Bool := match d with
  | .bl b => .ok b st
  | _ => .fail
@[simp] theorem k_xc_eq (b : Bool) : k_xc (.bl b) st = .ok b st := rfl
@[simp] theorem evXc_one (a : X) : evXc cf (.some a) σ st = (evX cf a σ st).bind k_xc := by rw [evXc]; rfl
@[simp] theorem evXs_nil : evXs cf .nil σ st = .ok [] st := by rw [evXs]
def k_xs2 (d : D) (ds : List D) (st : Store) : R (List D) := .ok (d :: ds) st
@[simp] theorem k_xs2_eq (d : D) (ds : List D) : k_xs2 d ds st = .ok (d :: ds) st := rfl
def k_xs1 (cf : Call) (xs : Xs) (σ : Sl) (d : D) (st : Store) : R (List D) := (evXs cf xs σ st).bind (k_xs2 d)
@[simp] theorem k_xs1_eq (xs : Xs) (d : D) : k_xs1 cf xs σ d st = (evXs cf xs σ st).bind (k_xs2 d) := rfl
@[simp] theorem evXs_cons (x : X) (xs : Xs) : evXs cf (.cons x xs) σ st = (evX cf x σ st).bind (k_xs1 cf xs σ) := by rw [evXs]; rfl
/-! what is walked -/
def k_val (x : D) (st : Store) : R (List D) := match x with
  | .tup ds => .ok ds st
  | .lst ds => .ok ds st
  | .rol ds => .ok ds st
  | _ => .fail
@[simp] theorem k_val_tup (ds : List D) : k_val (.tup ds) st = .ok ds st := rfl
@[simp] theorem k_val_lst (ds : List D) : k_val (.lst ds) st = .ok ds st := rfl
@[simp] theorem k_val_rol (ds : List D) : k_val (.rol ds) st = .ok ds st := rfl
@[simp] theorem evSr_val (a : X) : evSr cf (.val a) σ st = (evX cf a σ st).bind k_val := by rw [evSr]; rfl
def k_keys (x : D) (st : Store) : R (List D) := match x with
  | .dct ks _ => .ok ks st
  | _ => .fail
@[simp] theorem k_keys_eq (ks vs : List D) : k_keys (.dct ks vs) st = .ok ks st := rfl
@[simp] theorem evSr_keys (a : X) : evSr cf (.keys a) σ st = (evX cf a σ st).bind k_keys := by rw [evSr]; rfl
def k_rng (x : D) (st : Store) : R (List D) := match x with
  | .int n => if decide (n ≤ most ∧ -(2 ^ 62) ≤ n) then .ok ((List.range n.toNat).map fun (i : Nat) => .int (i : Int)) st else .fail
  | _ => .fail
@[simp] theorem k_rng_eq (n : Int) : k_rng (.int n) st = if decide (n ≤ most ∧ -(2 ^ 62) ≤ n) then .ok ((List.range n.toNat).map fun (i : Nat) => .int (i : Int)) st else .fail := rfl
@[simp] theorem evSr_rng (a : X) : evSr cf (.rng a) σ st = (evX cf a σ st).bind k_rng := by rw [evSr]; rfl
def k_rngB (x y : D) (st : Store) : R (List D) := match x, y with
  | .int lo, .int hi => if decide (-(2 ^ 62) ≤ lo ∧ lo < 2 ^ 62 ∧ -(2 ^ 62) ≤ hi ∧ hi < 2 ^ 62 ∧ hi - lo ≤ most) then .ok ((List.range (hi - lo).toNat).map fun (i : Nat) => .int (lo + (i : Int))) st else .fail
  | _, _ => .fail
@[simp] theorem k_rngB_eq (lo hi : Int) : k_rngB (.int lo) (.int hi) st = if decide (-(2 ^ 62) ≤ lo ∧ lo < 2 ^ 62 ∧ -(2 ^ 62) ≤ hi ∧ hi < 2 ^ 62 ∧ hi - lo ≤ most) then .ok ((List.range (hi - lo).toNat).map fun (i : Nat) => .int (lo + (i : Int))) st else .fail := rfl
def k_rngA (cf : Call) (b : X) (σ : Sl) (x : D) (st : Store) : R (List D) := (evX cf b σ st).bind (k_rngB x)
@[simp] theorem k_rngA_eq (b : X) (x : D) : k_rngA cf b σ x st = (evX cf b σ st).bind (k_rngB x) := rfl
@[simp] theorem evSr_rng2 (a b : X) : evSr cf (.rng2 a b) σ st = (evX cf a σ st).bind (k_rngA cf b σ) := by rw [evSr]; rfl
def k_enm (x : D) (st : Store) : R (List D) := match x with
  | .tup ds => .ok (ds.mapIdx fun i d => .tup [.int i, d]) st
  | .lst ds => .ok (ds.mapIdx fun i d => .tup [.int i, d]) st
  | _ => .fail
@[simp] theorem k_enm_tup (ds : List D) : k_enm (.tup ds) st = .ok (ds.mapIdx fun i d => .tup [.int i, d]) st := rfl
@[simp] theorem k_enm_lst (ds : List D) : k_enm (.lst ds) st = .ok (ds.mapIdx fun i d => .tup [.int i, d]) st := rfl
@[simp] theorem evSr_enm (a : X) : evSr cf (.enm a) σ st = (evX cf a σ st).bind k_enm := by rw [evSr]; rfl
def k_zip2 (x y : D) (st : Store) : R (List D) := match x, y with
  | .tup xs, .tup ys => .ok (List.zipWith (fun p q => .tup [p, q]) xs ys) st
  | .lst xs, .lst ys => .ok (List.zipWith (fun p q => .tup [p, q]) xs ys) st
  | .tup xs, .lst ys => .ok (List.zipWith (fun p q => .tup [p, q]) xs ys) st
  | .lst xs, .tup ys => .ok (List.zipWith (fun p q => .tup [p, q]) xs ys) st
  | _, _ => .fail
@[simp] theorem k_zip2_tt (xs ys : List D) : k_zip2 (.tup xs) (.tup ys) st = .ok (List.zipWith (fun p q => .tup [p, q]) xs ys) st := rfl
@[simp] theorem k_zip2_ll (xs ys : List D) : k_zip2 (.lst xs) (.lst ys) st = .ok (List.zipWith (fun p q => .tup [p, q]) xs ys) st := rfl
@[simp] theorem k_zip2_tl (xs ys : List D) : k_zip2 (.tup xs) (.lst ys) st = .ok (List.zipWith (fun p q => .tup [p, q]) xs ys) st := rfl
@[simp] theorem k_zip2_lt (xs ys : List D) : k_zip2 (.lst xs) (.tup ys) st = .ok (List.zipWith (fun p q => .tup [p, q]) xs ys) st := rfl
def k_zip1 (cf : Call) (b : X) (σ : Sl) (x : D) (st : Store) : R (List D) := (evX cf b σ st).bind (k_zip2 x)
@[simp] theorem k_zip1_eq (b : X) (x : D) : k_zip1 cf b σ x st = (evX cf b σ st).bind (k_zip2 x) := rfl
@[simp] theorem evSr_zip (a b : X) : evSr cf (.zip a b) σ st = (evX cf a σ st).bind (k_zip1 cf b σ) := by rw [evSr]; rfl

/-! ### statements -/
@[simp] theorem evSs_nil : evSs cf sub fu .nil σ st = .nx σ st := by rw [evSs]
@[simp] theorem evSs_cons (s : S) (ss : Ss) : evSs cf sub fu (.cons s ss) σ st = (evS cf sub fu s σ st).then (evSs cf sub fu ss) := by rw [evSs]
def k_asg1 (st : Store) (o : Option Sl) : RS := match o with
  | some σ1 => .nx σ1 st
  | none => .fail
@[simp] theorem k_asg1_eq : k_asg1 st (some σ) = .nx σ st := rfl
def k_asg (tg : Tg) (σ : Sl) (d : D) (st : Store) : RS := k_asg1 st (evTg tg d σ)
@[simp] theorem k_asg_eq (tg : Tg) (d : D) : k_asg tg σ d st = k_asg1 st (evTg tg d σ) := rfl
@[simp] theorem evS_asg (tg : Tg) (e : X) : evS cf sub fu (.asg tg e) σ st = (evX cf e σ st).thn σ (k_asg tg σ) := by rw [evS]; rfl
def k_sto3 (σ : Sl) (d o i : D) (st : Store) : RS := evSto o i d σ st
@[simp] theorem k_sto3_eq (d o i : D) : k_sto3 σ d o i st = evSto o i d σ st := rfl
def k_sto2 (cf : Call) (i : X) (σ : Sl) (d o : D) (st : Store) : RS := (evX cf i σ st).thn σ (k_sto3 σ d o)
@[simp] theorem k_sto2_eq (i : X) (d o : D) : k_sto2 cf i σ d o st = (evX cf i σ st).thn σ (k_sto3 σ d o) := rfl
def k_sto1 (cf : Call) (o i : X) (σ : Sl) (d : D) (st : Store) : RS := (evX cf o σ st).thn σ (k_sto2 cf i σ d)
@[simp] theorem k_sto1_eq (o i : X) (d : D) : k_sto1 cf o i σ d st = (evX cf o σ st).thn σ (k_sto2 cf i σ d) := rfl
@[simp] theorem evS_sto (o i e : X) : evS cf sub fu (.sto o i e) σ st = (evX cf e σ st).thn σ (k_sto1 cf o i σ) := by rw [evS]; rfl
def k_dput3 (σ : Sl) (d o i : D) (st : Store) : RS := evDput o i d σ st
@[simp] theorem k_dput3_eq (d o i : D) : k_dput3 σ d o i st = evDput o i d σ st := rfl
def k_dput2 (cf : Call) (i : X) (σ : Sl) (d o : D) (st : Store) : RS := (evX cf i σ st).thn σ (k_dput3 σ d o)
@[simp] theorem k_dput2_eq (i : X) (d o : D) : k_dput2 cf i σ d o st = (evX cf i σ st).thn σ (k_dput3 σ d o) := rfl
def k_dput1 (cf : Call) (o i : X) (σ : Sl) (d : D) (st : Store) : RS := (evX cf o σ st).thn σ (k_dput2 cf i σ d)
@[simp] theorem k_dput1_eq (o i : X) (d : D) : k_dput1 cf o i σ d st = (evX cf o σ st).thn σ (k_dput2 cf i σ d) := rfl
@[simp] theorem evS_dput (o i e : X) : evS cf sub fu (.dput o i e) σ st = (evX cf e σ st).thn σ (k_dput1 cf o i σ) := by rw [evS]; rfl
def k_dct3 (l : Nat) (x y : D) (st : Store) : R Unit := evDset l x y st
@[simp] theorem k_dct3_eq (l : Nat) (x y : D) : k_dct3 l x y st = evDset l x y st := rfl
def k_dct2 (cf : Call) (v : X) (σ : Sl) (l : Nat) (x : D) (st : Store) : R Unit := (evX cf v σ st).bind (k_dct3 l x)
@[simp] theorem k_dct2_eq (v : X) (l : Nat) (x : D) : k_dct2 cf v σ l x st = (evX cf v σ st).bind (k_dct3 l x) := rfl
def k_dct1 (cf : Call) (k v : X) (l : Nat) (o : Option Sl) (st : Store) : R Unit := match o with
  | none => .fail
  | some σ1 => (evX cf k σ1 st).bind (k_dct2 cf v σ1 l)
@[simp] theorem k_dct1_eq (k v : X) (l : Nat) : k_dct1 cf k v l (some σ) st = (evX cf k σ st).bind (k_dct2 cf v σ l) := rfl
/-- a dict comprehension's turn -/
def k_dct (cf : Call) (tg : Tg) (k v : X) (σ : Sl) (l : Nat) (d : D) (st : Store) : R Unit := k_dct1 cf k v l (evTg tg d σ) st
theorem k_dct_eq (tg : Tg) (k v : X) (l : Nat) (d : D) : k_dct cf tg k v σ l d st = k_dct1 cf k v l (evTg tg d σ) st := rfl
def k_dcm2 (i l : Nat) (σ : Sl) (_ : Unit) (st : Store) : RS := evAsg (.name i) (.loc l) σ st
@[simp] theorem k_dcm2_eq (i l : Nat) (u : Unit) : k_dcm2 i l σ u st = k_asg1 st (evTg (.name i) (.loc l) σ) := rfl
def k_dcm (cf : Call) (i : Nat) (tg : Tg) (k v : X) (own : List Nat) (σ : Sl) (items : List D) (st : Store) : RS := (dcLoop (k_dct cf tg k v (wipeE σ own) st.length) items (st ++ [.dct true []])).thn σ (k_dcm2 i st.length σ)
@[simp] theorem k_dcm_eq (i : Nat) (tg : Tg) (k v : X) (own : List Nat) (items : List D) : k_dcm cf i tg k v own σ items st = (dcLoop (k_dct cf tg k v (wipeE σ own) st.length) items (st ++ [.dct true []])).thn σ (k_dcm2 i st.length σ) := rfl
@[simp] theorem evS_dcm (i : Nat) (tg : Tg) (src : Sr) (k v : X) (own : List Nat) : evS cf sub fu (.dcm i tg src k v own) σ st = (evSr cf src σ st).thn σ (k_dcm cf i tg k v own σ) := by
  rw [evS]
  first | rfl | (congr 1)
def k_app2 (σ : Sl) (o d : D) (st : Store) : RS := evApp o d σ st
@[simp] theorem k_app2_eq (o d : D) : k_app2 σ o d st = evApp o d σ st := rfl
def k_app1 (cf : Call) (e : X) (σ : Sl) (o : D) (st : Store) : RS := if isLoc st o then (evX cf e σ st).thn σ (k_app2 σ o) else .fail
@[simp] theorem k_app1_eq (e : X) (o : D) : k_app1 cf e σ o st = if isLoc st o then (evX cf e σ st).thn σ (k_app2 σ o) else .fail := rfl
@[simp] theorem evS_app (o e : X) : evS cf sub fu (.app o e) σ st = (evX cf o σ st).thn σ (k_app1 cf e σ) := by rw [evS]; rfl
def k_ex (σ : Sl) (_ : D) (st : Store) : RS := .nx σ st
@[simp] theorem k_ex_eq (d : D) : k_ex σ d st = .nx σ st := rfl
@[simp] theorem evS_ex (e : X) : evS cf sub fu (.ex e) σ st = (evX cf e σ st).thn σ (k_ex σ) := by rw [evS]; rfl
def k_ret (d : D) (st : Store) : RS := .rt d st
@[simp] theorem k_ret_eq (d : D) : k_ret d st = .rt d st := rfl
@[simp] theorem evS_ret (e : X) : evS cf sub fu (.ret e) σ st = (evX cf e σ st).thn σ k_ret := by rw [evS]; rfl
@[simp] theorem evS_retN : evS cf sub fu .retN σ st = .rt .non st := by rw [evS]
def k_ite (cf : Call) (sub : Nat → Nat → Bool) (fu : Nat) (a b : Ss) (σ : Sl) (d : D) (st : Store) : RS := match d with
  | .bl true => evSs cf sub fu a σ st
  | .bl false => evSs cf sub fu b σ st
  | _ => .fail
@[simp] theorem k_ite_t (a b : Ss) : k_ite cf sub fu a b σ (.bl true) st = evSs cf sub fu a σ st := rfl
@[simp] theorem k_ite_f (a b : Ss) : k_ite cf sub fu a b σ (.bl false) st = evSs cf sub fu b σ st := rfl
@[simp] theorem evS_ite (c : X) (a b : Ss) : evS cf sub fu (.ite c a b) σ st = (evX cf c σ st).thn σ (k_ite cf sub fu a b σ) := by rw [evS]; rfl
def k_ft1 (cf : Call) (sub : Nat → Nat → Bool) (fu : Nat) (body : Ss) (st : Store) (o : Option Sl) : RS := match o with
  | some σ2 => evSs cf sub fu body σ2 st
  | none => .fail
@[simp] theorem k_ft1_eq (body : Ss) : k_ft1 cf sub fu body st (some σ) = evSs cf sub fu body σ st := rfl
/-- a loop's turn -/
def k_ft (cf : Call) (sub : Nat → Nat → Bool) (fu : Nat) (tg : Tg) (body : Ss) (d : D) (σ : Sl) (st : Store) : RS := k_ft1 cf sub fu body st (evTg tg d σ)
theorem k_ft_eq (tg : Tg) (body : Ss) (d : D) : k_ft cf sub fu tg body d σ st = k_ft1 cf sub fu body st (evTg tg d σ) := rfl
def k_for (cf : Call) (sub : Nat → Nat → Bool) (fu : Nat) (tg : Tg) (body : Ss) (σ : Sl) (items : List D) (st : Store) : RS := forLoop (k_ft cf sub fu tg body) items σ st
@[simp] theorem k_for_eq (tg : Tg) (body : Ss) (items : List D) : k_for cf sub fu tg body σ items st = forLoop (k_ft cf sub fu tg body) items σ st := rfl
@[simp] theorem evS_for (tg : Tg) (src : Sr) (body : Ss) : evS cf sub fu (.for tg src body) σ st = (evSr cf src σ st).thn σ (k_for cf sub fu tg body σ) := by rw [evS]; rfl
@[simp] theorem evS_whl (c : X) (body : Ss) : evS cf sub fu (.whl c body) σ st = whlLoop (evX cf c) (evSs cf sub fu body) fu σ st := by rw [evS]
@[simp] theorem evS_rse (c : Nat) : evS cf sub fu (.rse c) σ st = .exc c [] σ st := by rw [evS]
@[simp] theorem evS_frzv (i : Nat) : evS cf sub fu (.frzv i) σ st = evFrzv i σ st := by rw [evS]
def k_try (cf : Call) (sub : Nat → Nat → Bool) (fu : Nat) (hs : Hs) (r : RS) : RS := match r with
  | .exc c fs σ1 st1 => evHs cf sub fu hs c fs σ1 st1
  | r => r
@[simp] theorem k_try_exc (hs : Hs) (c : Nat) (fs : List D) : k_try cf sub fu hs (.exc c fs σ st) = evHs cf sub fu hs c fs σ st := rfl
@[simp] theorem k_try_nx (hs : Hs) : k_try cf sub fu hs (.nx σ st) = .nx σ st := rfl
@[simp] theorem k_try_rt (hs : Hs) (d : D) : k_try cf sub fu hs (.rt d st) = .rt d st := rfl
@[simp] theorem evS_try (body : Ss) (hs : Hs) : evS cf sub fu (.tryc body hs) σ st = k_try cf sub fu hs (evSs cf sub fu body σ st) := by rw [evS]; rfl
@[simp] theorem evHs_nil (c : Nat) (fs : List D) : evHs cf sub fu .nil c fs σ st = .exc c fs σ st := by rw [evHs]
@[simp] theorem evHs_cons (k : Nat) (body : Ss) (hs : Hs) (c : Nat) (fs : List D) : evHs cf sub fu (.cons k body hs) c fs σ st = if sub c k then (evSs cf sub fu body σ st).noX else evHs cf sub fu hs c fs σ st := by rw [evHs]
@[simp] theorem noX_nx : (RS.nx σ st).noX = .nx σ st := rfl
@[simp] theorem noX_rt (d : D) : (RS.rt d st).noX = .rt d st := rfl
/-- a def's end -/
def RS.fin (r : RS) : R D := match r with
  | .nx _ st1 => .ok .non st1
  | .rt d st1 => .ok d st1
  | .exc c fs _ st1 => .exc c fs st1
  | _ => .fail
@[simp] theorem RS.fin_nx (σ : Sl) (st : Store) : (RS.nx σ st).fin = .ok .non st := rfl
@[simp] theorem RS.fin_rt (d : D) (st : Store) : (RS.rt d st).fin = .ok d st := rfl
@[simp] theorem RS.fin_exc (c : Nat) (fs : List D) (σ : Sl) (st : Store) : (RS.exc c fs σ st).fin = .exc c fs st := rfl
theorem evDef_fin {n : Nat} {body : Ss} {as : List D} : evDef cf sub fu n body as st = (evSs cf sub fu body (as.map some ++ List.replicate (n - as.length) none) st).fin := by
  unfold evDef RS.fin
  cases evSs cf sub fu body (as.map some ++ List.replicate (n - as.length) none) st <;> rfl
end
/-! what the operations give, by their kinds -/
section
variable {st : Store}
@[simp] theorem seqOf_tup (ds : List D) : seqOf st (.tup ds) = some ds := rfl
@[simp] theorem seqOf_lst (ds : List D) : seqOf st (.lst ds) = some ds := rfl
@[simp] theorem seqOf_rol (ds : List D) : seqOf st (.rol ds) = some ds := rfl
@[simp] theorem deref_tup' (ds : List D) : deref st (.tup ds) = .tup ds := rfl
@[simp] theorem deref_lst' (ds : List D) : deref st (.lst ds) = .lst ds := rfl
@[simp] theorem deref_str (x : Str) : deref st (.str x) = .str x := rfl
@[simp] theorem deref_int (x : Int) : deref st (.int x) = .int x := rfl
@[simp] theorem deref_bl (x : Bool) : deref st (.bl x) = .bl x := rfl
@[simp] theorem deref_non : deref st .non = .non := rfl
@[simp] theorem isi_int_int (i : Int) : evIsi (.int i) .int = some true := rfl
@[simp] theorem isi_int_bool (i : Int) : evIsi (.int i) .bool = some false := rfl
@[simp] theorem isi_int_str (i : Int) : evIsi (.int i) .str = some false := rfl
@[simp] theorem isi_int_tuple (i : Int) : evIsi (.int i) .tuple = some false := rfl
@[simp] theorem isi_bl_int (b : Bool) : evIsi (.bl b) .int = some true := rfl
@[simp] theorem isi_bl_bool (b : Bool) : evIsi (.bl b) .bool = some true := rfl
@[simp] theorem isi_bl_str (b : Bool) : evIsi (.bl b) .str = some false := rfl
@[simp] theorem isi_bl_tuple (b : Bool) : evIsi (.bl b) .tuple = some false := rfl
@[simp] theorem isi_str_int (x : Str) : evIsi (.str x) .int = some false := rfl
@[simp] theorem isi_str_bool (x : Str) : evIsi (.str x) .bool = some false := rfl
@[simp] theorem isi_str_str (x : Str) : evIsi (.str x) .str = some true := rfl
@[simp] theorem isi_str_tuple (x : Str) : evIsi (.str x) .tuple = some false := rfl
@[simp] theorem isi_tup_int (ds : List D) : evIsi (.tup ds) .int = some false := rfl
@[simp] theorem isi_tup_bool (ds : List D) : evIsi (.tup ds) .bool = some false := rfl
@[simp] theorem isi_tup_str (ds : List D) : evIsi (.tup ds) .str = some false := rfl
@[simp] theorem isi_tup_tuple (ds : List D) : evIsi (.tup ds) .tuple = some true := rfl
@[simp] theorem isi_lst_int (ds : List D) : evIsi (.lst ds) .int = some false := rfl
@[simp] theorem isi_lst_bool (ds : List D) : evIsi (.lst ds) .bool = some false := rfl
@[simp] theorem isi_lst_str (ds : List D) : evIsi (.lst ds) .str = some false := rfl
@[simp] theorem isi_lst_tuple (ds : List D) : evIsi (.lst ds) .tuple = some false := rfl
@[simp] theorem isi_non_int  : evIsi .non .int = some false := rfl
@[simp] theorem isi_non_bool  : evIsi .non .bool = some false := rfl
@[simp] theorem isi_non_str  : evIsi .non .str = some false := rfl
@[simp] theorem isi_non_tuple  : evIsi .non .tuple = some false := rfl
@[simp] theorem ixOf_if (n : Nat) (i : Int) : ixOf n i = if 0 ≤ i then (if i < n then some i.toNat else none) else if -(n : Int) ≤ i then some (i + n).toNat else none := rfl
@[simp] theorem evIdx_tup (ds : List D) (k : Int) : evIdx st (.tup ds) (.int k) = (ixOf ds.length k).bind fun j => ds[j]? := rfl
@[simp] theorem evIdx_lst (ds : List D) (k : Int) : evIdx st (.lst ds) (.int k) = (ixOf ds.length k).bind fun j => ds[j]? := rfl
@[simp] theorem evIdx_rol (ds : List D) (k : Int) : evIdx st (.rol ds) (.int k) = (ixOf ds.length k).bind fun j => ds[j]? := rfl
@[simp] theorem cmp_lt_i (i j : Int) : evCmp st .lt (.int i) (.int j) = some (decide (i < j)) := rfl
@[simp] theorem cmp_le_i (i j : Int) : evCmp st .le (.int i) (.int j) = some (decide (i ≤ j)) := rfl
@[simp] theorem cmp_gt_i (i j : Int) : evCmp st .gt (.int i) (.int j) = some (decide (j < i)) := rfl
@[simp] theorem cmp_ge_i (i j : Int) : evCmp st .ge (.int i) (.int j) = some (decide (j ≤ i)) := rfl
theorem okD_int (i : Int) : okD (.int i) = true := by simp [okD, D.good, D.dep]
theorem okD_bl (b : Bool) : okD (.bl b) = true := by simp [okD, D.good, D.dep]
theorem okD_non : okD .non = true := by simp [okD, D.good, D.dep]
@[simp] theorem cmp_eq_i (i j : Int) : evCmp st .eq (.int i) (.int j) = some (decide (i = j)) := by
  simp only [evCmp, deref_int, okD_int]
  simp only [eqv, D.py, PyData.eqv, Bool.and_self, if_true]
  rfl
@[simp] theorem cmp_ne_i (i j : Int) : evCmp st .ne (.int i) (.int j) = some (!decide (i = j)) := by
  simp only [evCmp, deref_int, okD_int]
  simp only [eqv, D.py, PyData.eqv, Bool.and_self, if_true]
  rfl
@[simp] theorem bin_add_i (i j : Int) : evBin .add (.int i) (.int j) = some (.int (i + j)) := rfl
@[simp] theorem bin_sub_i (i j : Int) : evBin .sub (.int i) (.int j) = some (.int (i - j)) := rfl
@[simp] theorem blt_len_tup (ds : List D) : evBlt st .len [.tup ds] = some (.int ds.length) := rfl
@[simp] theorem blt_len_lst (ds : List D) : evBlt st .len [.lst ds] = some (.int ds.length) := rfl
@[simp] theorem blt_len_rol (ds : List D) : evBlt st .len [.rol ds] = some (.int ds.length) := rfl
@[simp] theorem blt_int_i (i : Int) : evBlt st .int [.int i] = some (.int i) := rfl
@[simp] theorem blt_abs_i (i : Int) : evBlt st .abs [.int i] = some (.int (if i < 0 then -i else i)) := rfl
@[simp] theorem blt_tuple_lst (ds : List D) : evBlt st .tuple [.lst ds] = some (.tup ds) := rfl
@[simp] theorem blt_tuple_tup (ds : List D) : evBlt st .tuple [.tup ds] = some (.tup ds) := rfl
@[simp] theorem blt_list_tup (ds : List D) : evBlt st .list [.tup ds] = some (.lst ds) := rfl
@[simp] theorem blt_list_lst (ds : List D) : evBlt st .list [.lst ds] = some (.lst ds) := rfl
@[simp] theorem blt_min2_i (i j : Int) : evBlt st .min2 [.int i, .int j] = some (.int (if j < i then j else i)) := rfl
@[simp] theorem blt_max2_i (i j : Int) : evBlt st .max2 [.int i, .int j] = some (.int (if j > i then j else i)) := rfl
@[simp] theorem evTg_name (i : Nat) (d : D) (σ : Sl) : evTg (.name i) d σ = if i < σ.length then some (σ.set i (some d)) else none := by rw [evTg]
@[simp] theorem evTg_tup (ts : Tgs) (ds : List D) (σ : Sl) : evTg (.tup ts) (.tup ds) σ = evTgs ts ds σ := by rw [evTg]
@[simp] theorem evTg_lst (ts : Tgs) (ds : List D) (σ : Sl) : evTg (.tup ts) (.lst ds) σ = evTgs ts ds σ := by rw [evTg]
@[simp] theorem evTgs_nil (σ : Sl) : evTgs .nil [] σ = some σ := by rw [evTgs]
@[simp] theorem evTgs_cons (t : Tg) (ts : Tgs) (d : D) (ds : List D) (σ : Sl) : evTgs (.cons t ts) (d :: ds) σ = (evTg t d σ).bind (evTgs ts ds) := by rw [evTgs]
@[simp] theorem wipeE_nil (σ : Sl) : wipeE σ [] = σ := rfl
@[simp] theorem wipeE_cons (σ : Sl) (v : Nat) (vs : List Nat) : wipeE σ (v :: vs) = (wipeE σ vs).set v none := rfl
end
end EV
/-! EvP: plain lemmas for the laws. -/
namespace EV
open PySem

/-! ### comprehensions and loops of pure turns -/
theorem lc_map {f : D → Store → R (Option D)} {F : D → D} {st : Store} : ∀ (ds acc : List D), (∀ d ∈ ds, f d st = .ok (some (F d)) st) → lcLoop f ds acc st = .ok (acc.reverse ++ ds.map F) st
  | [], acc, _ => by rw [lcLoop]; simp
  | d :: ds, acc, h => by
    rw [lcLoop, h d List.mem_cons_self]
    simp only [R.noX, R.bind_ok]
    rw [lc_map ds (F d :: acc) fun e he => h e (List.mem_cons_of_mem _ he)]
    simp
theorem lc_filter {f : D → Store → R (Option D)} {p : D → Bool} {st : Store} : ∀ (ds acc : List D), (∀ d ∈ ds, f d st = .ok (if p d then some d else none) st) → lcLoop f ds acc st = .ok (acc.reverse ++ ds.filter p) st
  | [], acc, _ => by rw [lcLoop]; simp
  | d :: ds, acc, h => by
    rw [lcLoop, h d List.mem_cons_self]
    simp only [R.noX, R.bind_ok]
    by_cases hp : p d = true
    · simp only [hp, if_true]
      rw [lc_filter ds (d :: acc) fun e he => h e (List.mem_cons_of_mem _ he)]
      simp [hp]
    · simp only [hp]
      rw [if_neg (by simp)]
      simp only []
      rw [lc_filter ds acc fun e he => h e (List.mem_cons_of_mem _ he)]
      simp [hp]
/-- a comprehension whose turns change the store -/
theorem lc_inv {f : D → Store → R (Option D)} (I : Store → Prop) (Pd : D → Prop) {st : Store} : ∀ (ds acc : List D), I st → (∀ d ∈ ds, ∀ s, I s → ∃ x s', f d s = .ok (some x) s' ∧ I s' ∧ Pd x) →
    ∃ xs st', lcLoop f ds acc st = .ok (acc.reverse ++ xs) st' ∧ I st' ∧ xs.length = ds.length ∧ ∀ x ∈ xs, Pd x := by
  intro ds
  induction ds generalizing st with
  | nil => intro acc hI _; exact ⟨[], st, by rw [lcLoop]; simp, hI, rfl, fun _ h => by cases h⟩
  | cons d ds ih =>
    intro acc hI h
    obtain ⟨x, s', h1, h2, h3⟩ := h d List.mem_cons_self st hI
    obtain ⟨xs, st', q1, q2, q3, q4⟩ := ih (st := s') (x :: acc) h2 fun e he => h e (List.mem_cons_of_mem _ he)
    refine ⟨x :: xs, st', ?_, q2, by simp [q3], fun y hy => ?_⟩
    · rw [lcLoop, h1]
      simp only [R.noX, R.bind_ok]
      rw [q1]
      simp
    · rcases List.mem_cons.mp hy with e | e
      · subst e; exact h3
      · exact q4 y e
theorem bools_map {α : Type} (p : α → Bool) : ∀ l : List α, boolsOf (l.map fun d => D.bl (p d)) = some (l.map p)
  | [] => rfl
  | x :: xs => by rw [List.map_cons, boolsOf, bools_map p xs]; rfl
/-- a loop that ends early, or goes through -/
theorem for_inv {f : D → Sl → Store → RS} (I : List D → Sl → Store → Prop) : ∀ (ds : List D) (σ : Sl) (st : Store), I ds σ st → (∀ d r σ st, I (d :: r) σ st → (∃ σ' st', f d σ st = .nx σ' st' ∧ I r σ' st') ) → ∃ σ' st', forLoop f ds σ st = .nx σ' st' ∧ I [] σ' st'
  | [], σ, st, h, _ => ⟨σ, st, by rw [forLoop], h⟩
  | d :: ds, σ, st, h, k => by
    obtain ⟨σ1, st1, h1, h2⟩ := k d ds σ st h
    obtain ⟨σ2, st2, q1, q2⟩ := for_inv I ds σ1 st1 h2 k
    exact ⟨σ2, st2, by rw [forLoop, h1]; exact q1, q2⟩

/-! ### plain data -/
mutual
def D.pl : D → Bool
  | .non | .bl _ | .int _ => true
  | .str x => okStr x
  | .tup ds => D.pls ds
  | .lst ds => D.pls ds
  | _ => false
def D.pls : List D → Bool
  | [] => true
  | d :: ds => d.pl && D.pls ds
end
mutual
theorem D.pl_good : ∀ d : D, d.pl = true → d.good = true
  | .non, _ => rfl
  | .bl _, _ => rfl
  | .int _, _ => rfl
  | .str x, h => h
  | .tup ds, h => by rw [D.pl] at h; rw [D.good]; exact D.pls_good ds h
  | .lst ds, h => by rw [D.pl] at h; rw [D.good]; exact D.pls_good ds h
  | .dct _ _, h => by simp [D.pl] at h
  | .rol _, h => by simp [D.pl] at h
  | .loc _, h => by simp [D.pl] at h
  | .fn _, h => by simp [D.pl] at h
theorem D.pls_good : ∀ ds : List D, D.pls ds = true → D.goods ds = true
  | [], _ => rfl
  | d :: ds, h => by
    rw [D.pls, Bool.and_eq_true] at h
    rw [D.goods, Bool.and_eq_true]
    exact ⟨D.pl_good d h.1, D.pls_good ds h.2⟩
end
theorem pls_mem {d : D} : ∀ {ds : List D}, D.pls ds = true → d ∈ ds → d.pl = true
  | e :: ds, h, hd => by
    rw [D.pls, Bool.and_eq_true] at h
    rcases List.mem_cons.mp hd with z | z
    · subst z; exact h.1
    · exact pls_mem h.2 z
theorem pls_of : ∀ {ds : List D}, (∀ d ∈ ds, d.pl = true) → D.pls ds = true
  | [], _ => rfl
  | d :: ds, h => by
    rw [D.pls, Bool.and_eq_true]
    exact ⟨h d List.mem_cons_self, pls_of fun e he => h e (List.mem_cons_of_mem _ he)⟩
theorem dep_mem {d : D} : ∀ {ds : List D}, d ∈ ds → d.dep ≤ D.deps ds
  | e :: ds, hd => by
    rw [D.deps]
    rcases List.mem_cons.mp hd with z | z
    · subst z; omega
    · have := dep_mem z; omega
theorem deps_of {n : Nat} : ∀ {ds : List D}, (∀ d ∈ ds, d.dep ≤ n) → D.deps ds ≤ n
  | [], _ => Nat.zero_le _
  | d :: ds, h => by
    rw [D.deps]
    have h1 := h d List.mem_cons_self
    have h2 := deps_of fun e he => h e (List.mem_cons_of_mem _ he)
    omega
theorem okD_of {d : D} (h : d.pl = true) (hd : d.dep ≤ 60) : okD d = true := by
  unfold okD
  rw [D.pl_good d h, Bool.true_and, decide_eq_true_eq]
  exact hd

/-! ### equality -/
theorem eqv_str (x y : Str) : eqv (.str x) (.str y) = decide (x = y) := by
  simp only [eqv, D.py, PyData.eqv]
  rw [Bool.eq_iff_iff, beq_iff_eq, decide_eq_true_eq]
theorem eqv_int (x y : Int) : eqv (.int x) (.int y) = decide (x = y) := by
  simp only [eqv, D.py, PyData.eqv]
  rw [Bool.eq_iff_iff, beq_iff_eq, decide_eq_true_eq]
theorem eqv_bl (x y : Bool) : eqv (.bl x) (.bl y) = (x == y) := by
  simp only [eqv, D.py, PyData.eqv]
mutual
theorem eqv_refl : ∀ d : PyData, PyData.canLay0 d = true → PyData.eqv d d = true
  | .none, _ => rfl
  | .bool b, _ => by simp [PyData.eqv]
  | .int b, _ => by simp [PyData.eqv]
  | .str b, _ => by simp [PyData.eqv]
  | .list xs, h => by rw [PyData.eqv]; rw [PyData.canLay0] at h; exact eqvAll_refl xs h
  | .tuple xs, h => by rw [PyData.eqv]; rw [PyData.canLay0] at h; exact eqvAll_refl xs h
  | .dict _, h => by simp [PyData.canLay0] at h
theorem eqvAll_refl : ∀ ds : List PyData, PyData.canLayAll0 ds = true → PyData.eqvAll ds ds = true
  | [], _ => rfl
  | d :: ds, h => by
    rw [PyData.canLayAll0, Bool.and_eq_true] at h
    rw [PyData.eqvAll, eqv_refl d h.1, eqvAll_refl ds h.2]
    rfl
end
end EV
/-! EvR: plain lemmas about tuples and lists of ints. -/
namespace EV
open PySem

/-- a tuple of ints, a list of ints -/
abbrev it (l : List Int) : D := .tup (l.map .int)
abbrev il (l : List Int) : D := .lst (l.map .int)
@[simp] theorem intsOf_map : ∀ l : List Int, intsOf (l.map D.int) = some l
  | [] => rfl
  | x :: xs => by rw [List.map_cons, intsOf, intsOf_map xs]; rfl
section
variable {st : Store} {f : D → Store → R (Option D)}
theorem lc_ints_map {F : Int → Int} (l : List Int) (h : ∀ x ∈ l, f (.int x) st = .ok (some (.int (F x))) st) : lcLoop f (l.map D.int) [] st = .ok ((l.map F).map D.int) st := by
  rw [lc_map (F := fun d => match d with | .int x => .int (F x) | d => d)]
  · simp [List.map_map, Function.comp_def]
  · intro d hd
    obtain ⟨x, hx, rfl⟩ := List.mem_map.mp hd
    exact h x hx
theorem lc_ints_mapD {F : Int → D} (l : List Int) (h : ∀ x ∈ l, f (.int x) st = .ok (some (F x)) st) : lcLoop f (l.map D.int) [] st = .ok (l.map F) st := by
  rw [lc_map (F := fun d => match d with | .int x => F x | d => d)]
  · simp [List.map_map, Function.comp_def]
  · intro d hd
    obtain ⟨x, hx, rfl⟩ := List.mem_map.mp hd
    exact h x hx
theorem lc_ints_filter {p : Int → Bool} (l : List Int) (h : ∀ x ∈ l, f (.int x) st = .ok (if p x then some (.int x) else none) st) : lcLoop f (l.map D.int) [] st = .ok ((l.filter p).map D.int) st := by
  rw [lc_filter (p := fun d => match d with | .int x => p x | _ => false)]
  · rw [List.filter_map]; simp [Function.comp_def]
  · intro d hd
    obtain ⟨x, hx, rfl⟩ := List.mem_map.mp hd
    exact h x hx
/-- a general comprehension, turn by turn -/
theorem lc_mapL {α : Type} {items : α → D} {F : α → D} : ∀ (l : List α) (acc : List D), (∀ a ∈ l, f (items a) st = .ok (some (F a)) st) → lcLoop f (l.map items) acc st = .ok (acc.reverse ++ l.map F) st
  | [], acc, _ => by rw [List.map_nil, lcLoop]; simp
  | a :: l, acc, h => by
    rw [List.map_cons, lcLoop, h a List.mem_cons_self]
    simp only [R.noX, R.bind_ok]
    rw [lc_mapL l (F a :: acc) fun b hb => h b (List.mem_cons_of_mem _ hb)]
    simp
theorem enm_ints (l : List Int) : (l.map D.int).mapIdx (fun i d => D.tup [.int i, d]) = (l.mapIdx fun i x => (i, x)).map fun p => D.tup [.int p.1, .int p.2] := by
  apply List.ext_getElem?
  intro i
  simp
  cases l[i]? <;> simp
theorem lc_enm {F : Nat → Int → Int} (l : List Int) (h : ∀ (i : Nat) x, l[i]? = some x → f (.tup [.int i, .int x]) st = .ok (some (.int (F i x))) st) : lcLoop f ((l.map D.int).mapIdx fun i d => .tup [.int i, d]) [] st = .ok ((l.mapIdx F).map D.int) st := by
  rw [enm_ints, lc_mapL (F := fun p => .int (F p.1 p.2))]
  · rw [List.reverse_nil, List.nil_append]
    congr 1
    apply List.ext_getElem?
    intro i
    simp
    cases l[i]? <;> simp
  · intro p hp
    obtain ⟨i, hi⟩ := List.getElem?_of_mem hp
    rw [List.getElem?_mapIdx] at hi
    obtain ⟨x, hx, rfl⟩ := Option.map_eq_some_iff.mp hi
    exact h i x hx
end
/-! ### equality, in -/
theorem pl_it (l : List Int) : (it l).pl = true := by
  rw [D.pl]; exact pls_of fun d hd => by obtain ⟨x, _, rfl⟩ := List.mem_map.mp hd; rfl
theorem dep_it (l : List Int) : (it l).dep = 1 := by
  rw [D.dep]
  have := deps_of (n := 0) (ds := l.map D.int) fun d hd => by obtain ⟨x, _, rfl⟩ := List.mem_map.mp hd; exact Nat.le_refl _
  omega
theorem pls_ints (l : List Int) : D.pls (l.map .int) = true := by have := pl_it l; rwa [D.pl] at this
theorem okD_it (l : List Int) : okD (it l) = true := okD_of (pl_it l) (by rw [dep_it]; omega)
theorem okD_il (l : List Int) : okD (il l) = true := okD_of (show D.pl (.lst (l.map .int)) = true by rw [D.pl]; exact pls_ints l) (show D.dep (.lst (l.map .int)) ≤ 60 by
  rw [D.dep]
  have := deps_of (n := 0) (ds := l.map D.int) fun d hd => by obtain ⟨x, _, rfl⟩ := List.mem_map.mp hd; exact Nat.le_refl _
  omega)
theorem eqvAll_ints : ∀ a b : List Int, PyData.eqvAll (D.pys (a.map .int)) (D.pys (b.map .int)) = decide (a = b)
  | [], [] => rfl
  | [], _ :: _ => rfl
  | _ :: _, [] => rfl
  | x :: a, y :: b => by
    rw [List.map_cons, List.map_cons, D.pys, D.pys, PyData.eqvAll, eqvAll_ints a b]
    have := eqv_int x y
    unfold eqv at this
    rw [this, Bool.eq_iff_iff]
    simp
theorem eqv_it (a b : List Int) : eqv (it a) (it b) = decide (a = b) := by
  simp only [eqv, D.py, PyData.eqv]
  exact eqvAll_ints a b
theorem eqv_il (a b : List Int) : eqv (il a) (il b) = decide (a = b) := by
  simp only [eqv, D.py, PyData.eqv]
  exact eqvAll_ints a b
section
variable {st : Store}
theorem cmp_eq_it (a b : List Int) : evCmp st .eq (it a) (it b) = some (decide (a = b)) := by
  simp only [evCmp, deref_tup', okD_it, Bool.and_self, if_true, eqv_it]
theorem cmp_ne_it (a b : List Int) : evCmp st .ne (it a) (it b) = some (!decide (a = b)) := by
  simp only [evCmp, deref_tup', okD_it, Bool.and_self, if_true, eqv_it]
theorem any_ints (x : Int) : ∀ l : List Int, ((l.map D.int).any fun z => eqv z (.int x)) = decide (x ∈ l)
  | [] => by simp
  | y :: l => by
    rw [List.map_cons, List.any_cons, any_ints x l, eqv_int, Bool.eq_iff_iff, Bool.or_eq_true, decide_eq_true_eq, decide_eq_true_eq, decide_eq_true_eq, List.mem_cons]
    constructor
    · rintro (h | h)
      · exact .inl h.symm
      · exact .inr h
    · rintro (h | h)
      · exact .inl h.symm
      · exact .inr h
theorem in_it (x : Int) (l : List Int) : evIn st (.int x) (it l) = some (decide (x ∈ l)) := by
  have h := okD_il l
  simp only [evIn, seqOf_tup, okD_int, h, Bool.and_self, if_true]
  rw [any_ints]
theorem in_il (x : Int) (l : List Int) : evIn st (.int x) (il l) = some (decide (x ∈ l)) := by
  have h := okD_il l
  simp only [evIn, seqOf_lst, okD_int, h, Bool.and_self, if_true]
  rw [any_ints]
theorem cmp_in_it (x : Int) (l : List Int) : evCmp st .isIn (.int x) (it l) = some (decide (x ∈ l)) := in_it (st := st) x l
theorem cmp_in_il (x : Int) (l : List Int) : evCmp st .isIn (.int x) (il l) = some (decide (x ∈ l)) := in_il (st := st) x l
theorem get_it {l : List Int} {k : Int} (h0 : 0 ≤ k) (h1 : k < l.length) : l[k.toNat]? = some (l.getD k.toNat 0) := by
  have : k.toNat < l.length := by omega
  simp [this]
end
/-! ### what a def leaves over -/
theorem junk_top {sub : Nat → Nat → Bool} {fu n k : Nat} {b : Ss} {r : List (Nat × Ss)} {as : List D} {st st' junk : Store} {d : D} (hk : k = r.length) (h : evDef (cfL sub fu r) sub fu n b as st = .ok d (st' ++ junk)) (hl : st'.length = st.length) (hd : d.und st.length = true) (hs : stUnd st' = true) : cfL sub fu ((n, b) :: r) k as st = .ok d st' := by
  subst hk
  rw [cfL_top, h]
  exact trim_junk hl hd hs
theorem exc_top {sub : Nat → Nat → Bool} {fu n k c : Nat} {fs : List D} {b : Ss} {r : List (Nat × Ss)} {as : List D} {st : Store} (hk : k = r.length) (h : evDef (cfL sub fu r) sub fu n b as st = .exc c fs st) : cfL sub fu ((n, b) :: r) k as st = .exc c fs st := by
  subst hk
  rw [cfL_top, h]
  exact trim_exc rfl
theorem set_last {α : Type} (l : List α) (x y : α) : (l ++ [x]).set l.length y = l ++ [y] := by
  rw [List.set_append_right _ _ (Nat.le_refl _), Nat.sub_self]; rfl
theorem get_last {α : Type} (l : List α) (x : α) : (l ++ [x])[l.length]? = some x := by simp
theorem cmp_ne_nil_t {st : Store} {xs : List D} (h : okD (.tup xs) = true) : evCmp st .ne (.tup xs) (.tup []) = some (!xs.isEmpty) := by
  have h2 : okD (.tup []) = true := by decide +kernel
  simp only [evCmp, deref_tup', h, h2, Bool.and_self, if_true]
  congr 1
  cases xs <;> simp [eqv, D.py, D.pys, PyData.eqv, PyData.eqvAll]
theorem cmp_eq_nil_t {st : Store} {xs : List D} (h : okD (.tup xs) = true) : evCmp st .eq (.tup xs) (.tup []) = some xs.isEmpty := by
  have h2 : okD (.tup []) = true := by decide +kernel
  simp only [evCmp, deref_tup', h, h2, Bool.and_self, if_true]
  congr 1
  cases xs <;> simp [eqv, D.py, D.pys, PyData.eqv, PyData.eqvAll]
theorem cmp_ne_nil_l {st : Store} {xs : List D} (h : okD (.lst xs) = true) : evCmp st .ne (.lst xs) (.lst []) = some (!xs.isEmpty) := by
  have h2 : okD (.lst []) = true := by decide +kernel
  have e1 : deref st (.lst xs) = .lst xs := rfl
  have e2 : deref st (.lst []) = .lst [] := rfl
  simp only [evCmp, e1, e2, h, h2, Bool.and_self, if_true]
  congr 1
  cases xs <;> simp [eqv, D.py, D.pys, PyData.eqv, PyData.eqvAll]
theorem cmp_eq_nil_l {st : Store} {xs : List D} (h : okD (.lst xs) = true) : evCmp st .eq (.lst xs) (.lst []) = some xs.isEmpty := by
  have h2 : okD (.lst []) = true := by decide +kernel
  have e1 : deref st (.lst xs) = .lst xs := rfl
  have e2 : deref st (.lst []) = .lst [] := rfl
  simp only [evCmp, e1, e2, h, h2, Bool.and_self, if_true]
  congr 1
  cases xs <;> simp [eqv, D.py, D.pys, PyData.eqv, PyData.eqvAll]
/-- the same plain data -/
theorem eqv_self {d : D} (h : d.pl = true) : eqv d d = true := eqv_refl _ (good_lay d (D.pl_good d h))
theorem pls_append : ∀ {a b : List D}, D.pls (a ++ b) = (D.pls a && D.pls b)
  | [], b => rfl
  | x :: a, b => by rw [List.cons_append, D.pls, pls_append, D.pls, Bool.and_assoc]
theorem deps_append : ∀ {a b : List D}, D.deps (a ++ b) = max (D.deps a) (D.deps b)
  | [], b => by simp [D.deps]
  | x :: a, b => by rw [List.cons_append, D.deps, deps_append, D.deps]; omega
mutual
theorem D.und_mono {n m : Nat} (hn : n ≤ m) : ∀ d : D, d.und n = true → d.und m = true
  | .non, _ => rfl
  | .bl _, _ => rfl
  | .int _, _ => rfl
  | .str _, _ => rfl
  | .fn _, _ => rfl
  | .tup ds, h => by rw [D.und] at h ⊢; exact D.unds_mono hn ds h
  | .lst ds, h => by rw [D.und] at h ⊢; exact D.unds_mono hn ds h
  | .rol ds, h => by rw [D.und] at h ⊢; exact D.unds_mono hn ds h
  | .dct _ _, h => by rw [D.und] at h; cases h
  | .loc l, h => by rw [D.und, decide_eq_true_eq] at h ⊢; omega
theorem D.unds_mono {n m : Nat} (hn : n ≤ m) : ∀ ds : List D, D.unds n ds = true → D.unds m ds = true
  | [], _ => rfl
  | d :: ds, h => by
    rw [D.unds, Bool.and_eq_true] at h ⊢
    exact ⟨D.und_mono hn d h.1, D.unds_mono hn ds h.2⟩
end
theorem O.und_mono {n m : Nat} (hn : n ≤ m) {o : O} (h : o.und n = true) : o.und m = true := by
  cases o with
  | lst ds => rw [O.und] at h ⊢; exact D.unds_mono hn ds h
  | dct t kvs =>
    rw [O.und, List.all_eq_true] at h ⊢
    intro p hp
    have := h p hp
    rw [Bool.and_eq_true] at this ⊢
    exact ⟨D.und_mono hn _ this.1, D.und_mono hn _ this.2⟩
  | gone => rfl
theorem stUnd_push {st : Store} {o : O} (h : stUnd st = true) (ho : o.und (st.length + 1) = true) : stUnd (st ++ [o]) = true := by
  unfold stUnd at h ⊢
  rw [List.all_eq_true] at h ⊢
  intro x hx
  rw [List.length_append, List.length_singleton]
  rcases List.mem_append.mp hx with z | z
  · exact O.und_mono (Nat.le_succ _) (h x z)
  · rw [List.mem_singleton.mp z]; exact ho
mutual
theorem und_pl {n : Nat} : ∀ d : D, d.pl = true → d.und n = true
  | .non, _ => rfl
  | .bl _, _ => rfl
  | .int _, _ => rfl
  | .str _, _ => rfl
  | .fn _, h => by simp [D.pl] at h
  | .tup ds, h => by rw [D.pl] at h; rw [D.und]; exact unds_pls ds h
  | .lst ds, h => by rw [D.pl] at h; rw [D.und]; exact unds_pls ds h
  | .rol ds, h => by simp [D.pl] at h
  | .dct _ _, h => by simp [D.pl] at h
  | .loc l, h => by simp [D.pl] at h
theorem unds_pls {n : Nat} : ∀ ds : List D, D.pls ds = true → D.unds n ds = true
  | [], _ => rfl
  | d :: ds, h => by
    rw [D.pls, Bool.and_eq_true] at h
    rw [D.unds, und_pl d h.1, unds_pls ds h.2]; rfl
end
section
variable {st : Store}
theorem eqv_same {d : D} (h : okD d = true) : eqv d d = true := eqv_refl _ (good_lay d (okD_shaped h).1)
theorem cmp_eq_same_t {xs : List D} (h : okD (.tup xs) = true) : evCmp st .eq (.tup xs) (.tup xs) = some true := by
  have e1 : deref st (.tup xs) = .tup xs := rfl
  simp only [evCmp, e1, h, Bool.and_self, if_true, eqv_same h]
theorem cmp_ne_same_t {xs : List D} (h : okD (.tup xs) = true) : evCmp st .ne (.tup xs) (.tup xs) = some false := by
  have e1 : deref st (.tup xs) = .tup xs := rfl
  simp only [evCmp, e1, h, Bool.and_self, if_true, eqv_same h]; rfl
theorem cmp_eq_same_l {xs : List D} (h : okD (.lst xs) = true) : evCmp st .eq (.lst xs) (.lst xs) = some true := by
  have e1 : deref st (.lst xs) = .lst xs := rfl
  simp only [evCmp, e1, h, Bool.and_self, if_true, eqv_same h]
theorem cmp_ne_same_l {xs : List D} (h : okD (.lst xs) = true) : evCmp st .ne (.lst xs) (.lst xs) = some false := by
  have e1 : deref st (.lst xs) = .lst xs := rfl
  simp only [evCmp, e1, h, Bool.and_self, if_true, eqv_same h]; rfl
end
/-! ### loops, turn by turn -/
def RS.loop (r : RS) (k : Sl → Store → RS) : RS := match r with
  | .nx σ st => k σ st
  | .ct σ st => k σ st
  | .bk σ st => .nx σ st
  | r => r
@[simp] theorem RS.loop_nx (σ : Sl) (st : Store) (k : Sl → Store → RS) : (RS.nx σ st).loop k = k σ st := rfl
@[simp] theorem RS.loop_ct (σ : Sl) (st : Store) (k : Sl → Store → RS) : (RS.ct σ st).loop k = k σ st := rfl
@[simp] theorem RS.loop_bk (σ : Sl) (st : Store) (k : Sl → Store → RS) : (RS.bk σ st).loop k = .nx σ st := rfl
@[simp] theorem RS.loop_rt (d : D) (st : Store) (k : Sl → Store → RS) : (RS.rt d st).loop k = .rt d st := rfl
@[simp] theorem RS.loop_exc (c : Nat) (fs : List D) (σ : Sl) (st : Store) (k : Sl → Store → RS) : (RS.exc c fs σ st).loop k = .exc c fs σ st := rfl
@[simp] theorem forLoop_nil (f : D → Sl → Store → RS) (σ : Sl) (st : Store) : forLoop f [] σ st = .nx σ st := by rw [forLoop]
@[simp] theorem forLoop_cons (f : D → Sl → Store → RS) (d : D) (ds : List D) (σ : Sl) (st : Store) : forLoop f (d :: ds) σ st = (f d σ st).loop (forLoop f ds) := by
  rw [forLoop]
  cases f d σ st <;> rfl
theorem ite_top {q : Prop} [Decidable q] {sub : Nat → Nat → Bool} {fu n k c : Nat} {fs : List D} {b : Ss} {r : List (Nat × Ss)} {as : List D} {st : Store} {d : D} (hk : k = r.length) (h : evDef (cfL sub fu r) sub fu n b as st = if q then .ok d st else .exc c fs st) : cfL sub fu ((n, b) :: r) k as st = if q then .ok d st else .exc c fs st := by
  by_cases z : q
  · rw [if_pos z] at h ⊢; exact pure_top hk h
  · rw [if_neg z] at h ⊢; exact exc_top hk h
/-! nested tuples of ints: one == another -/
mutual
theorem beq_self : ∀ d : D, d.nk = true → D.beq d d = true
  | .int i, _ => by simp [D.beq]
  | .tup ds, h => by rw [D.nk] at h; rw [D.beq]; exact beqs_self ds h
  | .non, h | .bl _, h | .str _, h | .lst _, h | .rol _, h | .dct _ _, h | .loc _, h | .fn _, h => by simp [D.nk] at h
theorem beqs_self : ∀ ds : List D, D.nks ds = true → D.beqs ds ds = true
  | [], _ => rfl
  | d :: ds, h => by
    rw [D.nks, Bool.and_eq_true] at h
    rw [D.beqs, beq_self d h.1, beqs_self ds h.2]; rfl
end
theorem nks_ints (l : List Int) : D.nks (l.map .int) = true := by
  induction l with
  | nil => rfl
  | cons x l ih => rw [List.map_cons, D.nks, ih]; rfl
theorem cmp_in_lst {st : Store} {l : Nat} {ds : List D} {a : D} (h : st[l]? = some (.lst ds)) (ha : okD a = true) (hd : okD (.lst ds) = true) : evCmp st .isIn a (.loc l) = some (ds.any fun z => eqv z a) := by
  simp only [evCmp, evIn, seqOf, deref, h, ha, hd, Bool.and_self, if_true]
theorem cmp_nin_lst {st : Store} {l : Nat} {ds : List D} {a : D} (h : st[l]? = some (.lst ds)) (ha : okD a = true) (hd : okD (.lst ds) = true) : evCmp st .notIn a (.loc l) = some (!ds.any fun z => eqv z a) := by
  simp only [evCmp, evIn, seqOf, deref, h, ha, hd, Bool.and_self, if_true, Option.map_some]
end EV
namespace LawT
open PySem PySem.Spec PyProof.Rows L2 EV
def topS (i : Nat) : Stmt := PySem.Challenge.pw_falsewish_k12_gifts_that_were_seen.main.body.getD i (.Pass ⟨0, 0, 0, 0⟩)
abbrev n_is_from : List Str := [("value" : Str), ("low" : Str), ("high" : Str)]
abbrev p_is_from : List Str := [("value" : Str), ("low" : Str), ("high" : Str)]
def b_is_from : Ss := (.cons (.ret (.bop true (.cons (.isi (.var 0) .int) (.cons (.not (.isi (.var 0) .bool)) (.cons (.chn .le .le (.var 1) (.var 0) (.var 2)) .nil))))) .nil)
abbrev n_is_tuple : List Str := [("value" : Str), ("low" : Str), ("high" : Str)]
abbrev p_is_tuple : List Str := [("value" : Str), ("low" : Str), ("high" : Str)]
def b_is_tuple : Ss := (.cons (.ret (.bop true (.cons (.isi (.var 0) .tuple) (.cons (.chn .le .le (.var 1) (.blt .len (.cons (.var 0) .nil)) (.var 2)) .nil)))) .nil)
abbrev n_is_rule : List Str := [("value" : Str), ("low" : Str), ("high" : Str)]
abbrev p_is_rule : List Str := [("value" : Str)]
def b_is_rule : Ss := (.cons (.ite (.bop false (.cons (.not (.call 1 (.cons (.var 0) (.cons (.con (.int 3)) (.cons (.con (.int 3)) .nil))))) (.cons (.not (.isi (.idx (.var 0) (.con (.int 0))) .str)) (.cons (.cmp .notIn (.idx (.var 0) (.con (.int 0))) (.con (.tup [.str "first", .str "points", .str "turns"]))) .nil)))) (.cons (.ret (.con (.bl false))) .nil) .nil) (.cons (.asg (.tup (.cons (.name 1) (.cons (.name 2) .nil))) (.ife (.cmp .eq (.idx (.var 0) (.con (.int 0))) (.con (.str "points"))) (.tup (.cons (.con (.int 1)) (.cons (.con (.int 3)) .nil))) (.tup (.cons (.con (.int 0)) (.cons (.con (.int 0)) .nil))))) (.cons (.ret (.bop true (.cons (.call 0 (.cons (.idx (.var 0) (.con (.int 1))) (.cons (.var 1) (.cons (.var 2) .nil)))) (.cons (.call 0 (.cons (.idx (.var 0) (.con (.int 2))) (.cons (.con (.int 0)) (.cons (.con (.int 3)) .nil)))) .nil)))) .nil)))
abbrev n_has_house : List Str := [("value" : Str), ("share" : Str)]
abbrev p_has_house : List Str := [("value" : Str)]
def b_has_house : Ss := (.cons (.ite (.bop false (.cons (.not (.call 1 (.cons (.var 0) (.cons (.con (.int 2)) (.cons (.con (.int 2)) .nil))))) (.cons (.not (.call 1 (.cons (.idx (.var 0) (.con (.int 0))) (.cons (.con (.int 2)) (.cons (.con (.int 3)) .nil))))) .nil))) (.cons (.ret (.con (.bl false))) .nil) .nil) (.cons (.ret (.bop true (.cons (.blt .all (.cons (.lc false (.call 0 (.cons (.var 1) (.cons (.con (.int 1)) (.cons (.con (.int 3)) .nil)))) (.name 1) (.val (.idx (.var 0) (.con (.int 0)))) .none [1]) .nil)) (.cons (.call 2 (.cons (.idx (.var 0) (.con (.int 1))) .nil)) .nil)))) .nil))
abbrev n_need_house : List Str := [("value" : Str)]
abbrev p_need_house : List Str := [("value" : Str)]
def b_need_house : Ss := (.cons (.ite (.not (.call 3 (.cons (.var 0) .nil))) (.cons (.rse 0) .nil) .nil) .nil)
abbrev n_all_wishes : List Str := [("house" : Str), ("found" : Str), ("person" : Str), ("wish" : Str)]
abbrev p_all_wishes : List Str := [("house" : Str)]
def x_all_wishes_0 : X := (.bin .add (.var 3) (.tup (.cons (.var 2) .nil)))
def b_all_wishes_f0 : Ss := (.cons (.asg (.name 1) (.bin .add (.var 1) (.lc false x_all_wishes_0 (.name 3) (.val (.var 1)) .none [3]))) .nil)
def b_all_wishes : Ss := (.cons (.asg (.name 1) (.lst false (.cons (.tup .nil) .nil))) (.cons (.for (.name 2) (.rng (.blt .len (.cons (.idx (.var 0) (.con (.int 0))) .nil))) b_all_wishes_f0) (.cons (.ret (.blt .sortedT (.cons (.var 1) .nil))) .nil)))
abbrev n_first_standing : List Str := [("house" : Str), ("many" : Str), ("kind" : Str)]
abbrev p_first_standing : List Str := [("house" : Str)]
def b_first_standing : Ss := (.cons (.asg (.name 1) (.blt .len (.cons (.idx (.var 0) (.con (.int 0))) .nil))) (.cons (.asg (.name 2) (.idx (.idx (.var 0) (.con (.int 1))) (.con (.int 0)))) (.cons (.ite (.cmp .eq (.var 2) (.con (.str "turns"))) (.cons (.ret (.tup (.cons (.trg (.var 1)) (.cons (.tup .nil) .nil)))) .nil) .nil) (.cons (.ret (.tup (.cons (.ife (.cmp .eq (.var 2) (.con (.str "points"))) (.bin .mul (.tup (.cons (.con (.int 0)) .nil)) (.var 1)) (.tup .nil)) (.cons (.tup .nil) .nil)))) .nil))))
abbrev n_who_may : List Str := [("house" : Str), ("run" : Str), ("wish" : Str), ("most" : Str), ("person" : Str)]
abbrev p_who_may : List Str := [("house" : Str), ("run" : Str), ("wish" : Str)]
def b_who_may : Ss := (.cons (.asg (.name 3) (.idx (.idx (.var 0) (.con (.int 1))) (.con (.int 2)))) (.cons (.ite (.bop true (.cons (.cmp .gt (.var 3) (.con (.int 0))) (.cons (.cmp .ne (.var 1) (.tup .nil)) (.cons (.cmp .eq (.idx (.var 1) (.con (.int 1))) (.var 3)) (.cons (.cmp .ne (.var 2) (.tup (.cons (.idx (.var 1) (.con (.int 0))) .nil))) .nil))))) (.cons (.ret (.blt .tuple (.cons (.lc false (.var 4) (.name 4) (.val (.var 2)) (.some (.cmp .ne (.var 4) (.idx (.var 1) (.con (.int 0))))) [4]) .nil))) .nil) .nil) (.cons (.ret (.var 2)) .nil)))
abbrev n_with_dues : List Str := [("house" : Str), ("points" : Str), ("wish" : Str), ("person" : Str), ("old" : Str)]
abbrev p_with_dues : List Str := [("house" : Str), ("points" : Str), ("wish" : Str)]
def b_with_dues : Ss := (.cons (.ret (.blt .tuple (.cons (.lc false (.bin .add (.var 4) (.ife (.cmp .isIn (.var 3) (.var 2)) (.idx (.idx (.var 0) (.con (.int 0))) (.var 3)) (.con (.int 0)))) (.tup (.cons (.name 3) (.cons (.name 4) .nil))) (.enm (.var 1)) .none [3, 4]) .nil))) .nil)
abbrev n_sum_of : List Str := [("house" : Str), ("wish" : Str), ("person" : Str)]
abbrev p_sum_of : List Str := [("house" : Str), ("wish" : Str)]
def b_sum_of : Ss := (.cons (.ret (.blt .sum (.cons (.lc false (.idx (.idx (.var 0) (.con (.int 0))) (.var 2)) (.name 2) (.val (.var 1)) .none [2]) .nil))) .nil)
abbrev n_cut_off : List Str := [("number" : Str), ("mark" : Str)]
abbrev p_cut_off : List Str := [("number" : Str), ("mark" : Str)]
def b_cut_off : Ss := (.cons (.ret (.blt .max2 (.cons (.neg (.var 1)) (.cons (.blt .min2 (.cons (.var 1) (.cons (.var 0) .nil))) .nil)))) .nil)
abbrev n_picked : List Str := [("house" : Str), ("book" : Str), ("may" : Str), ("wish" : Str), ("kind" : Str), ("person" : Str), ("points" : Str), ("most" : Str)]
abbrev p_picked : List Str := [("house" : Str), ("book" : Str), ("may" : Str), ("wish" : Str)]
def b_picked : Ss := (.cons (.asg (.name 4) (.idx (.idx (.var 0) (.con (.int 1))) (.con (.int 0)))) (.cons (.ite (.cmp .eq (.var 4) (.con (.str "turns"))) (.cons (.ret (.idx (.lc false (.var 5) (.name 5) (.val (.var 1)) (.some (.cmp .isIn (.var 5) (.var 2))) [5]) (.con (.int 0)))) .nil) .nil) (.cons (.ite (.cmp .eq (.var 4) (.con (.str "first"))) (.cons (.ret (.idx (.var 2) (.con (.int 0)))) .nil) .nil) (.cons (.asg (.name 6) (.call 8 (.cons (.var 0) (.cons (.var 1) (.cons (.var 3) .nil))))) (.cons (.asg (.name 7) (.blt .max1 (.cons (.lc false (.idx (.var 6) (.var 5)) (.name 5) (.val (.var 2)) .none [5]) .nil))) (.cons (.ret (.idx (.lc false (.var 5) (.name 5) (.val (.var 2)) (.some (.cmp .eq (.idx (.var 6) (.var 5)) (.var 7))) [5]) (.con (.int 0)))) .nil))))))
abbrev n_book_behind : List Str := [("house" : Str), ("book" : Str), ("wish" : Str), ("given" : Str), ("kind" : Str), ("mark" : Str), ("most" : Str), ("person" : Str), ("points" : Str), ("less" : Str), ("old" : Str)]
abbrev p_book_behind : List Str := [("house" : Str), ("book" : Str), ("wish" : Str), ("given" : Str)]
def b_book_behind : Ss := (.cons (.asg (.tup (.cons (.name 4) (.cons (.name 5) (.cons (.name 6) .nil)))) (.idx (.var 0) (.con (.int 1)))) (.cons (.ite (.cmp .eq (.var 4) (.con (.str "turns"))) (.cons (.ret (.bin .add (.blt .tuple (.cons (.lc false (.var 7) (.name 7) (.val (.var 1)) (.some (.cmp .ne (.var 7) (.var 3))) [7]) .nil)) (.tup (.cons (.var 3) .nil)))) .nil) .nil) (.cons (.ite (.cmp .eq (.var 4) (.con (.str "first"))) (.cons (.ret (.var 1)) .nil) .nil) (.cons (.asg (.name 8) (.call 8 (.cons (.var 0) (.cons (.var 1) (.cons (.var 2) .nil))))) (.cons (.asg (.name 9) (.call 9 (.cons (.var 0) (.cons (.var 2) .nil)))) (.cons (.ret (.blt .tuple (.cons (.lc false (.call 10 (.cons (.bin .sub (.var 10) (.ife (.cmp .eq (.var 7) (.var 3)) (.var 9) (.con (.int 0)))) (.cons (.var 5) .nil))) (.tup (.cons (.name 7) (.cons (.name 10) .nil))) (.enm (.var 8)) .none [7, 10]) .nil))) .nil))))))
abbrev n_run_behind : List Str := [("house" : Str), ("run" : Str), ("given" : Str), ("most" : Str)]
abbrev p_run_behind : List Str := [("house" : Str), ("run" : Str), ("given" : Str)]
def b_run_behind : Ss := (.cons (.asg (.name 3) (.idx (.idx (.var 0) (.con (.int 1))) (.con (.int 2)))) (.cons (.ite (.cmp .eq (.var 3) (.con (.int 0))) (.cons (.ret (.tup .nil)) .nil) .nil) (.cons (.ret (.ife (.bop true (.cons (.cmp .ne (.var 1) (.tup .nil)) (.cons (.cmp .eq (.idx (.var 1) (.con (.int 0))) (.var 2)) .nil))) (.tup (.cons (.var 2) (.cons (.blt .min2 (.cons (.var 3) (.cons (.bin .add (.idx (.var 1) (.con (.int 1))) (.con (.int 1))) .nil))) .nil))) (.tup (.cons (.var 2) (.cons (.con (.int 1)) .nil))))) .nil)))
abbrev n_day_behind : List Str := [("house" : Str), ("standing" : Str), ("wish" : Str), ("book" : Str), ("run" : Str), ("given" : Str)]
abbrev p_day_behind : List Str := [("house" : Str), ("standing" : Str), ("wish" : Str)]
def b_day_behind : Ss := (.cons (.ite (.cmp .eq (.var 2) (.tup .nil)) (.cons (.ret (.tup (.cons (.var 1) (.cons (.con (.non)) .nil)))) .nil) .nil) (.cons (.asg (.tup (.cons (.name 3) (.cons (.name 4) .nil))) (.var 1)) (.cons (.asg (.name 5) (.call 11 (.cons (.var 0) (.cons (.var 3) (.cons (.call 7 (.cons (.var 0) (.cons (.var 4) (.cons (.var 2) .nil)))) (.cons (.var 2) .nil)))))) (.cons (.ret (.tup (.cons (.tup (.cons (.call 12 (.cons (.var 0) (.cons (.var 3) (.cons (.var 2) (.cons (.var 5) .nil))))) (.cons (.call 13 (.cons (.var 0) (.cons (.var 4) (.cons (.var 5) .nil)))) .nil))) (.cons (.var 5) .nil)))) .nil))))
abbrev n_need_seen : List Str := [("house" : Str), ("value" : Str), ("many" : Str), ("given" : Str)]
abbrev p_need_seen : List Str := [("house" : Str), ("value" : Str)]
def x_need_seen_0 : X := (.bop false (.cons (.cmp .isN (.var 3) (.con (.non))) (.cons (.call 0 (.cons (.var 3) (.cons (.con (.int 0)) (.cons (.bin .sub (.var 2) (.con (.int 1))) .nil)))) .nil)))
def b_need_seen : Ss := (.cons (.asg (.name 2) (.blt .len (.cons (.idx (.var 0) (.con (.int 0))) .nil))) (.cons (.ite (.bop false (.cons (.not (.call 1 (.cons (.var 1) (.cons (.con (.int 0)) (.cons (.con (.int 12)) .nil))))) (.cons (.not (.blt .all (.cons (.lc false x_need_seen_0 (.name 3) (.val (.var 1)) .none [3]) .nil))) .nil))) (.cons (.rse 1) .nil) .nil) .nil))
abbrev n_fitting : List Str := [("house" : Str), ("seen" : Str), ("found" : Str), ("given" : Str), ("later" : Str), ("standing" : Str), ("wish" : Str), ("there" : Str), ("got" : Str)]
abbrev p_fitting : List Str := [("house" : Str), ("seen" : Str)]
def b_fitting_f2 : Ss := (.cons (.asg (.tup (.cons (.name 7) (.cons (.name 8) .nil))) (.call 14 (.cons (.var 0) (.cons (.var 5) (.cons (.var 6) .nil))))) (.cons (.ite (.bop true (.cons (.cmp .eq (.var 8) (.var 3)) (.cons (.cmp .notIn (.var 7) (.var 4)) .nil))) (.cons (.app (.var 4) (.var 7)) .nil) .nil) .nil))
def b_fitting_f1 : Ss := (.cons (.for (.name 6) (.val (.call 5 (.cons (.var 0) .nil))) b_fitting_f2) .nil)
def b_fitting_f0 : Ss := (.cons (.asg (.name 4) (.lst true .nil)) (.cons (.for (.name 5) (.val (.idx (.var 2) (.neg (.con (.int 1))))) b_fitting_f1) (.cons (.frzv 4) (.cons (.app (.var 2) (.var 4)) .nil))))
def b_fitting : Ss := (.cons (.asg (.name 2) (.lst true (.cons (.lst false (.cons (.call 6 (.cons (.var 0) .nil)) .nil)) .nil))) (.cons (.for (.name 3) (.val (.var 1)) b_fitting_f0) (.cons (.frzv 2) (.cons (.ret (.var 2)) .nil))))
abbrev n_standings_told : List Str := [("house" : Str), ("seen" : Str)]
abbrev p_standings_told : List Str := [("house" : Str), ("seen" : Str)]
def b_standings_told : Ss := (.cons (.ex (.call 4 (.cons (.var 0) .nil))) (.cons (.ex (.call 15 (.cons (.var 0) (.cons (.var 1) .nil)))) (.cons (.ret (.blt .sortedN (.cons (.idx (.call 16 (.cons (.var 0) (.cons (.var 1) .nil))) (.neg (.con (.int 1)))) .nil))) .nil)))
abbrev n_can_follow : List Str := [("house" : Str), ("standing" : Str), ("seen" : Str), ("some" : Str), ("given" : Str), ("later" : Str), ("here" : Str), ("wish" : Str), ("there" : Str), ("got" : Str)]
abbrev p_can_follow : List Str := [("house" : Str), ("standing" : Str), ("seen" : Str)]
def b_can_follow_f2 : Ss := (.cons (.asg (.tup (.cons (.name 8) (.cons (.name 9) .nil))) (.call 14 (.cons (.var 0) (.cons (.var 6) (.cons (.var 7) .nil))))) (.cons (.ite (.bop true (.cons (.cmp .eq (.var 9) (.var 4)) (.cons (.cmp .notIn (.var 8) (.var 5)) .nil))) (.cons (.app (.var 5) (.var 8)) .nil) .nil) .nil))
def b_can_follow_f1 : Ss := (.cons (.for (.name 7) (.val (.call 5 (.cons (.var 0) .nil))) b_can_follow_f2) .nil)
def b_can_follow_f0 : Ss := (.cons (.asg (.name 5) (.lst true .nil)) (.cons (.for (.name 6) (.val (.var 3)) b_can_follow_f1) (.cons (.frzv 5) (.cons (.asg (.name 3) (.var 5)) .nil))))
def b_can_follow : Ss := (.cons (.asg (.name 3) (.lst false (.cons (.var 1) .nil))) (.cons (.for (.name 4) (.val (.var 2)) b_can_follow_f0) (.cons (.ret (.cmp .ne (.var 3) (.lst false .nil))) .nil)))
abbrev n_wishes_told : List Str := [("house" : Str), ("seen" : Str), ("day" : Str), ("found" : Str), ("standing" : Str), ("wish" : Str), ("there" : Str), ("got" : Str)]
abbrev p_wishes_told : List Str := [("house" : Str), ("seen" : Str), ("day" : Str)]
def b_wishes_told_f1 : Ss := (.cons (.asg (.tup (.cons (.name 6) (.cons (.name 7) .nil))) (.call 14 (.cons (.var 0) (.cons (.var 4) (.cons (.var 5) .nil))))) (.cons (.ite (.bop true (.cons (.cmp .eq (.var 7) (.idx (.var 1) (.var 2))) (.cons (.cmp .notIn (.var 5) (.var 3)) (.cons (.call 18 (.cons (.var 0) (.cons (.var 6) (.cons (.sl (.var 1) (.some (.bin .add (.var 2) (.con (.int 1)))) .none) .nil)))) .nil)))) (.cons (.app (.var 3) (.var 5)) .nil) .nil) .nil))
def b_wishes_told_f0 : Ss := (.cons (.for (.name 5) (.val (.call 5 (.cons (.var 0) .nil))) b_wishes_told_f1) .nil)
def b_wishes_told : Ss := (.cons (.ex (.call 4 (.cons (.var 0) .nil))) (.cons (.ex (.call 15 (.cons (.var 0) (.cons (.var 1) .nil)))) (.cons (.ite (.not (.call 0 (.cons (.var 2) (.cons (.con (.int 0)) (.cons (.bin .sub (.blt .len (.cons (.var 1) .nil)) (.con (.int 1))) .nil))))) (.cons (.rse 2) .nil) .nil) (.cons (.asg (.name 3) (.lst true .nil)) (.cons (.for (.name 4) (.val (.idx (.call 16 (.cons (.var 0) (.cons (.sl (.var 1) .none (.some (.var 2))) .nil))) (.neg (.con (.int 1))))) b_wishes_told_f0) (.cons (.frzv 3) (.cons (.ret (.blt .sortedN (.cons (.var 3) .nil))) .nil)))))))
abbrev n_law_source : List Str := [("script" : Str), ("k" : Str), ("cell" : Str)]
abbrev p_law_source : List Str := [("script" : Str), ("k" : Str)]
def b_law_source : Ss := (.cons (.asg (.name 2) (.ife (.cmp .lt (.var 1) (.blt .len (.cons (.var 0) .nil))) (.blt .abs (.cons (.blt .int (.cons (.idx (.var 0) (.var 1)) .nil)) .nil)) (.bin .add (.bin .mul (.con (.int 89)) (.var 1)) (.con (.int 37))))) (.cons (.ret (.lst true (.cons (.ife (.cmp .gt (.var 2) (.bin .pow (.con (.int 10)) (.con (.int 17)))) (.var 2) (.con (.int 0))) (.cons (.bin .mod (.blt .int (.cons (.bin .add (.bin .add (.bin .mul (.var 2) (.con (.int 16807))) (.bin .mul (.con (.int 9001)) (.var 1))) (.con (.int 61))) .nil)) (.con (.int 2147483249))) .nil)))) .nil))
abbrev n_law_draw : List Str := [("source" : Str), ("many" : Str), ("rest" : Str), ("wide" : Str)]
abbrev p_law_draw : List Str := [("source" : Str), ("many" : Str)]
def b_law_draw : Ss := (.cons (.ite (.cmp .gt (.idx (.var 0) (.con (.int 0))) (.con (.int 0))) (.cons (.asg (.name 2) (.bin .mod (.blt .int (.cons (.idx (.var 0) (.con (.int 0))) .nil)) (.var 1))) (.cons (.sto (.var 0) (.con (.int 0)) (.bin .fdiv (.idx (.var 0) (.con (.int 0))) (.var 1))) (.cons (.ret (.var 2)) .nil))) .nil) (.cons (.sto (.var 0) (.con (.int 1)) (.bin .mod (.blt .int (.cons (.bin .add (.bin .mul (.idx (.var 0) (.con (.int 1))) (.con (.int 48271))) (.con (.int 71))) .nil)) (.con (.int 2147483249)))) (.cons (.asg (.name 3) (.bin .mod (.blt .int (.cons (.bin .mul (.idx (.var 0) (.con (.int 1))) (.bin .add (.bin .fdiv (.idx (.var 0) (.con (.int 1))) (.con (.int 37))) (.con (.int 22)))) .nil)) (.con (.int 2147483179)))) (.cons (.ret (.bin .mod (.blt .int (.cons (.bin .fdiv (.var 3) (.con (.int 32))) .nil)) (.var 1))) .nil))))
abbrev n_law_choice : List Str := [("source" : Str), ("some" : Str)]
abbrev p_law_choice : List Str := [("source" : Str), ("some" : Str)]
def b_law_choice : Ss := (.cons (.ret (.idx (.var 1) (.call 21 (.cons (.var 0) (.cons (.blt .len (.cons (.var 1) .nil)) .nil))))) .nil)
abbrev n_law_house : List Str := [("source" : Str), ("most" : Str), ("people" : Str), ("shares" : Str), ("person" : Str), ("kind" : Str), ("mark" : Str)]
abbrev p_law_house : List Str := [("source" : Str), ("most" : Str)]
def b_law_house : Ss := (.cons (.asg (.name 2) (.bin .add (.con (.int 2)) (.call 21 (.cons (.var 0) (.cons (.bin .sub (.var 1) (.con (.int 1))) .nil))))) (.cons (.asg (.name 3) (.blt .tuple (.cons (.lc false (.bin .add (.con (.int 1)) (.call 21 (.cons (.var 0) (.cons (.con (.int 3)) .nil)))) (.name 4) (.rng (.var 2)) .none [4]) .nil))) (.cons (.asg (.name 5) (.call 22 (.cons (.var 0) (.cons (.lst false (.cons (.con (.str "first")) (.cons (.con (.str "turns")) (.cons (.con (.str "points")) (.cons (.con (.str "points")) .nil))))) .nil)))) (.cons (.asg (.name 6) (.ife (.cmp .eq (.var 5) (.con (.str "points"))) (.bin .add (.con (.int 1)) (.call 21 (.cons (.var 0) (.cons (.ife (.cmp .eq (.var 2) (.con (.int 2))) (.con (.int 3)) (.con (.int 1))) .nil)))) (.con (.int 0)))) (.cons (.ret (.tup (.cons (.var 3) (.cons (.tup (.cons (.var 5) (.cons (.var 6) (.cons (.call 22 (.cons (.var 0) (.cons (.lst false (.cons (.con (.int 0)) (.cons (.con (.int 0)) (.cons (.con (.int 1)) (.cons (.con (.int 2)) .nil))))) .nil))) .nil)))) .nil)))) .nil)))))
abbrev n_law_wishes : List Str := [("house" : Str), ("found" : Str), ("person" : Str), ("wish" : Str)]
abbrev p_law_wishes : List Str := [("house" : Str)]
def b_law_wishes : Ss := (.cons (.asg (.name 1) (.lst false (.cons (.tup .nil) .nil))) (.cons (.for (.name 2) (.rng (.blt .len (.cons (.idx (.var 0) (.con (.int 0))) .nil))) (.cons (.asg (.name 1) (.bin .add (.var 1) (.lc false (.bin .add (.var 3) (.tup (.cons (.var 2) .nil))) (.name 3) (.val (.var 1)) .none [3]))) .nil)) (.cons (.ret (.blt .sortedT (.cons (.var 1) .nil))) .nil)))
abbrev n_law_row : List Str := [("source" : Str), ("house" : Str), ("days" : Str), ("wishes" : Str), ("day" : Str)]
abbrev p_law_row : List Str := [("source" : Str), ("house" : Str), ("days" : Str)]
def b_law_row : Ss := (.cons (.asg (.name 3) (.call 24 (.cons (.var 1) .nil))) (.cons (.ret (.blt .tuple (.cons (.lc false (.call 22 (.cons (.var 0) (.cons (.bin .add (.var 3) (.sl (.var 3) (.some (.neg (.con (.int 2)))) .none)) .nil))) (.name 4) (.rng (.var 2)) .none [4]) .nil))) .nil))
abbrev n_law_first : List Str := [("house" : Str), ("people" : Str), ("person" : Str)]
abbrev p_law_first : List Str := [("house" : Str)]
def b_law_first : Ss := (.cons (.asg (.name 1) (.trg (.blt .len (.cons (.idx (.var 0) (.con (.int 0))) .nil)))) (.cons (.ret (.tup (.cons (.dgt "first" "turns" (.tup .nil) (.var 1) (.idx (.idx (.var 0) (.con (.int 1))) (.con (.int 0))) (.blt .tuple (.cons (.lc false (.con (.int 0)) (.name 2) (.val (.var 1)) .none [2]) .nil))) (.cons (.tup .nil) .nil)))) .nil))
abbrev n_law_whom : List Str := [("house" : Str), ("book" : Str), ("wish" : Str), ("may" : Str), ("kind" : Str), ("mark" : Str), ("most" : Str), ("given" : Str), ("person" : Str), ("points" : Str), ("old" : Str), ("number" : Str)]
abbrev p_law_whom : List Str := [("house" : Str), ("book" : Str), ("wish" : Str), ("may" : Str)]
def b_law_whom : Ss := (.cons (.asg (.tup (.cons (.name 4) (.cons (.name 5) (.cons (.name 6) .nil)))) (.idx (.var 0) (.con (.int 1)))) (.cons (.ite (.cmp .eq (.var 4) (.con (.str "first"))) (.cons (.ret (.tup (.cons (.blt .min1 (.cons (.var 3) .nil)) (.cons (.var 1) .nil)))) .nil) .nil) (.cons (.ite (.cmp .eq (.var 4) (.con (.str "turns"))) (.cons (.asg (.name 7) (.idx (.lc false (.var 8) (.name 8) (.val (.var 1)) (.some (.cmp .isIn (.var 8) (.var 3))) [8]) (.con (.int 0)))) (.cons (.ret (.tup (.cons (.var 7) (.cons (.bin .add (.blt .tuple (.cons (.lc false (.var 8) (.name 8) (.val (.var 1)) (.some (.cmp .ne (.var 8) (.var 7))) [8]) .nil)) (.tup (.cons (.var 7) .nil))) .nil)))) .nil)) .nil) (.cons (.asg (.name 9) (.lc true (.bin .add (.var 10) (.ife (.cmp .isIn (.var 8) (.var 2)) (.idx (.idx (.var 0) (.con (.int 0))) (.var 8)) (.con (.int 0)))) (.tup (.cons (.name 8) (.cons (.name 10) .nil))) (.enm (.var 1)) .none [8, 10])) (.cons (.asg (.name 7) (.idx (.idx (.blt .sortedT (.cons (.lc false (.tup (.cons (.neg (.idx (.var 9) (.var 8))) (.cons (.var 8) .nil))) (.name 8) (.val (.var 3)) .none [8]) .nil)) (.con (.int 0))) (.con (.int 1)))) (.cons (.sto (.var 9) (.var 7) (.bin .sub (.idx (.var 9) (.var 7)) (.blt .sum (.cons (.lc false (.idx (.idx (.var 0) (.con (.int 0))) (.var 8)) (.name 8) (.val (.var 2)) .none [8]) .nil)))) (.cons (.frzv 9) (.cons (.ret (.tup (.cons (.var 7) (.cons (.blt .tuple (.cons (.lc false (.blt .max2 (.cons (.neg (.var 5)) (.cons (.blt .min2 (.cons (.var 5) (.cons (.var 11) .nil))) .nil))) (.name 11) (.val (.var 9)) .none [11]) .nil)) .nil)))) .nil))))))))
abbrev n_law_day : List Str := [("house" : Str), ("standing" : Str), ("wish" : Str), ("book" : Str), ("run" : Str), ("most" : Str), ("may" : Str), ("person" : Str), ("given" : Str), ("later" : Str), ("many" : Str)]
abbrev p_law_day : List Str := [("house" : Str), ("standing" : Str), ("wish" : Str)]
def b_law_day : Ss := (.cons (.ite (.cmp .eq (.var 2) (.tup .nil)) (.cons (.ret (.tup (.cons (.var 1) (.cons (.con (.non)) .nil)))) .nil) .nil) (.cons (.asg (.tup (.cons (.name 3) (.cons (.name 4) .nil))) (.var 1)) (.cons (.asg (.name 5) (.idx (.idx (.var 0) (.con (.int 1))) (.con (.int 2)))) (.cons (.asg (.name 6) (.blt .list (.cons (.var 2) .nil))) (.cons (.ite (.bop true (.cons (.cmp .gt (.var 5) (.con (.int 0))) (.cons (.cmp .ne (.var 4) (.tup .nil)) (.cons (.cmp .ge (.idx (.var 4) (.con (.int 1))) (.var 5)) (.cons (.cmp .gt (.blt .len (.cons (.var 2) .nil)) (.con (.int 1))) .nil))))) (.cons (.asg (.name 6) (.lc false (.var 7) (.name 7) (.val (.var 2)) (.some (.cmp .ne (.var 7) (.idx (.var 4) (.con (.int 0))))) [7])) .nil) .nil) (.cons (.asg (.tup (.cons (.name 8) (.cons (.name 9) .nil))) (.call 27 (.cons (.var 0) (.cons (.var 3) (.cons (.var 2) (.cons (.var 6) .nil)))))) (.cons (.ite (.cmp .eq (.var 5) (.con (.int 0))) (.cons (.ret (.tup (.cons (.tup (.cons (.var 9) (.cons (.tup .nil) .nil))) (.cons (.var 8) .nil)))) .nil) .nil) (.cons (.asg (.name 10) (.bin .add (.con (.int 1)) (.ife (.bop true (.cons (.cmp .ne (.var 4) (.tup .nil)) (.cons (.cmp .eq (.idx (.var 4) (.con (.int 0))) (.var 8)) .nil))) (.idx (.var 4) (.con (.int 1))) (.con (.int 0))))) (.cons (.ret (.tup (.cons (.tup (.cons (.var 9) (.cons (.tup (.cons (.var 8) (.cons (.blt .min2 (.cons (.var 5) (.cons (.var 10) .nil))) .nil))) .nil))) (.cons (.var 8) .nil)))) .nil)))))))))
abbrev n_law_led : List Str := [("house" : Str), ("row" : Str), ("found" : Str), ("standing" : Str), ("wish" : Str), ("given" : Str)]
abbrev p_law_led : List Str := [("house" : Str), ("row" : Str)]
def b_law_led : Ss := (.cons (.asg (.tup (.cons (.name 2) (.cons (.name 3) .nil))) (.tup (.cons (.lst true .nil) (.cons (.call 26 (.cons (.var 0) .nil)) .nil)))) (.cons (.for (.name 4) (.val (.var 1)) (.cons (.asg (.tup (.cons (.name 3) (.cons (.name 5) .nil))) (.call 28 (.cons (.var 0) (.cons (.var 3) (.cons (.var 4) .nil))))) (.cons (.app (.var 2) (.tup (.cons (.var 3) (.cons (.var 5) .nil)))) .nil))) (.cons (.frzv 2) (.cons (.ret (.var 2)) .nil))))
abbrev n_law_fitting : List Str := [("house" : Str), ("seen" : Str), ("found" : Str), ("given" : Str), ("later" : Str), ("row" : Str), ("standing" : Str), ("wish" : Str), ("there" : Str), ("got" : Str)]
abbrev p_law_fitting : List Str := [("house" : Str), ("seen" : Str)]
def b_law_fitting_f2 : Ss := (.cons (.asg (.tup (.cons (.name 8) (.cons (.name 9) .nil))) (.call 28 (.cons (.var 0) (.cons (.var 6) (.cons (.var 7) .nil))))) (.cons (.ite (.cmp .eq (.var 9) (.var 3)) (.cons (.app (.var 4) (.tup (.cons (.bin .add (.var 5) (.tup (.cons (.var 7) .nil))) (.cons (.var 8) .nil)))) .nil) .nil) .nil))
def b_law_fitting_f1 : Ss := (.cons (.for (.name 7) (.val (.call 24 (.cons (.var 0) .nil))) b_law_fitting_f2) .nil)
def b_law_fitting_f0 : Ss := (.cons (.asg (.name 4) (.lst true .nil)) (.cons (.for (.tup (.cons (.name 5) (.cons (.name 6) .nil))) (.val (.var 2)) b_law_fitting_f1) (.cons (.frzv 4) (.cons (.asg (.name 2) (.var 4)) .nil))))
def b_law_fitting : Ss := (.cons (.asg (.name 2) (.lst false (.cons (.tup (.cons (.tup .nil) (.cons (.call 26 (.cons (.var 0) .nil)) .nil))) .nil))) (.cons (.for (.name 3) (.val (.var 1)) b_law_fitting_f0) (.cons (.ret (.var 2)) .nil)))
abbrev n_law_right : List Str := [("house" : Str), ("seen" : Str), ("rows" : Str), ("row" : Str), ("standing" : Str), ("day" : Str)]
abbrev p_law_right : List Str := [("house" : Str), ("seen" : Str)]
def x_law_right_0 : X := (.var 4)
def x_law_right_1 : X := (.idx (.var 3) (.var 5))
def b_law_right_f0 : Ss := (.cons (.ite (.cmp .ne (.call 19 (.cons (.var 0) (.cons (.var 1) (.cons (.var 5) .nil)))) (.srn (.lc false x_law_right_1 (.tup (.cons (.name 3) (.cons (.name 4) .nil))) (.val (.var 2)) .none [3, 4]))) (.cons (.ret (.con (.bl false))) .nil) .nil) .nil)
def b_law_right : Ss := (.cons (.asg (.name 2) (.call 30 (.cons (.var 0) (.cons (.var 1) .nil)))) (.cons (.ite (.cmp .ne (.call 17 (.cons (.var 0) (.cons (.var 1) .nil))) (.srn (.lc false x_law_right_0 (.tup (.cons (.name 3) (.cons (.name 4) .nil))) (.val (.var 2)) .none [3, 4]))) (.cons (.ret (.con (.bl false))) .nil) .nil) (.cons (.for (.name 5) (.rng (.blt .len (.cons (.var 1) .nil))) b_law_right_f0) (.cons (.ret (.con (.bl true))) .nil))))
abbrev n_law : List Str := [("script" : Str), ("k" : Str), ("source" : Str), ("house" : Str), ("turn" : Str), ("row" : Str), ("seen" : Str), ("standing" : Str), ("given" : Str), ("bad" : Str), ("odd" : Str), ("turns" : Str), ("points" : Str), ("late" : Str), ("wide" : Str), ("three" : Str)]
abbrev p_law : List Str := [("script" : Str)]
def x_law_0 : X := (.var 8)
def b_law_f1 : Ss := (.cons (.asg (.name 5) (.call 25 (.cons (.var 2) (.cons (.var 3) (.cons (.call 21 (.cons (.var 2) (.cons (.con (.int 5)) .nil))) .nil))))) (.cons (.asg (.name 6) (.blt .tuple (.cons (.lc false x_law_0 (.tup (.cons (.name 7) (.cons (.name 8) .nil))) (.val (.call 29 (.cons (.var 3) (.cons (.var 5) .nil)))) .none [7, 8]) .nil))) (.cons (.ite (.bop true (.cons (.cmp .ne (.var 6) (.tup .nil)) (.cons (.cmp .eq (.call 21 (.cons (.var 2) (.cons (.con (.int 3)) .nil))) (.con (.int 0))) .nil))) (.cons (.asg (.name 6) (.bin .add (.sl (.var 6) .none (.some (.neg (.con (.int 1))))) (.tup (.cons (.call 22 (.cons (.var 2) (.cons (.lst false (.cons (.con (.non)) (.cons (.con (.int 0)) (.cons (.con (.int 1)) .nil)))) .nil))) .nil)))) .nil) .nil) (.cons (.ite (.not (.call 31 (.cons (.var 3) (.cons (.var 6) .nil)))) (.cons (.ret (.con (.bl false))) .nil) .nil) .nil))))
def b_law_f2 : Ss := (.cons (.ite (.cmp .ne (.tri false (.str "") [(1, .con (.str "seen")), (2, .con (.str "index"))] (.call 17 (.cons (.var 3) (.cons (.var 10) .nil)))) (.con (.str "seen"))) (.cons (.ret (.con (.bl false))) .nil) .nil) (.cons (.ite (.cmp .ne (.tri false (.str "") [(1, .con (.str "seen")), (2, .con (.str "index"))] (.call 19 (.cons (.var 3) (.cons (.var 10) (.cons (.con (.non)) .nil))))) (.con (.str "seen"))) (.cons (.ret (.con (.bl false))) .nil) .nil) .nil))
def b_law_f3 : Ss := (.cons (.ite (.cmp .ne (.tri false (.str "") [(1, .con (.str "seen")), (2, .con (.str "index"))] (.call 19 (.cons (.var 3) (.cons (.tup (.cons (.con (.int 0)) (.cons (.con (.int 1)) .nil))) (.cons (.var 10) .nil))))) (.con (.str "index"))) (.cons (.ret (.con (.bl false))) .nil) .nil) .nil)
def b_law_f0 : Ss := (.cons (.asg (.name 2) (.call 20 (.cons (.var 0) (.cons (.var 1) .nil)))) (.cons (.asg (.name 3) (.call 23 (.cons (.var 2) (.cons (.con (.int 2)) .nil)))) (.cons (.for (.name 4) (.rng (.con (.int 5))) b_law_f1) (.cons (.asg (.name 9) (.lst false (.cons (.con (.non)) (.cons (.lst false .nil) (.cons (.tup (.cons (.con (.int 2)) .nil)) (.cons (.tup (.cons (.neg (.con (.int 1))) .nil)) (.cons (.tup (.cons (.con (.bl true)) .nil)) (.cons (.tup (.cons (.tup (.cons (.con (.int 0)) .nil)) .nil)) (.cons (.con (.str "0")) (.cons (.bin .mul (.tup (.cons (.con (.int 0)) .nil)) (.con (.int 13))) (.cons (.tup (.cons (.con (.int 0)) (.cons (.con (.str "1")) .nil))) .nil))))))))))) (.cons (.for (.name 10) (.val (.var 9)) b_law_f2) (.cons (.for (.name 10) (.val (.lst false (.cons (.con (.non)) (.cons (.neg (.con (.int 1))) (.cons (.con (.int 2)) (.cons (.con (.bl true)) (.cons (.con (.str "0")) .nil))))))) b_law_f3) .nil))))))
def b_law : Ss := (.cons (.for (.name 1) (.rng (.bin .add (.con (.int 1)) (.blt .min2 (.cons (.blt .len (.cons (.var 0) .nil)) (.cons (.con (.int 8)) .nil))))) b_law_f0) (.cons (.asg (.tup (.cons (.name 11) (.cons (.name 12) .nil))) (.tup (.cons (.tup (.cons (.tup (.cons (.con (.int 1)) (.cons (.con (.int 1)) .nil))) (.cons (.tup (.cons (.con (.str "turns")) (.cons (.con (.int 0)) (.cons (.con (.int 0)) .nil)))) .nil))) (.cons (.tup (.cons (.tup (.cons (.con (.int 1)) (.cons (.con (.int 1)) .nil))) (.cons (.tup (.cons (.con (.str "points")) (.cons (.con (.int 1)) (.cons (.con (.int 0)) .nil)))) .nil))) .nil)))) (.cons (.ite (.cmp .ne (.call 17 (.cons (.var 11) (.cons (.tup (.cons (.con (.int 0)) .nil)) .nil))) (.lst false (.cons (.tup (.cons (.tup (.cons (.con (.int 1)) (.cons (.con (.int 0)) .nil))) (.cons (.tup .nil) .nil))) .nil))) (.cons (.ret (.con (.bl false))) .nil) .nil) (.cons (.ite (.cmp .ne (.call 17 (.cons (.var 12) (.cons (.tup (.cons (.con (.int 0)) .nil)) .nil))) (.lst false (.cons (.tup (.cons (.tup (.cons (.neg (.con (.int 1))) (.cons (.con (.int 1)) .nil))) (.cons (.tup .nil) .nil))) (.cons (.tup (.cons (.tup (.cons (.con (.int 0)) (.cons (.con (.int 0)) .nil))) (.cons (.tup .nil) .nil))) .nil)))) (.cons (.ret (.con (.bl false))) .nil) .nil) (.cons (.ite (.bop false (.cons (.cmp .ne (.call 19 (.cons (.var 12) (.cons (.tup (.cons (.con (.int 0)) (.cons (.con (.int 0)) .nil))) (.cons (.con (.int 0)) .nil)))) (.lst false (.cons (.tup (.cons (.con (.int 0)) .nil)) (.cons (.tup (.cons (.con (.int 0)) (.cons (.con (.int 1)) .nil))) .nil)))) (.cons (.cmp .ne (.call 19 (.cons (.var 11) (.cons (.tup (.cons (.con (.int 0)) (.cons (.con (.int 0)) .nil))) (.cons (.con (.int 1)) .nil)))) (.lst false (.cons (.tup (.cons (.con (.int 0)) .nil)) .nil))) .nil))) (.cons (.ret (.con (.bl false))) .nil) .nil) (.cons (.asg (.tup (.cons (.name 13) (.cons (.name 14) .nil))) (.tup (.cons (.tup (.cons (.tup (.cons (.con (.int 1)) (.cons (.con (.int 1)) .nil))) (.cons (.tup (.cons (.con (.str "first")) (.cons (.con (.int 0)) (.cons (.con (.int 1)) .nil)))) .nil))) (.cons (.tup (.cons (.tup (.cons (.con (.int 1)) (.cons (.con (.int 1)) (.cons (.con (.int 1)) .nil)))) (.cons (.tup (.cons (.con (.str "turns")) (.cons (.con (.int 0)) (.cons (.con (.int 0)) .nil)))) .nil))) .nil)))) (.cons (.ite (.bop false (.cons (.cmp .ne (.call 19 (.cons (.var 13) (.cons (.tup (.cons (.con (.int 0)) (.cons (.con (.int 1)) (.cons (.con (.int 0)) .nil)))) (.cons (.con (.int 1)) .nil)))) (.lst false (.cons (.tup (.cons (.con (.int 0)) (.cons (.con (.int 1)) .nil))) (.cons (.tup (.cons (.con (.int 1)) .nil)) .nil)))) (.cons (.not (.call 31 (.cons (.var 13) (.cons (.tup (.cons (.con (.int 0)) (.cons (.con (.int 0)) (.cons (.con (.int 1)) (.cons (.con (.int 1)) .nil))))) .nil)))) .nil))) (.cons (.ret (.con (.bl false))) .nil) .nil) (.cons (.ite (.not (.call 31 (.cons (.var 12) (.cons (.tup (.cons (.con (.int 1)) (.cons (.con (.int 0)) (.cons (.con (.int 0)) .nil)))) .nil)))) (.cons (.ret (.con (.bl false))) .nil) .nil) (.cons (.ite (.cmp .ne (.call 19 (.cons (.tup (.cons (.tup (.cons (.con (.int 1)) (.cons (.con (.int 1)) .nil))) (.cons (.tup (.cons (.con (.str "first")) (.cons (.con (.int 0)) (.cons (.con (.int 0)) .nil)))) .nil))) (.cons (.tup (.cons (.con (.int 1)) (.cons (.con (.int 1)) .nil))) (.cons (.con (.int 0)) .nil)))) (.lst false (.cons (.tup (.cons (.con (.int 1)) .nil)) .nil))) (.cons (.ret (.con (.bl false))) .nil) .nil) (.cons (.ite (.cmp .ne (.blt .len (.cons (.call 17 (.cons (.var 14) (.cons (.tup (.cons (.con (.int 0)) (.cons (.con (.non)) (.cons (.con (.int 1)) (.cons (.con (.int 2)) .nil))))) .nil))) .nil)) (.con (.int 1))) (.cons (.ret (.con (.bl false))) .nil) .nil) (.cons (.asg (.name 15) (.tup (.cons (.tup (.cons (.con (.int 1)) (.cons (.con (.int 2)) (.cons (.con (.int 3)) .nil)))) (.cons (.tup (.cons (.con (.str "points")) (.cons (.con (.int 3)) (.cons (.con (.int 0)) .nil)))) .nil)))) (.cons (.ret (.bop true (.cons (.call 31 (.cons (.var 15) (.cons (.tup (.cons (.con (.int 0)) (.cons (.con (.int 1)) (.cons (.con (.int 2)) .nil)))) .nil))) (.cons (.call 31 (.cons (.var 15) (.cons (.tup (.cons (.con (.int 2)) (.cons (.con (.int 2)) .nil))) .nil))) (.cons (.cmp .gt (.blt .len (.cons (.call 17 (.cons (.var 15) (.cons (.tup (.cons (.con (.int 2)) .nil)) .nil))) .nil)) (.con (.int 3))) .nil))))) .nil))))))))))))
abbrev fns : List (Str × Nat) := [(("is_from" : Str), 3), (("is_tuple" : Str), 3), (("is_rule" : Str), 1), (("has_house" : Str), 1), (("need_house" : Str), 1), (("all_wishes" : Str), 1), (("first_standing" : Str), 1), (("who_may" : Str), 3), (("with_dues" : Str), 3), (("sum_of" : Str), 2), (("cut_off" : Str), 2), (("picked" : Str), 4), (("book_behind" : Str), 4), (("run_behind" : Str), 3), (("day_behind" : Str), 3), (("need_seen" : Str), 2), (("fitting" : Str), 2), (("standings_told" : Str), 2), (("can_follow" : Str), 3), (("wishes_told" : Str), 3), (("_law_source" : Str), 2), (("_law_draw" : Str), 2), (("_law_choice" : Str), 2), (("_law_house" : Str), 2), (("_law_wishes" : Str), 1), (("_law_row" : Str), 3), (("_law_first" : Str), 1), (("_law_whom" : Str), 4), (("_law_day" : Str), 3), (("_law_led" : Str), 2), (("_law_fitting" : Str), 2), (("_law_right" : Str), 2), (("law" : Str), 1)]
abbrev cs : List (Str × D) := [(("KINDS" : Str), (.tup [.str "first", .str "points", .str "turns"] : D)), (("MOST_MARK" : Str), (.int 3 : D))]
abbrev cls : List Str := [("InvalidHouse" : Str), ("InvalidSeen" : Str), ("InvalidIndex" : Str)]
abbrev rs : List Nat := [0, 1, 2]
def sub (c k : Nat) : Bool := (([[0], [1], [2]] : List (List Nat)).getD c [0]).contains k
abbrev wd : List (Str × Bool × D × List (Nat × Wd)) := [(("_law_word" : Str), false, (.str ""), [(1, .con (.str "seen")), (2, .con (.str "index"))])]
def xas (k : Nat) : Str := (["", "", ""] : List Str).getD k ""
abbrev n_law_word : List Str := [("call" : Str), ("found" : Str)]
theorem s_law_word : FnScope n_law_word [("call" : Str)] (defScope (topS 43)) := ⟨by decide +kernel, by decide +kernel, by decide +kernel, by decide +kernel, by decide +kernel, by decide +kernel, by decide +kernel⟩
theorem k_law_word : wordB n_law_word (defScope (topS 43)) cls sub xas false (.str "") [(1, .con (.str "seen")), (2, .con (.str "index"))] (defBody (topS 43)) = true := by decide +kernel
abbrev Γ_is_from : Gm := { N := n_is_from, sc := defScope (topS 8), fns := fns.take 0, cs := cs, cls := cls, rs := rs, lvl := 2, wd := wd, lam := false, tl := 0 }
theorem s_is_from : FnScope n_is_from p_is_from (defScope (topS 8)) := ⟨by decide +kernel, by decide +kernel, by decide +kernel, by decide +kernel, by decide +kernel, by decide +kernel, by decide +kernel⟩
theorem k_is_from : chkSs b_is_from Γ_is_from (defBody (topS 8)) = true := by decide +kernel
abbrev Γ_is_tuple : Gm := { N := n_is_tuple, sc := defScope (topS 9), fns := fns.take 1, cs := cs, cls := cls, rs := rs, lvl := 5, wd := wd, lam := false, tl := 3 }
theorem s_is_tuple : FnScope n_is_tuple p_is_tuple (defScope (topS 9)) := ⟨by decide +kernel, by decide +kernel, by decide +kernel, by decide +kernel, by decide +kernel, by decide +kernel, by decide +kernel⟩
theorem k_is_tuple : chkSs b_is_tuple Γ_is_tuple (defBody (topS 9)) = true := by decide +kernel
abbrev Γ_is_rule : Gm := { N := n_is_rule, sc := defScope (topS 10), fns := fns.take 2, cs := cs, cls := cls, rs := rs, lvl := 8, wd := wd, lam := false, tl := 6 }
theorem s_is_rule : FnScope n_is_rule p_is_rule (defScope (topS 10)) := ⟨by decide +kernel, by decide +kernel, by decide +kernel, by decide +kernel, by decide +kernel, by decide +kernel, by decide +kernel⟩
theorem k_is_rule : chkSs b_is_rule Γ_is_rule (defBody (topS 10)) = true := by decide +kernel
abbrev Γ_has_house : Gm := { N := n_has_house, sc := defScope (topS 11), fns := fns.take 3, cs := cs, cls := cls, rs := rs, lvl := 11, wd := wd, lam := false, tl := 9 }
theorem s_has_house : FnScope n_has_house p_has_house (defScope (topS 11)) := ⟨by decide +kernel, by decide +kernel, by decide +kernel, by decide +kernel, by decide +kernel, by decide +kernel, by decide +kernel⟩
theorem k_has_house : chkSs b_has_house Γ_has_house (defBody (topS 11)) = true := by decide +kernel
abbrev Γ_need_house : Gm := { N := n_need_house, sc := defScope (topS 12), fns := fns.take 4, cs := cs, cls := cls, rs := rs, lvl := 14, wd := wd, lam := false, tl := 12 }
theorem s_need_house : FnScope n_need_house p_need_house (defScope (topS 12)) := ⟨by decide +kernel, by decide +kernel, by decide +kernel, by decide +kernel, by decide +kernel, by decide +kernel, by decide +kernel⟩
theorem k_need_house : chkSs b_need_house Γ_need_house (defBody (topS 12)) = true := by decide +kernel
abbrev Γ_all_wishes : Gm := { N := n_all_wishes, sc := defScope (topS 13), fns := fns.take 5, cs := cs, cls := cls, rs := rs, lvl := 17, wd := wd, lam := false, tl := 15 }
theorem s_all_wishes : FnScope n_all_wishes p_all_wishes (defScope (topS 13)) := ⟨by decide +kernel, by decide +kernel, by decide +kernel, by decide +kernel, by decide +kernel, by decide +kernel, by decide +kernel⟩
theorem k_all_wishes : chkSs b_all_wishes Γ_all_wishes (defBody (topS 13)) = true := by decide +kernel
abbrev Γ_first_standing : Gm := { N := n_first_standing, sc := defScope (topS 15), fns := fns.take 6, cs := cs, cls := cls, rs := rs, lvl := 20, wd := wd, lam := false, tl := 18 }
theorem s_first_standing : FnScope n_first_standing p_first_standing (defScope (topS 15)) := ⟨by decide +kernel, by decide +kernel, by decide +kernel, by decide +kernel, by decide +kernel, by decide +kernel, by decide +kernel⟩
theorem k_first_standing : chkSs b_first_standing Γ_first_standing (defBody (topS 15)) = true := by decide +kernel
abbrev Γ_who_may : Gm := { N := n_who_may, sc := defScope (topS 16), fns := fns.take 7, cs := cs, cls := cls, rs := rs, lvl := 23, wd := wd, lam := false, tl := 21 }
theorem s_who_may : FnScope n_who_may p_who_may (defScope (topS 16)) := ⟨by decide +kernel, by decide +kernel, by decide +kernel, by decide +kernel, by decide +kernel, by decide +kernel, by decide +kernel⟩
theorem k_who_may : chkSs b_who_may Γ_who_may (defBody (topS 16)) = true := by decide +kernel
abbrev Γ_with_dues : Gm := { N := n_with_dues, sc := defScope (topS 17), fns := fns.take 8, cs := cs, cls := cls, rs := rs, lvl := 26, wd := wd, lam := false, tl := 24 }
theorem s_with_dues : FnScope n_with_dues p_with_dues (defScope (topS 17)) := ⟨by decide +kernel, by decide +kernel, by decide +kernel, by decide +kernel, by decide +kernel, by decide +kernel, by decide +kernel⟩
theorem k_with_dues : chkSs b_with_dues Γ_with_dues (defBody (topS 17)) = true := by decide +kernel
abbrev Γ_sum_of : Gm := { N := n_sum_of, sc := defScope (topS 18), fns := fns.take 9, cs := cs, cls := cls, rs := rs, lvl := 29, wd := wd, lam := false, tl := 27 }
theorem s_sum_of : FnScope n_sum_of p_sum_of (defScope (topS 18)) := ⟨by decide +kernel, by decide +kernel, by decide +kernel, by decide +kernel, by decide +kernel, by decide +kernel, by decide +kernel⟩
theorem k_sum_of : chkSs b_sum_of Γ_sum_of (defBody (topS 18)) = true := by decide +kernel
abbrev Γ_cut_off : Gm := { N := n_cut_off, sc := defScope (topS 19), fns := fns.take 10, cs := cs, cls := cls, rs := rs, lvl := 32, wd := wd, lam := false, tl := 30 }
theorem s_cut_off : FnScope n_cut_off p_cut_off (defScope (topS 19)) := ⟨by decide +kernel, by decide +kernel, by decide +kernel, by decide +kernel, by decide +kernel, by decide +kernel, by decide +kernel⟩
theorem k_cut_off : chkSs b_cut_off Γ_cut_off (defBody (topS 19)) = true := by decide +kernel
abbrev Γ_picked : Gm := { N := n_picked, sc := defScope (topS 20), fns := fns.take 11, cs := cs, cls := cls, rs := rs, lvl := 35, wd := wd, lam := false, tl := 33 }
theorem s_picked : FnScope n_picked p_picked (defScope (topS 20)) := ⟨by decide +kernel, by decide +kernel, by decide +kernel, by decide +kernel, by decide +kernel, by decide +kernel, by decide +kernel⟩
theorem k_picked : chkSs b_picked Γ_picked (defBody (topS 20)) = true := by decide +kernel
abbrev Γ_book_behind : Gm := { N := n_book_behind, sc := defScope (topS 21), fns := fns.take 12, cs := cs, cls := cls, rs := rs, lvl := 38, wd := wd, lam := false, tl := 36 }
theorem s_book_behind : FnScope n_book_behind p_book_behind (defScope (topS 21)) := ⟨by decide +kernel, by decide +kernel, by decide +kernel, by decide +kernel, by decide +kernel, by decide +kernel, by decide +kernel⟩
theorem k_book_behind : chkSs b_book_behind Γ_book_behind (defBody (topS 21)) = true := by decide +kernel
abbrev Γ_run_behind : Gm := { N := n_run_behind, sc := defScope (topS 22), fns := fns.take 13, cs := cs, cls := cls, rs := rs, lvl := 41, wd := wd, lam := false, tl := 39 }
theorem s_run_behind : FnScope n_run_behind p_run_behind (defScope (topS 22)) := ⟨by decide +kernel, by decide +kernel, by decide +kernel, by decide +kernel, by decide +kernel, by decide +kernel, by decide +kernel⟩
theorem k_run_behind : chkSs b_run_behind Γ_run_behind (defBody (topS 22)) = true := by decide +kernel
abbrev Γ_day_behind : Gm := { N := n_day_behind, sc := defScope (topS 23), fns := fns.take 14, cs := cs, cls := cls, rs := rs, lvl := 44, wd := wd, lam := false, tl := 42 }
theorem s_day_behind : FnScope n_day_behind p_day_behind (defScope (topS 23)) := ⟨by decide +kernel, by decide +kernel, by decide +kernel, by decide +kernel, by decide +kernel, by decide +kernel, by decide +kernel⟩
theorem k_day_behind : chkSs b_day_behind Γ_day_behind (defBody (topS 23)) = true := by decide +kernel
abbrev Γ_need_seen : Gm := { N := n_need_seen, sc := defScope (topS 25), fns := fns.take 15, cs := cs, cls := cls, rs := rs, lvl := 47, wd := wd, lam := false, tl := 45 }
theorem s_need_seen : FnScope n_need_seen p_need_seen (defScope (topS 25)) := ⟨by decide +kernel, by decide +kernel, by decide +kernel, by decide +kernel, by decide +kernel, by decide +kernel, by decide +kernel⟩
theorem k_need_seen : chkSs b_need_seen Γ_need_seen (defBody (topS 25)) = true := by decide +kernel
abbrev Γ_fitting : Gm := { N := n_fitting, sc := defScope (topS 26), fns := fns.take 16, cs := cs, cls := cls, rs := rs, lvl := 50, wd := wd, lam := false, tl := 48 }
theorem s_fitting : FnScope n_fitting p_fitting (defScope (topS 26)) := ⟨by decide +kernel, by decide +kernel, by decide +kernel, by decide +kernel, by decide +kernel, by decide +kernel, by decide +kernel⟩
theorem k_fitting : chkSs b_fitting Γ_fitting (defBody (topS 26)) = true := by decide +kernel
abbrev Γ_standings_told : Gm := { N := n_standings_told, sc := defScope (topS 27), fns := fns.take 17, cs := cs, cls := cls, rs := rs, lvl := 53, wd := wd, lam := false, tl := 51 }
theorem s_standings_told : FnScope n_standings_told p_standings_told (defScope (topS 27)) := ⟨by decide +kernel, by decide +kernel, by decide +kernel, by decide +kernel, by decide +kernel, by decide +kernel, by decide +kernel⟩
theorem k_standings_told : chkSs b_standings_told Γ_standings_told (defBody (topS 27)) = true := by decide +kernel
abbrev Γ_can_follow : Gm := { N := n_can_follow, sc := defScope (topS 28), fns := fns.take 18, cs := cs, cls := cls, rs := rs, lvl := 56, wd := wd, lam := false, tl := 54 }
theorem s_can_follow : FnScope n_can_follow p_can_follow (defScope (topS 28)) := ⟨by decide +kernel, by decide +kernel, by decide +kernel, by decide +kernel, by decide +kernel, by decide +kernel, by decide +kernel⟩
theorem k_can_follow : chkSs b_can_follow Γ_can_follow (defBody (topS 28)) = true := by decide +kernel
abbrev Γ_wishes_told : Gm := { N := n_wishes_told, sc := defScope (topS 29), fns := fns.take 19, cs := cs, cls := cls, rs := rs, lvl := 59, wd := wd, lam := false, tl := 57 }
theorem s_wishes_told : FnScope n_wishes_told p_wishes_told (defScope (topS 29)) := ⟨by decide +kernel, by decide +kernel, by decide +kernel, by decide +kernel, by decide +kernel, by decide +kernel, by decide +kernel⟩
theorem k_wishes_told : chkSs b_wishes_told Γ_wishes_told (defBody (topS 29)) = true := by decide +kernel
abbrev Γ_law_source : Gm := { N := n_law_source, sc := defScope (topS 31), fns := fns.take 20, cs := cs, cls := cls, rs := rs, lvl := 62, wd := wd, lam := false, tl := 60 }
theorem s_law_source : FnScope n_law_source p_law_source (defScope (topS 31)) := ⟨by decide +kernel, by decide +kernel, by decide +kernel, by decide +kernel, by decide +kernel, by decide +kernel, by decide +kernel⟩
theorem k_law_source : chkSs b_law_source Γ_law_source (defBody (topS 31)) = true := by decide +kernel
abbrev Γ_law_draw : Gm := { N := n_law_draw, sc := defScope (topS 32), fns := fns.take 21, cs := cs, cls := cls, rs := rs, lvl := 65, wd := wd, lam := false, tl := 63 }
theorem s_law_draw : FnScope n_law_draw p_law_draw (defScope (topS 32)) := ⟨by decide +kernel, by decide +kernel, by decide +kernel, by decide +kernel, by decide +kernel, by decide +kernel, by decide +kernel⟩
theorem k_law_draw : chkSs b_law_draw Γ_law_draw (defBody (topS 32)) = true := by decide +kernel
abbrev Γ_law_choice : Gm := { N := n_law_choice, sc := defScope (topS 33), fns := fns.take 22, cs := cs, cls := cls, rs := rs, lvl := 68, wd := wd, lam := false, tl := 66 }
theorem s_law_choice : FnScope n_law_choice p_law_choice (defScope (topS 33)) := ⟨by decide +kernel, by decide +kernel, by decide +kernel, by decide +kernel, by decide +kernel, by decide +kernel, by decide +kernel⟩
theorem k_law_choice : chkSs b_law_choice Γ_law_choice (defBody (topS 33)) = true := by decide +kernel
abbrev Γ_law_house : Gm := { N := n_law_house, sc := defScope (topS 34), fns := fns.take 23, cs := cs, cls := cls, rs := rs, lvl := 71, wd := wd, lam := false, tl := 69 }
theorem s_law_house : FnScope n_law_house p_law_house (defScope (topS 34)) := ⟨by decide +kernel, by decide +kernel, by decide +kernel, by decide +kernel, by decide +kernel, by decide +kernel, by decide +kernel⟩
theorem k_law_house : chkSs b_law_house Γ_law_house (defBody (topS 34)) = true := by decide +kernel
abbrev Γ_law_wishes : Gm := { N := n_law_wishes, sc := defScope (topS 35), fns := fns.take 24, cs := cs, cls := cls, rs := rs, lvl := 74, wd := wd, lam := false, tl := 72 }
theorem s_law_wishes : FnScope n_law_wishes p_law_wishes (defScope (topS 35)) := ⟨by decide +kernel, by decide +kernel, by decide +kernel, by decide +kernel, by decide +kernel, by decide +kernel, by decide +kernel⟩
theorem k_law_wishes : chkSs b_law_wishes Γ_law_wishes (defBody (topS 35)) = true := by decide +kernel
abbrev Γ_law_row : Gm := { N := n_law_row, sc := defScope (topS 36), fns := fns.take 25, cs := cs, cls := cls, rs := rs, lvl := 77, wd := wd, lam := false, tl := 75 }
theorem s_law_row : FnScope n_law_row p_law_row (defScope (topS 36)) := ⟨by decide +kernel, by decide +kernel, by decide +kernel, by decide +kernel, by decide +kernel, by decide +kernel, by decide +kernel⟩
theorem k_law_row : chkSs b_law_row Γ_law_row (defBody (topS 36)) = true := by decide +kernel
abbrev Γ_law_first : Gm := { N := n_law_first, sc := defScope (topS 37), fns := fns.take 26, cs := cs, cls := cls, rs := rs, lvl := 80, wd := wd, lam := false, tl := 78 }
theorem s_law_first : FnScope n_law_first p_law_first (defScope (topS 37)) := ⟨by decide +kernel, by decide +kernel, by decide +kernel, by decide +kernel, by decide +kernel, by decide +kernel, by decide +kernel⟩
theorem k_law_first : chkSs b_law_first Γ_law_first (defBody (topS 37)) = true := by decide +kernel
abbrev Γ_law_whom : Gm := { N := n_law_whom, sc := defScope (topS 38), fns := fns.take 27, cs := cs, cls := cls, rs := rs, lvl := 83, wd := wd, lam := false, tl := 81 }
theorem s_law_whom : FnScope n_law_whom p_law_whom (defScope (topS 38)) := ⟨by decide +kernel, by decide +kernel, by decide +kernel, by decide +kernel, by decide +kernel, by decide +kernel, by decide +kernel⟩
theorem k_law_whom : chkSs b_law_whom Γ_law_whom (defBody (topS 38)) = true := by decide +kernel
abbrev Γ_law_day : Gm := { N := n_law_day, sc := defScope (topS 39), fns := fns.take 28, cs := cs, cls := cls, rs := rs, lvl := 86, wd := wd, lam := false, tl := 84 }
theorem s_law_day : FnScope n_law_day p_law_day (defScope (topS 39)) := ⟨by decide +kernel, by decide +kernel, by decide +kernel, by decide +kernel, by decide +kernel, by decide +kernel, by decide +kernel⟩
theorem k_law_day : chkSs b_law_day Γ_law_day (defBody (topS 39)) = true := by decide +kernel
abbrev Γ_law_led : Gm := { N := n_law_led, sc := defScope (topS 40), fns := fns.take 29, cs := cs, cls := cls, rs := rs, lvl := 89, wd := wd, lam := false, tl := 87 }
theorem s_law_led : FnScope n_law_led p_law_led (defScope (topS 40)) := ⟨by decide +kernel, by decide +kernel, by decide +kernel, by decide +kernel, by decide +kernel, by decide +kernel, by decide +kernel⟩
theorem k_law_led : chkSs b_law_led Γ_law_led (defBody (topS 40)) = true := by decide +kernel
abbrev Γ_law_fitting : Gm := { N := n_law_fitting, sc := defScope (topS 41), fns := fns.take 30, cs := cs, cls := cls, rs := rs, lvl := 92, wd := wd, lam := false, tl := 90 }
theorem s_law_fitting : FnScope n_law_fitting p_law_fitting (defScope (topS 41)) := ⟨by decide +kernel, by decide +kernel, by decide +kernel, by decide +kernel, by decide +kernel, by decide +kernel, by decide +kernel⟩
theorem k_law_fitting : chkSs b_law_fitting Γ_law_fitting (defBody (topS 41)) = true := by decide +kernel
abbrev Γ_law_right : Gm := { N := n_law_right, sc := defScope (topS 42), fns := fns.take 31, cs := cs, cls := cls, rs := rs, lvl := 95, wd := wd, lam := false, tl := 93 }
theorem s_law_right : FnScope n_law_right p_law_right (defScope (topS 42)) := ⟨by decide +kernel, by decide +kernel, by decide +kernel, by decide +kernel, by decide +kernel, by decide +kernel, by decide +kernel⟩
theorem k_law_right : chkSs b_law_right Γ_law_right (defBody (topS 42)) = true := by decide +kernel
abbrev Γ_law : Gm := { N := n_law, sc := defScope (topS 44), fns := fns.take 32, cs := cs, cls := cls, rs := rs, lvl := 98, wd := wd, lam := true, tl := 96 }
theorem s_law : FnScope n_law p_law (defScope (topS 44)) := ⟨by decide +kernel, by decide +kernel, by decide +kernel, by decide +kernel, by decide +kernel, by decide +kernel, by decide +kernel⟩
theorem k_law : chkSs b_law Γ_law (defBody (topS 44)) = true := by decide +kernel
abbrev tl_0 : List (Nat × Ss) := []
abbrev tl_1 : List (Nat × Ss) := (3, b_is_from) :: tl_0
abbrev tl_2 : List (Nat × Ss) := (3, b_is_tuple) :: tl_1
abbrev tl_3 : List (Nat × Ss) := (3, b_is_rule) :: tl_2
abbrev tl_4 : List (Nat × Ss) := (2, b_has_house) :: tl_3
abbrev tl_5 : List (Nat × Ss) := (1, b_need_house) :: tl_4
abbrev tl_6 : List (Nat × Ss) := (4, b_all_wishes) :: tl_5
abbrev tl_7 : List (Nat × Ss) := (3, b_first_standing) :: tl_6
abbrev tl_8 : List (Nat × Ss) := (5, b_who_may) :: tl_7
abbrev tl_9 : List (Nat × Ss) := (5, b_with_dues) :: tl_8
abbrev tl_10 : List (Nat × Ss) := (3, b_sum_of) :: tl_9
abbrev tl_11 : List (Nat × Ss) := (2, b_cut_off) :: tl_10
abbrev tl_12 : List (Nat × Ss) := (8, b_picked) :: tl_11
abbrev tl_13 : List (Nat × Ss) := (11, b_book_behind) :: tl_12
abbrev tl_14 : List (Nat × Ss) := (4, b_run_behind) :: tl_13
abbrev tl_15 : List (Nat × Ss) := (6, b_day_behind) :: tl_14
abbrev tl_16 : List (Nat × Ss) := (4, b_need_seen) :: tl_15
abbrev tl_17 : List (Nat × Ss) := (9, b_fitting) :: tl_16
abbrev tl_18 : List (Nat × Ss) := (2, b_standings_told) :: tl_17
abbrev tl_19 : List (Nat × Ss) := (10, b_can_follow) :: tl_18
abbrev tl_20 : List (Nat × Ss) := (8, b_wishes_told) :: tl_19
abbrev tl_21 : List (Nat × Ss) := (3, b_law_source) :: tl_20
abbrev tl_22 : List (Nat × Ss) := (4, b_law_draw) :: tl_21
abbrev tl_23 : List (Nat × Ss) := (2, b_law_choice) :: tl_22
abbrev tl_24 : List (Nat × Ss) := (7, b_law_house) :: tl_23
abbrev tl_25 : List (Nat × Ss) := (4, b_law_wishes) :: tl_24
abbrev tl_26 : List (Nat × Ss) := (5, b_law_row) :: tl_25
abbrev tl_27 : List (Nat × Ss) := (3, b_law_first) :: tl_26
abbrev tl_28 : List (Nat × Ss) := (12, b_law_whom) :: tl_27
abbrev tl_29 : List (Nat × Ss) := (11, b_law_day) :: tl_28
abbrev tl_30 : List (Nat × Ss) := (6, b_law_led) :: tl_29
abbrev tl_31 : List (Nat × Ss) := (10, b_law_fitting) :: tl_30
abbrev tl_32 : List (Nat × Ss) := (6, b_law_right) :: tl_31
abbrev tl_33 : List (Nat × Ss) := (16, b_law) :: tl_32
def fu : Nat := 1000
abbrev cc (n : List (Nat × Ss)) : Call := cfL sub fu n
end LawT
namespace LawT
open PySem PySem.Spec PyProof.Rows L2 EV
theorem all_mk {l : PySem.W.OpenLaw} {w : World} {K : PySem.W.Frag} {h : Heap} {mg : Str → Option Value} {fa : Addr} (LT : ∀ ns : List Int, ns.length ≤ 63 → ∀ z : D, z = .rol (ns.map .int) ∨ z = .lst (ns.map .int) → cc tl_33 32 [z] [] = .ok (.bl true) []) (X : K.In h) (G : h.Ns mainGlobals mg) (hfa : mg "law" = some (.ref fa))
  {f0 : Addr} {od0 an0 : Option Addr} {sl0 : Array (Option Value)} {oc0 kV0 dc0 pm0 cd0 ct0 : Value}
  (a0 : PySem.W.nsIn K mainGlobals "is_from" = some (some (.ref f0))) (l0 : K.lookup f0 = some ⟨oc0, od0, .func (PySem.W.fnOf "is_from" "is_from" (defArgs (topS 8)) (defBody (topS 8)) (defScope (topS 8)) .none kV0 dc0 pm0 an0 cd0 ct0), sl0⟩) (c0 : PySem.W.codeIn K cd0 "is_from" = true) (k0 : PySem.W.keepIn K (.ref f0) = true)
  {f1 : Addr} {od1 an1 : Option Addr} {sl1 : Array (Option Value)} {oc1 kV1 dc1 pm1 cd1 ct1 : Value}
  (a1 : PySem.W.nsIn K mainGlobals "is_tuple" = some (some (.ref f1))) (l1 : K.lookup f1 = some ⟨oc1, od1, .func (PySem.W.fnOf "is_tuple" "is_tuple" (defArgs (topS 9)) (defBody (topS 9)) (defScope (topS 9)) .none kV1 dc1 pm1 an1 cd1 ct1), sl1⟩) (c1 : PySem.W.codeIn K cd1 "is_tuple" = true) (k1 : PySem.W.keepIn K (.ref f1) = true)
  {f2 : Addr} {od2 an2 : Option Addr} {sl2 : Array (Option Value)} {oc2 kV2 dc2 pm2 cd2 ct2 : Value}
  (a2 : PySem.W.nsIn K mainGlobals "is_rule" = some (some (.ref f2))) (l2 : K.lookup f2 = some ⟨oc2, od2, .func (PySem.W.fnOf "is_rule" "is_rule" (defArgs (topS 10)) (defBody (topS 10)) (defScope (topS 10)) .none kV2 dc2 pm2 an2 cd2 ct2), sl2⟩) (c2 : PySem.W.codeIn K cd2 "is_rule" = true) (k2 : PySem.W.keepIn K (.ref f2) = true)
  {f3 : Addr} {od3 an3 : Option Addr} {sl3 : Array (Option Value)} {oc3 kV3 dc3 pm3 cd3 ct3 : Value}
  (a3 : PySem.W.nsIn K mainGlobals "has_house" = some (some (.ref f3))) (l3 : K.lookup f3 = some ⟨oc3, od3, .func (PySem.W.fnOf "has_house" "has_house" (defArgs (topS 11)) (defBody (topS 11)) (defScope (topS 11)) .none kV3 dc3 pm3 an3 cd3 ct3), sl3⟩) (c3 : PySem.W.codeIn K cd3 "has_house" = true) (k3 : PySem.W.keepIn K (.ref f3) = true)
  {f4 : Addr} {od4 an4 : Option Addr} {sl4 : Array (Option Value)} {oc4 kV4 dc4 pm4 cd4 ct4 : Value}
  (a4 : PySem.W.nsIn K mainGlobals "need_house" = some (some (.ref f4))) (l4 : K.lookup f4 = some ⟨oc4, od4, .func (PySem.W.fnOf "need_house" "need_house" (defArgs (topS 12)) (defBody (topS 12)) (defScope (topS 12)) .none kV4 dc4 pm4 an4 cd4 ct4), sl4⟩) (c4 : PySem.W.codeIn K cd4 "need_house" = true) (k4 : PySem.W.keepIn K (.ref f4) = true)
  {f5 : Addr} {od5 an5 : Option Addr} {sl5 : Array (Option Value)} {oc5 kV5 dc5 pm5 cd5 ct5 : Value}
  (a5 : PySem.W.nsIn K mainGlobals "all_wishes" = some (some (.ref f5))) (l5 : K.lookup f5 = some ⟨oc5, od5, .func (PySem.W.fnOf "all_wishes" "all_wishes" (defArgs (topS 13)) (defBody (topS 13)) (defScope (topS 13)) .none kV5 dc5 pm5 an5 cd5 ct5), sl5⟩) (c5 : PySem.W.codeIn K cd5 "all_wishes" = true) (k5 : PySem.W.keepIn K (.ref f5) = true)
  {f6 : Addr} {od6 an6 : Option Addr} {sl6 : Array (Option Value)} {oc6 kV6 dc6 pm6 cd6 ct6 : Value}
  (a6 : PySem.W.nsIn K mainGlobals "first_standing" = some (some (.ref f6))) (l6 : K.lookup f6 = some ⟨oc6, od6, .func (PySem.W.fnOf "first_standing" "first_standing" (defArgs (topS 15)) (defBody (topS 15)) (defScope (topS 15)) .none kV6 dc6 pm6 an6 cd6 ct6), sl6⟩) (c6 : PySem.W.codeIn K cd6 "first_standing" = true) (k6 : PySem.W.keepIn K (.ref f6) = true)
  {f7 : Addr} {od7 an7 : Option Addr} {sl7 : Array (Option Value)} {oc7 kV7 dc7 pm7 cd7 ct7 : Value}
  (a7 : PySem.W.nsIn K mainGlobals "who_may" = some (some (.ref f7))) (l7 : K.lookup f7 = some ⟨oc7, od7, .func (PySem.W.fnOf "who_may" "who_may" (defArgs (topS 16)) (defBody (topS 16)) (defScope (topS 16)) .none kV7 dc7 pm7 an7 cd7 ct7), sl7⟩) (c7 : PySem.W.codeIn K cd7 "who_may" = true) (k7 : PySem.W.keepIn K (.ref f7) = true)
  {f8 : Addr} {od8 an8 : Option Addr} {sl8 : Array (Option Value)} {oc8 kV8 dc8 pm8 cd8 ct8 : Value}
  (a8 : PySem.W.nsIn K mainGlobals "with_dues" = some (some (.ref f8))) (l8 : K.lookup f8 = some ⟨oc8, od8, .func (PySem.W.fnOf "with_dues" "with_dues" (defArgs (topS 17)) (defBody (topS 17)) (defScope (topS 17)) .none kV8 dc8 pm8 an8 cd8 ct8), sl8⟩) (c8 : PySem.W.codeIn K cd8 "with_dues" = true) (k8 : PySem.W.keepIn K (.ref f8) = true)
  {f9 : Addr} {od9 an9 : Option Addr} {sl9 : Array (Option Value)} {oc9 kV9 dc9 pm9 cd9 ct9 : Value}
  (a9 : PySem.W.nsIn K mainGlobals "sum_of" = some (some (.ref f9))) (l9 : K.lookup f9 = some ⟨oc9, od9, .func (PySem.W.fnOf "sum_of" "sum_of" (defArgs (topS 18)) (defBody (topS 18)) (defScope (topS 18)) .none kV9 dc9 pm9 an9 cd9 ct9), sl9⟩) (c9 : PySem.W.codeIn K cd9 "sum_of" = true) (k9 : PySem.W.keepIn K (.ref f9) = true)
  {f10 : Addr} {od10 an10 : Option Addr} {sl10 : Array (Option Value)} {oc10 kV10 dc10 pm10 cd10 ct10 : Value}
  (a10 : PySem.W.nsIn K mainGlobals "cut_off" = some (some (.ref f10))) (l10 : K.lookup f10 = some ⟨oc10, od10, .func (PySem.W.fnOf "cut_off" "cut_off" (defArgs (topS 19)) (defBody (topS 19)) (defScope (topS 19)) .none kV10 dc10 pm10 an10 cd10 ct10), sl10⟩) (c10 : PySem.W.codeIn K cd10 "cut_off" = true) (k10 : PySem.W.keepIn K (.ref f10) = true)
  {f11 : Addr} {od11 an11 : Option Addr} {sl11 : Array (Option Value)} {oc11 kV11 dc11 pm11 cd11 ct11 : Value}
  (a11 : PySem.W.nsIn K mainGlobals "picked" = some (some (.ref f11))) (l11 : K.lookup f11 = some ⟨oc11, od11, .func (PySem.W.fnOf "picked" "picked" (defArgs (topS 20)) (defBody (topS 20)) (defScope (topS 20)) .none kV11 dc11 pm11 an11 cd11 ct11), sl11⟩) (c11 : PySem.W.codeIn K cd11 "picked" = true) (k11 : PySem.W.keepIn K (.ref f11) = true)
  {f12 : Addr} {od12 an12 : Option Addr} {sl12 : Array (Option Value)} {oc12 kV12 dc12 pm12 cd12 ct12 : Value}
  (a12 : PySem.W.nsIn K mainGlobals "book_behind" = some (some (.ref f12))) (l12 : K.lookup f12 = some ⟨oc12, od12, .func (PySem.W.fnOf "book_behind" "book_behind" (defArgs (topS 21)) (defBody (topS 21)) (defScope (topS 21)) .none kV12 dc12 pm12 an12 cd12 ct12), sl12⟩) (c12 : PySem.W.codeIn K cd12 "book_behind" = true) (k12 : PySem.W.keepIn K (.ref f12) = true)
  {f13 : Addr} {od13 an13 : Option Addr} {sl13 : Array (Option Value)} {oc13 kV13 dc13 pm13 cd13 ct13 : Value}
  (a13 : PySem.W.nsIn K mainGlobals "run_behind" = some (some (.ref f13))) (l13 : K.lookup f13 = some ⟨oc13, od13, .func (PySem.W.fnOf "run_behind" "run_behind" (defArgs (topS 22)) (defBody (topS 22)) (defScope (topS 22)) .none kV13 dc13 pm13 an13 cd13 ct13), sl13⟩) (c13 : PySem.W.codeIn K cd13 "run_behind" = true) (k13 : PySem.W.keepIn K (.ref f13) = true)
  {f14 : Addr} {od14 an14 : Option Addr} {sl14 : Array (Option Value)} {oc14 kV14 dc14 pm14 cd14 ct14 : Value}
  (a14 : PySem.W.nsIn K mainGlobals "day_behind" = some (some (.ref f14))) (l14 : K.lookup f14 = some ⟨oc14, od14, .func (PySem.W.fnOf "day_behind" "day_behind" (defArgs (topS 23)) (defBody (topS 23)) (defScope (topS 23)) .none kV14 dc14 pm14 an14 cd14 ct14), sl14⟩) (c14 : PySem.W.codeIn K cd14 "day_behind" = true) (k14 : PySem.W.keepIn K (.ref f14) = true)
  {f15 : Addr} {od15 an15 : Option Addr} {sl15 : Array (Option Value)} {oc15 kV15 dc15 pm15 cd15 ct15 : Value}
  (a15 : PySem.W.nsIn K mainGlobals "need_seen" = some (some (.ref f15))) (l15 : K.lookup f15 = some ⟨oc15, od15, .func (PySem.W.fnOf "need_seen" "need_seen" (defArgs (topS 25)) (defBody (topS 25)) (defScope (topS 25)) .none kV15 dc15 pm15 an15 cd15 ct15), sl15⟩) (c15 : PySem.W.codeIn K cd15 "need_seen" = true) (k15 : PySem.W.keepIn K (.ref f15) = true)
  {f16 : Addr} {od16 an16 : Option Addr} {sl16 : Array (Option Value)} {oc16 kV16 dc16 pm16 cd16 ct16 : Value}
  (a16 : PySem.W.nsIn K mainGlobals "fitting" = some (some (.ref f16))) (l16 : K.lookup f16 = some ⟨oc16, od16, .func (PySem.W.fnOf "fitting" "fitting" (defArgs (topS 26)) (defBody (topS 26)) (defScope (topS 26)) .none kV16 dc16 pm16 an16 cd16 ct16), sl16⟩) (c16 : PySem.W.codeIn K cd16 "fitting" = true) (k16 : PySem.W.keepIn K (.ref f16) = true)
  {f17 : Addr} {od17 an17 : Option Addr} {sl17 : Array (Option Value)} {oc17 kV17 dc17 pm17 cd17 ct17 : Value}
  (a17 : PySem.W.nsIn K mainGlobals "standings_told" = some (some (.ref f17))) (l17 : K.lookup f17 = some ⟨oc17, od17, .func (PySem.W.fnOf "standings_told" "standings_told" (defArgs (topS 27)) (defBody (topS 27)) (defScope (topS 27)) .none kV17 dc17 pm17 an17 cd17 ct17), sl17⟩) (c17 : PySem.W.codeIn K cd17 "standings_told" = true) (k17 : PySem.W.keepIn K (.ref f17) = true)
  {f18 : Addr} {od18 an18 : Option Addr} {sl18 : Array (Option Value)} {oc18 kV18 dc18 pm18 cd18 ct18 : Value}
  (a18 : PySem.W.nsIn K mainGlobals "can_follow" = some (some (.ref f18))) (l18 : K.lookup f18 = some ⟨oc18, od18, .func (PySem.W.fnOf "can_follow" "can_follow" (defArgs (topS 28)) (defBody (topS 28)) (defScope (topS 28)) .none kV18 dc18 pm18 an18 cd18 ct18), sl18⟩) (c18 : PySem.W.codeIn K cd18 "can_follow" = true) (k18 : PySem.W.keepIn K (.ref f18) = true)
  {f19 : Addr} {od19 an19 : Option Addr} {sl19 : Array (Option Value)} {oc19 kV19 dc19 pm19 cd19 ct19 : Value}
  (a19 : PySem.W.nsIn K mainGlobals "wishes_told" = some (some (.ref f19))) (l19 : K.lookup f19 = some ⟨oc19, od19, .func (PySem.W.fnOf "wishes_told" "wishes_told" (defArgs (topS 29)) (defBody (topS 29)) (defScope (topS 29)) .none kV19 dc19 pm19 an19 cd19 ct19), sl19⟩) (c19 : PySem.W.codeIn K cd19 "wishes_told" = true) (k19 : PySem.W.keepIn K (.ref f19) = true)
  {f20 : Addr} {od20 an20 : Option Addr} {sl20 : Array (Option Value)} {oc20 kV20 dc20 pm20 cd20 ct20 : Value}
  (a20 : PySem.W.nsIn K mainGlobals "_law_source" = some (some (.ref f20))) (l20 : K.lookup f20 = some ⟨oc20, od20, .func (PySem.W.fnOf "_law_source" "_law_source" (defArgs (topS 31)) (defBody (topS 31)) (defScope (topS 31)) .none kV20 dc20 pm20 an20 cd20 ct20), sl20⟩) (c20 : PySem.W.codeIn K cd20 "_law_source" = true) (k20 : PySem.W.keepIn K (.ref f20) = true)
  {f21 : Addr} {od21 an21 : Option Addr} {sl21 : Array (Option Value)} {oc21 kV21 dc21 pm21 cd21 ct21 : Value}
  (a21 : PySem.W.nsIn K mainGlobals "_law_draw" = some (some (.ref f21))) (l21 : K.lookup f21 = some ⟨oc21, od21, .func (PySem.W.fnOf "_law_draw" "_law_draw" (defArgs (topS 32)) (defBody (topS 32)) (defScope (topS 32)) .none kV21 dc21 pm21 an21 cd21 ct21), sl21⟩) (c21 : PySem.W.codeIn K cd21 "_law_draw" = true) (k21 : PySem.W.keepIn K (.ref f21) = true)
  {f22 : Addr} {od22 an22 : Option Addr} {sl22 : Array (Option Value)} {oc22 kV22 dc22 pm22 cd22 ct22 : Value}
  (a22 : PySem.W.nsIn K mainGlobals "_law_choice" = some (some (.ref f22))) (l22 : K.lookup f22 = some ⟨oc22, od22, .func (PySem.W.fnOf "_law_choice" "_law_choice" (defArgs (topS 33)) (defBody (topS 33)) (defScope (topS 33)) .none kV22 dc22 pm22 an22 cd22 ct22), sl22⟩) (c22 : PySem.W.codeIn K cd22 "_law_choice" = true) (k22 : PySem.W.keepIn K (.ref f22) = true)
  {f23 : Addr} {od23 an23 : Option Addr} {sl23 : Array (Option Value)} {oc23 kV23 dc23 pm23 cd23 ct23 : Value}
  (a23 : PySem.W.nsIn K mainGlobals "_law_house" = some (some (.ref f23))) (l23 : K.lookup f23 = some ⟨oc23, od23, .func (PySem.W.fnOf "_law_house" "_law_house" (defArgs (topS 34)) (defBody (topS 34)) (defScope (topS 34)) .none kV23 dc23 pm23 an23 cd23 ct23), sl23⟩) (c23 : PySem.W.codeIn K cd23 "_law_house" = true) (k23 : PySem.W.keepIn K (.ref f23) = true)
  {f24 : Addr} {od24 an24 : Option Addr} {sl24 : Array (Option Value)} {oc24 kV24 dc24 pm24 cd24 ct24 : Value}
  (a24 : PySem.W.nsIn K mainGlobals "_law_wishes" = some (some (.ref f24))) (l24 : K.lookup f24 = some ⟨oc24, od24, .func (PySem.W.fnOf "_law_wishes" "_law_wishes" (defArgs (topS 35)) (defBody (topS 35)) (defScope (topS 35)) .none kV24 dc24 pm24 an24 cd24 ct24), sl24⟩) (c24 : PySem.W.codeIn K cd24 "_law_wishes" = true) (k24 : PySem.W.keepIn K (.ref f24) = true)
  {f25 : Addr} {od25 an25 : Option Addr} {sl25 : Array (Option Value)} {oc25 kV25 dc25 pm25 cd25 ct25 : Value}
  (a25 : PySem.W.nsIn K mainGlobals "_law_row" = some (some (.ref f25))) (l25 : K.lookup f25 = some ⟨oc25, od25, .func (PySem.W.fnOf "_law_row" "_law_row" (defArgs (topS 36)) (defBody (topS 36)) (defScope (topS 36)) .none kV25 dc25 pm25 an25 cd25 ct25), sl25⟩) (c25 : PySem.W.codeIn K cd25 "_law_row" = true) (k25 : PySem.W.keepIn K (.ref f25) = true)
  {f26 : Addr} {od26 an26 : Option Addr} {sl26 : Array (Option Value)} {oc26 kV26 dc26 pm26 cd26 ct26 : Value}
  (a26 : PySem.W.nsIn K mainGlobals "_law_first" = some (some (.ref f26))) (l26 : K.lookup f26 = some ⟨oc26, od26, .func (PySem.W.fnOf "_law_first" "_law_first" (defArgs (topS 37)) (defBody (topS 37)) (defScope (topS 37)) .none kV26 dc26 pm26 an26 cd26 ct26), sl26⟩) (c26 : PySem.W.codeIn K cd26 "_law_first" = true) (k26 : PySem.W.keepIn K (.ref f26) = true)
  {f27 : Addr} {od27 an27 : Option Addr} {sl27 : Array (Option Value)} {oc27 kV27 dc27 pm27 cd27 ct27 : Value}
  (a27 : PySem.W.nsIn K mainGlobals "_law_whom" = some (some (.ref f27))) (l27 : K.lookup f27 = some ⟨oc27, od27, .func (PySem.W.fnOf "_law_whom" "_law_whom" (defArgs (topS 38)) (defBody (topS 38)) (defScope (topS 38)) .none kV27 dc27 pm27 an27 cd27 ct27), sl27⟩) (c27 : PySem.W.codeIn K cd27 "_law_whom" = true) (k27 : PySem.W.keepIn K (.ref f27) = true)
  {f28 : Addr} {od28 an28 : Option Addr} {sl28 : Array (Option Value)} {oc28 kV28 dc28 pm28 cd28 ct28 : Value}
  (a28 : PySem.W.nsIn K mainGlobals "_law_day" = some (some (.ref f28))) (l28 : K.lookup f28 = some ⟨oc28, od28, .func (PySem.W.fnOf "_law_day" "_law_day" (defArgs (topS 39)) (defBody (topS 39)) (defScope (topS 39)) .none kV28 dc28 pm28 an28 cd28 ct28), sl28⟩) (c28 : PySem.W.codeIn K cd28 "_law_day" = true) (k28 : PySem.W.keepIn K (.ref f28) = true)
  {f29 : Addr} {od29 an29 : Option Addr} {sl29 : Array (Option Value)} {oc29 kV29 dc29 pm29 cd29 ct29 : Value}
  (a29 : PySem.W.nsIn K mainGlobals "_law_led" = some (some (.ref f29))) (l29 : K.lookup f29 = some ⟨oc29, od29, .func (PySem.W.fnOf "_law_led" "_law_led" (defArgs (topS 40)) (defBody (topS 40)) (defScope (topS 40)) .none kV29 dc29 pm29 an29 cd29 ct29), sl29⟩) (c29 : PySem.W.codeIn K cd29 "_law_led" = true) (k29 : PySem.W.keepIn K (.ref f29) = true)
  {f30 : Addr} {od30 an30 : Option Addr} {sl30 : Array (Option Value)} {oc30 kV30 dc30 pm30 cd30 ct30 : Value}
  (a30 : PySem.W.nsIn K mainGlobals "_law_fitting" = some (some (.ref f30))) (l30 : K.lookup f30 = some ⟨oc30, od30, .func (PySem.W.fnOf "_law_fitting" "_law_fitting" (defArgs (topS 41)) (defBody (topS 41)) (defScope (topS 41)) .none kV30 dc30 pm30 an30 cd30 ct30), sl30⟩) (c30 : PySem.W.codeIn K cd30 "_law_fitting" = true) (k30 : PySem.W.keepIn K (.ref f30) = true)
  {f31 : Addr} {od31 an31 : Option Addr} {sl31 : Array (Option Value)} {oc31 kV31 dc31 pm31 cd31 ct31 : Value}
  (a31 : PySem.W.nsIn K mainGlobals "_law_right" = some (some (.ref f31))) (l31 : K.lookup f31 = some ⟨oc31, od31, .func (PySem.W.fnOf "_law_right" "_law_right" (defArgs (topS 42)) (defBody (topS 42)) (defScope (topS 42)) .none kV31 dc31 pm31 an31 cd31 ct31), sl31⟩) (c31 : PySem.W.codeIn K cd31 "_law_right" = true) (k31 : PySem.W.keepIn K (.ref f31) = true)
  {f32 : Addr} {od32 an32 : Option Addr} {sl32 : Array (Option Value)} {oc32 kV32 dc32 pm32 cd32 ct32 : Value}
  (a32 : PySem.W.nsIn K mainGlobals "law" = some (some (.ref f32))) (l32 : K.lookup f32 = some ⟨oc32, od32, .func (PySem.W.fnOf "law" "law" (defArgs (topS 44)) (defBody (topS 44)) (defScope (topS 44)) .none kV32 dc32 pm32 an32 cd32 ct32), sl32⟩) (c32 : PySem.W.codeIn K cd32 "law" = true) (k32 : PySem.W.keepIn K (.ref f32) = true)
  {f33 : Addr} {od33 an33 : Option Addr} {sl33 : Array (Option Value)} {oc33 kV33 dc33 pm33 cd33 ct33 : Value}
  (a33 : PySem.W.nsIn K mainGlobals "_law_word" = some (some (.ref f33))) (l33 : K.lookup f33 = some ⟨oc33, od33, .func (PySem.W.fnOf "_law_word" "_law_word" (defArgs (topS 43)) (defBody (topS 43)) (defScope (topS 43)) .none kV33 dc33 pm33 an33 cd33 ct33), sl33⟩) (c33 : PySem.W.codeIn K cd33 "_law_word" = true) (k33 : PySem.W.keepIn K (.ref f33) = true)
  {g0 : Addr} (ga0 : PySem.W.nsIn K mainGlobals "InvalidHouse" = some (some (.ref g0))) (gk0 : PySem.W.keepIn K (.ref g0) = true) (gb0 : PySem.W.subIn K (.ref g0) (.type "BaseException") = some true) (gi0 : PySem.W.isClsIn K g0 = true) (gt0 : PySem.W.typeIn K (.ref g0) = some (.type "type"))
  (gx0 : PySem.W.excIn K g0 [.type "ValueError", .type "Exception", .type "BaseException", .type "object"] "ValueError.__new__" = true)
  {g1 : Addr} (ga1 : PySem.W.nsIn K mainGlobals "InvalidSeen" = some (some (.ref g1))) (gk1 : PySem.W.keepIn K (.ref g1) = true) (gb1 : PySem.W.subIn K (.ref g1) (.type "BaseException") = some true) (gi1 : PySem.W.isClsIn K g1 = true) (gt1 : PySem.W.typeIn K (.ref g1) = some (.type "type"))
  (gx1 : PySem.W.excIn K g1 [.type "ValueError", .type "Exception", .type "BaseException", .type "object"] "ValueError.__new__" = true)
  {g2 : Addr} (ga2 : PySem.W.nsIn K mainGlobals "InvalidIndex" = some (some (.ref g2))) (gk2 : PySem.W.keepIn K (.ref g2) = true) (gb2 : PySem.W.subIn K (.ref g2) (.type "BaseException") = some true) (gi2 : PySem.W.isClsIn K g2 = true) (gt2 : PySem.W.typeIn K (.ref g2) = some (.type "type"))
  (gx2 : PySem.W.excIn K g2 [.type "ValueError", .type "Exception", .type "BaseException", .type "object"] "ValueError.__new__" = true)
  (gs0_0 : PySem.W.subIn K (.ref g0) (.ref g0) = some true)
  (gs0_1 : PySem.W.subIn K (.ref g0) (.ref g1) = some false)
  (gs0_2 : PySem.W.subIn K (.ref g0) (.ref g2) = some false)
  (gs1_0 : PySem.W.subIn K (.ref g1) (.ref g0) = some false)
  (gs1_1 : PySem.W.subIn K (.ref g1) (.ref g1) = some true)
  (gs1_2 : PySem.W.subIn K (.ref g1) (.ref g2) = some false)
  (gs2_0 : PySem.W.subIn K (.ref g2) (.ref g0) = some false)
  (gs2_1 : PySem.W.subIn K (.ref g2) (.ref g1) = some false)
  (gs2_2 : PySem.W.subIn K (.ref g2) (.ref g2) = some true)
  (z_len : PySem.W.nsIn K mainGlobals "len" = some none)
  (z_abs : PySem.W.nsIn K mainGlobals "abs" = some none)
  (z_int : PySem.W.nsIn K mainGlobals "int" = some none)
  (z_sum : PySem.W.nsIn K mainGlobals "sum" = some none)
  (z_min : PySem.W.nsIn K mainGlobals "min" = some none)
  (z_max : PySem.W.nsIn K mainGlobals "max" = some none)
  (z_all : PySem.W.nsIn K mainGlobals "all" = some none)
  (z_tuple : PySem.W.nsIn K mainGlobals "tuple" = some none)
  (z_list : PySem.W.nsIn K mainGlobals "list" = some none)
  (z_sorted : PySem.W.nsIn K mainGlobals "sorted" = some none)
  (z_set : PySem.W.nsIn K mainGlobals "set" = some none)
  (z_isinstance : PySem.W.nsIn K mainGlobals "isinstance" = some none)
  (z_range : PySem.W.nsIn K mainGlobals "range" = some none)
  (z_enumerate : PySem.W.nsIn K mainGlobals "enumerate" = some none)
  (z_zip : PySem.W.nsIn K mainGlobals "zip" = some none)
  (z_str : PySem.W.nsIn K mainGlobals "str" = some none)
  (z_bool : PySem.W.nsIn K mainGlobals "bool" = some none)
  {u0 : Addr} {uo0 : Option Addr} {ui0 : Array Value} {un0 : Nat} {us0 : Array (Option Value)} (ua0 : PySem.W.nsIn K mainGlobals "KINDS" = some (some (.ref u0))) (ul0 : K.lookup u0 = some ⟨.type "tuple", uo0, .seq ui0 un0, us0⟩) (uz0 : decide (ui0.size ≤ 1000) = true) (uc0 : litsB ui0.toList [.str "first", .str "points", .str "turns"] = true)
  {u1 : Value} (ua1 : PySem.W.nsIn K mainGlobals "MOST_MARK" = some (some u1)) (uc1 : litB u1 (.int 3) = true)
  {lc0 lP0 : Addr} (lr0 : h.get? lP0 = some (PySem.W.tabObj #[])) (lq0 : cd32 = .ref lc0) (lh0 : PySem.W.codeHdIn K lc0 lP0 = true)
  (nt : PySem.W.noTabs K = true)
  : LamX.LawAtS l w K (L2.CX l.prog w) 99 63 "script" mg fa h := by
  have e := hfa.symm.trans (PySem.W.mg_of X G a32)
  cases e
  have kn : Kn l.prog w { fa := fun k => ([f0, f1, f2, f3, f4, f5, f6, f7, f8, f9, f10, f11, f12, f13, f14, f15, f16, f17, f18, f19, f20, f21, f22, f23, f24, f25, f26, f27, f28, f29, f30, f31, fa] : List Addr).getD k 0, ca := fun k => ([g0, g1, g2] : List Addr).getD k g0, xa := xas, P := l.prog, w := w, tb := [(lP0, ("law" : Str) ++ ".<locals>." ++ "<lambda>")] } sub cs cls rs K mg := by
    refine ⟨fun x hx => ?_, fun x d hx => ?_, fun k x hx => ?_, fun k hx => ?_, fun c k hx => ?_, ⟨rfl, rfl⟩⟩
    · simp only [bnames, List.mem_cons, List.not_mem_nil, or_false] at hx
      rcases hx with rfl | rfl | rfl | rfl | rfl | rfl | rfl | rfl | rfl | rfl | rfl | rfl | rfl | rfl | rfl | rfl | rfl
      · exact PySem.W.mg_none_of X G z_len
      · exact PySem.W.mg_none_of X G z_abs
      · exact PySem.W.mg_none_of X G z_int
      · exact PySem.W.mg_none_of X G z_sum
      · exact PySem.W.mg_none_of X G z_min
      · exact PySem.W.mg_none_of X G z_max
      · exact PySem.W.mg_none_of X G z_all
      · exact PySem.W.mg_none_of X G z_tuple
      · exact PySem.W.mg_none_of X G z_list
      · exact PySem.W.mg_none_of X G z_sorted
      · exact PySem.W.mg_none_of X G z_set
      · exact PySem.W.mg_none_of X G z_isinstance
      · exact PySem.W.mg_none_of X G z_range
      · exact PySem.W.mg_none_of X G z_enumerate
      · exact PySem.W.mg_none_of X G z_zip
      · exact PySem.W.mg_none_of X G z_str
      · exact PySem.W.mg_none_of X G z_bool
    · unfold cs at hx
      rw [List.lookup_cons] at hx
      split at hx
      · rename_i hb
        obtain rfl := eq_of_beq hb
        cases hx
        exact cst_tup X G ua0 ul0 uz0 uc0
      rw [List.lookup_cons] at hx
      split at hx
      · rename_i hb
        obtain rfl := eq_of_beq hb
        cases hx
        exact cst_lit X G ua1 uc1
      cases hx
    · match k, hx with
      | 0, hx => cases hx; exact ⟨PySem.W.mg_of X G ga0, gk0⟩
      | 1, hx => cases hx; exact ⟨PySem.W.mg_of X G ga1, gk1⟩
      | 2, hx => cases hx; exact ⟨PySem.W.mg_of X G ga2, gk2⟩
      | k + 3, hx => simp [cls] at hx
    · match k, hx with
      | 0, hx => exact ⟨gx0, gb0, gt0⟩
      | 1, hx => exact ⟨gx1, gb1, gt1⟩
      | 2, hx => exact ⟨gx2, gb2, gt2⟩
      | k + 3, hx => simp [rs] at hx
    · match k, hx with
      | 0, hx => match c with
        | 0 => exact exm_by gb0 gi0 gt0 gs0_0
        | 1 => exact exm_by gb0 gi0 gt0 gs1_0
        | 2 => exact exm_by gb0 gi0 gt0 gs2_0
        | c + 3 => exact exm_by gb0 gi0 gt0 gs0_0
      | 1, hx => match c with
        | 0 => exact exm_by gb1 gi1 gt1 gs0_1
        | 1 => exact exm_by gb1 gi1 gt1 gs1_1
        | 2 => exact exm_by gb1 gi1 gt1 gs2_1
        | c + 3 => exact exm_by gb1 gi1 gt1 gs0_1
      | 2, hx => match c with
        | 0 => exact exm_by gb2 gi2 gt2 gs0_2
        | 1 => exact exm_by gb2 gi2 gt2 gs1_2
        | 2 => exact exm_by gb2 gi2 gt2 gs2_2
        | c + 3 => exact exm_by gb2 gi2 gt2 gs0_2
      | k + 3, hx => exact absurd (show k + 3 < 3 from hx) (by omega)
  have F0 := fun_mk (st := topS 8) l0 c0 k0
  have b0 := F0.binds (ps := p_is_from) fun _ _ _ _ _ _ us hl => match us, hl with | [_, _, _], _ => rfl
  have F1 := fun_mk (st := topS 9) l1 c1 k1
  have b1 := F1.binds (ps := p_is_tuple) fun _ _ _ _ _ _ us hl => match us, hl with | [_, _, _], _ => rfl
  have F2 := fun_mk (st := topS 10) l2 c2 k2
  have b2 := F2.binds (ps := p_is_rule) fun _ _ _ _ _ _ us hl => match us, hl with | [_], _ => rfl
  have F3 := fun_mk (st := topS 11) l3 c3 k3
  have b3 := F3.binds (ps := p_has_house) fun _ _ _ _ _ _ us hl => match us, hl with | [_], _ => rfl
  have F4 := fun_mk (st := topS 12) l4 c4 k4
  have b4 := F4.binds (ps := p_need_house) fun _ _ _ _ _ _ us hl => match us, hl with | [_], _ => rfl
  have F5 := fun_mk (st := topS 13) l5 c5 k5
  have b5 := F5.binds (ps := p_all_wishes) fun _ _ _ _ _ _ us hl => match us, hl with | [_], _ => rfl
  have F6 := fun_mk (st := topS 15) l6 c6 k6
  have b6 := F6.binds (ps := p_first_standing) fun _ _ _ _ _ _ us hl => match us, hl with | [_], _ => rfl
  have F7 := fun_mk (st := topS 16) l7 c7 k7
  have b7 := F7.binds (ps := p_who_may) fun _ _ _ _ _ _ us hl => match us, hl with | [_, _, _], _ => rfl
  have F8 := fun_mk (st := topS 17) l8 c8 k8
  have b8 := F8.binds (ps := p_with_dues) fun _ _ _ _ _ _ us hl => match us, hl with | [_, _, _], _ => rfl
  have F9 := fun_mk (st := topS 18) l9 c9 k9
  have b9 := F9.binds (ps := p_sum_of) fun _ _ _ _ _ _ us hl => match us, hl with | [_, _], _ => rfl
  have F10 := fun_mk (st := topS 19) l10 c10 k10
  have b10 := F10.binds (ps := p_cut_off) fun _ _ _ _ _ _ us hl => match us, hl with | [_, _], _ => rfl
  have F11 := fun_mk (st := topS 20) l11 c11 k11
  have b11 := F11.binds (ps := p_picked) fun _ _ _ _ _ _ us hl => match us, hl with | [_, _, _, _], _ => rfl
  have F12 := fun_mk (st := topS 21) l12 c12 k12
  have b12 := F12.binds (ps := p_book_behind) fun _ _ _ _ _ _ us hl => match us, hl with | [_, _, _, _], _ => rfl
  have F13 := fun_mk (st := topS 22) l13 c13 k13
  have b13 := F13.binds (ps := p_run_behind) fun _ _ _ _ _ _ us hl => match us, hl with | [_, _, _], _ => rfl
  have F14 := fun_mk (st := topS 23) l14 c14 k14
  have b14 := F14.binds (ps := p_day_behind) fun _ _ _ _ _ _ us hl => match us, hl with | [_, _, _], _ => rfl
  have F15 := fun_mk (st := topS 25) l15 c15 k15
  have b15 := F15.binds (ps := p_need_seen) fun _ _ _ _ _ _ us hl => match us, hl with | [_, _], _ => rfl
  have F16 := fun_mk (st := topS 26) l16 c16 k16
  have b16 := F16.binds (ps := p_fitting) fun _ _ _ _ _ _ us hl => match us, hl with | [_, _], _ => rfl
  have F17 := fun_mk (st := topS 27) l17 c17 k17
  have b17 := F17.binds (ps := p_standings_told) fun _ _ _ _ _ _ us hl => match us, hl with | [_, _], _ => rfl
  have F18 := fun_mk (st := topS 28) l18 c18 k18
  have b18 := F18.binds (ps := p_can_follow) fun _ _ _ _ _ _ us hl => match us, hl with | [_, _, _], _ => rfl
  have F19 := fun_mk (st := topS 29) l19 c19 k19
  have b19 := F19.binds (ps := p_wishes_told) fun _ _ _ _ _ _ us hl => match us, hl with | [_, _, _], _ => rfl
  have F20 := fun_mk (st := topS 31) l20 c20 k20
  have b20 := F20.binds (ps := p_law_source) fun _ _ _ _ _ _ us hl => match us, hl with | [_, _], _ => rfl
  have F21 := fun_mk (st := topS 32) l21 c21 k21
  have b21 := F21.binds (ps := p_law_draw) fun _ _ _ _ _ _ us hl => match us, hl with | [_, _], _ => rfl
  have F22 := fun_mk (st := topS 33) l22 c22 k22
  have b22 := F22.binds (ps := p_law_choice) fun _ _ _ _ _ _ us hl => match us, hl with | [_, _], _ => rfl
  have F23 := fun_mk (st := topS 34) l23 c23 k23
  have b23 := F23.binds (ps := p_law_house) fun _ _ _ _ _ _ us hl => match us, hl with | [_, _], _ => rfl
  have F24 := fun_mk (st := topS 35) l24 c24 k24
  have b24 := F24.binds (ps := p_law_wishes) fun _ _ _ _ _ _ us hl => match us, hl with | [_], _ => rfl
  have F25 := fun_mk (st := topS 36) l25 c25 k25
  have b25 := F25.binds (ps := p_law_row) fun _ _ _ _ _ _ us hl => match us, hl with | [_, _, _], _ => rfl
  have F26 := fun_mk (st := topS 37) l26 c26 k26
  have b26 := F26.binds (ps := p_law_first) fun _ _ _ _ _ _ us hl => match us, hl with | [_], _ => rfl
  have F27 := fun_mk (st := topS 38) l27 c27 k27
  have b27 := F27.binds (ps := p_law_whom) fun _ _ _ _ _ _ us hl => match us, hl with | [_, _, _, _], _ => rfl
  have F28 := fun_mk (st := topS 39) l28 c28 k28
  have b28 := F28.binds (ps := p_law_day) fun _ _ _ _ _ _ us hl => match us, hl with | [_, _, _], _ => rfl
  have F29 := fun_mk (st := topS 40) l29 c29 k29
  have b29 := F29.binds (ps := p_law_led) fun _ _ _ _ _ _ us hl => match us, hl with | [_, _], _ => rfl
  have F30 := fun_mk (st := topS 41) l30 c30 k30
  have b30 := F30.binds (ps := p_law_fitting) fun _ _ _ _ _ _ us hl => match us, hl with | [_, _], _ => rfl
  have F31 := fun_mk (st := topS 42) l31 c31 k31
  have b31 := F31.binds (ps := p_law_right) fun _ _ _ _ _ _ us hl => match us, hl with | [_, _], _ => rfl
  have F32 := fun_mk (st := topS 44) l32 c32 k32
  have b32 := F32.binds (ps := p_law) fun _ _ _ _ _ _ us hl => match us, hl with | [_], _ => rfl
  have FW33 := fun_mk (st := topS 43) l33 c33 k33
  have bW33 := FW33.binds (ps := [("call" : Str)]) fun _ _ _ _ _ _ us hl => match us, hl with | [_], _ => rfl
  have at33 : AtrOk K { fa := fun k => ([f0, f1, f2, f3, f4, f5, f6, f7, f8, f9, f10, f11, f12, f13, f14, f15, f16, f17, f18, f19, f20, f21, f22, f23, f24, f25, f26, f27, f28, f29, f30, f31, fa] : List Addr).getD k 0, ca := fun k => ([g0, g1, g2] : List Addr).getD k g0, xa := xas, P := l.prog, w := w, tb := [(lP0, ("law" : Str) ++ ".<locals>." ++ "<lambda>")] } [(1, .con (.str "seen")), (2, .con (.str "index"))] := by
    intro k hk
    simp at hk
  have lC0 := PySem.W.codeHd_of_K X lh0
  have lE0 := lr0
  refine ⟨PySem.W.fnOf "law" "law" (defArgs (topS 44)) (defBody (topS 44)) (defScope (topS 44)) .none kV32 dc32 pm32 an32 cd32 ct32, [(lc0, lP0)], spLawT K [(lP0, ("law" : Str) ++ ".<locals>." ++ "<lambda>")] (cc tl_33 32), fun p hp => (by simp only [List.mem_cons, List.not_mem_nil, or_false] at hp; rcases hp with rfl <;> first | exact lE0), fun p hp => (by simp only [List.mem_cons, List.not_mem_nil, or_false] at hp; rcases hp with rfl <;> first | exact no_tab X nt lE0), fun p hp => (by simp only [List.mem_cons, List.not_mem_nil, or_false] at hp; rcases hp with rfl <;> first | exact lC0), fun s v => .of_eq rfl, fun H a ns hl _ hH hS => ?_, fun base _ _ TB => ?_⟩
  · exact ⟨a, ns, rfl, hl, fun p hp => (by simp only [List.mem_cons, List.not_mem_nil, or_false] at hp; rcases hp with rfl <;> first | exact LamX.TabS.nil (hH (lc0, lP0) (by simp))), hS, fun z hz => LT ns hl z hz, fun _ => rfl⟩
  have wk : WordsOk l.prog w K mg base { fa := fun k => ([f0, f1, f2, f3, f4, f5, f6, f7, f8, f9, f10, f11, f12, f13, f14, f15, f16, f17, f18, f19, f20, f21, f22, f23, f24, f25, f26, f27, f28, f29, f30, f31, fa] : List Addr).getD k 0, ca := fun k => ([g0, g1, g2] : List Addr).getD k g0, xa := xas, P := l.prog, w := w, tb := [(lP0, ("law" : Str) ++ ".<locals>." ++ "<lambda>")] } wd := by
    intro x k c hh hx
    unfold wd at hx
    rw [List.lookup_cons] at hx
    split at hx
    · rename_i hb
      obtain rfl := eq_of_beq hb
      cases hx
      exact word_def kn FW33 bW33 (PySem.W.mg_of X G a33) s_law_word k_law_word (.inr (by simp)) at33
    cases hx
  have lf_law : true = true → LamFact base mg { fa := fun k => ([f0, f1, f2, f3, f4, f5, f6, f7, f8, f9, f10, f11, f12, f13, f14, f15, f16, f17, f18, f19, f20, f21, f22, f23, f24, f25, f26, f27, f28, f29, f30, f31, fa] : List Addr).getD k 0, ca := fun k => ([g0, g1, g2] : List Addr).getD k g0, xa := xas, P := l.prog, w := w, tb := [(lP0, ("law" : Str) ++ ".<locals>." ++ "<lambda>")] } "law" (PySem.W.fnOf "law" "law" (defArgs (topS 44)) (defBody (topS 44)) (defScope (topS 44)) .none kV32 dc32 pm32 an32 cd32 ct32) := fun _ => ⟨lc0, lP0, TB (lc0, lP0) (by simp), lq0, by simp, fun p hp e => (by simp only [List.mem_cons, List.not_mem_nil, or_false] at hp; rcases hp with rfl <;> first | rfl )⟩
  have T0 := tab_nil (g := { fa := fun k => ([f0, f1, f2, f3, f4, f5, f6, f7, f8, f9, f10, f11, f12, f13, f14, f15, f16, f17, f18, f19, f20, f21, f22, f23, f24, f25, f26, f27, f28, f29, f30, f31, fa] : List Addr).getD k 0, ca := fun k => ([g0, g1, g2] : List Addr).getD k g0, xa := xas, P := l.prog, w := w, tb := [(lP0, ("law" : Str) ++ ".<locals>." ++ "<lambda>")] }) (cf := cc tl_0) (P := l.prog) (w := w) (K := K) (mg := mg) (base := base)
  have T1 := tab_cfL (fns := fns) (r := tl_0) T0 kn wk rfl rfl F0 b0 (PySem.W.mg_of X G a0) s_is_from k_is_from
  have T2 := tab_cfL (fns := fns) (r := tl_1) T1 kn wk rfl rfl F1 b1 (PySem.W.mg_of X G a1) s_is_tuple k_is_tuple
  have T3 := tab_cfL (fns := fns) (r := tl_2) T2 kn wk rfl rfl F2 b2 (PySem.W.mg_of X G a2) s_is_rule k_is_rule
  have T4 := tab_cfL (fns := fns) (r := tl_3) T3 kn wk rfl rfl F3 b3 (PySem.W.mg_of X G a3) s_has_house k_has_house
  have T5 := tab_cfL (fns := fns) (r := tl_4) T4 kn wk rfl rfl F4 b4 (PySem.W.mg_of X G a4) s_need_house k_need_house
  have T6 := tab_cfL (fns := fns) (r := tl_5) T5 kn wk rfl rfl F5 b5 (PySem.W.mg_of X G a5) s_all_wishes k_all_wishes
  have T7 := tab_cfL (fns := fns) (r := tl_6) T6 kn wk rfl rfl F6 b6 (PySem.W.mg_of X G a6) s_first_standing k_first_standing
  have T8 := tab_cfL (fns := fns) (r := tl_7) T7 kn wk rfl rfl F7 b7 (PySem.W.mg_of X G a7) s_who_may k_who_may
  have T9 := tab_cfL (fns := fns) (r := tl_8) T8 kn wk rfl rfl F8 b8 (PySem.W.mg_of X G a8) s_with_dues k_with_dues
  have T10 := tab_cfL (fns := fns) (r := tl_9) T9 kn wk rfl rfl F9 b9 (PySem.W.mg_of X G a9) s_sum_of k_sum_of
  have T11 := tab_cfL (fns := fns) (r := tl_10) T10 kn wk rfl rfl F10 b10 (PySem.W.mg_of X G a10) s_cut_off k_cut_off
  have T12 := tab_cfL (fns := fns) (r := tl_11) T11 kn wk rfl rfl F11 b11 (PySem.W.mg_of X G a11) s_picked k_picked
  have T13 := tab_cfL (fns := fns) (r := tl_12) T12 kn wk rfl rfl F12 b12 (PySem.W.mg_of X G a12) s_book_behind k_book_behind
  have T14 := tab_cfL (fns := fns) (r := tl_13) T13 kn wk rfl rfl F13 b13 (PySem.W.mg_of X G a13) s_run_behind k_run_behind
  have T15 := tab_cfL (fns := fns) (r := tl_14) T14 kn wk rfl rfl F14 b14 (PySem.W.mg_of X G a14) s_day_behind k_day_behind
  have T16 := tab_cfL (fns := fns) (r := tl_15) T15 kn wk rfl rfl F15 b15 (PySem.W.mg_of X G a15) s_need_seen k_need_seen
  have T17 := tab_cfL (fns := fns) (r := tl_16) T16 kn wk rfl rfl F16 b16 (PySem.W.mg_of X G a16) s_fitting k_fitting
  have T18 := tab_cfL (fns := fns) (r := tl_17) T17 kn wk rfl rfl F17 b17 (PySem.W.mg_of X G a17) s_standings_told k_standings_told
  have T19 := tab_cfL (fns := fns) (r := tl_18) T18 kn wk rfl rfl F18 b18 (PySem.W.mg_of X G a18) s_can_follow k_can_follow
  have T20 := tab_cfL (fns := fns) (r := tl_19) T19 kn wk rfl rfl F19 b19 (PySem.W.mg_of X G a19) s_wishes_told k_wishes_told
  have T21 := tab_cfL (fns := fns) (r := tl_20) T20 kn wk rfl rfl F20 b20 (PySem.W.mg_of X G a20) s_law_source k_law_source
  have T22 := tab_cfL (fns := fns) (r := tl_21) T21 kn wk rfl rfl F21 b21 (PySem.W.mg_of X G a21) s_law_draw k_law_draw
  have T23 := tab_cfL (fns := fns) (r := tl_22) T22 kn wk rfl rfl F22 b22 (PySem.W.mg_of X G a22) s_law_choice k_law_choice
  have T24 := tab_cfL (fns := fns) (r := tl_23) T23 kn wk rfl rfl F23 b23 (PySem.W.mg_of X G a23) s_law_house k_law_house
  have T25 := tab_cfL (fns := fns) (r := tl_24) T24 kn wk rfl rfl F24 b24 (PySem.W.mg_of X G a24) s_law_wishes k_law_wishes
  have T26 := tab_cfL (fns := fns) (r := tl_25) T25 kn wk rfl rfl F25 b25 (PySem.W.mg_of X G a25) s_law_row k_law_row
  have T27 := tab_cfL (fns := fns) (r := tl_26) T26 kn wk rfl rfl F26 b26 (PySem.W.mg_of X G a26) s_law_first k_law_first
  have T28 := tab_cfL (fns := fns) (r := tl_27) T27 kn wk rfl rfl F27 b27 (PySem.W.mg_of X G a27) s_law_whom k_law_whom
  have T29 := tab_cfL (fns := fns) (r := tl_28) T28 kn wk rfl rfl F28 b28 (PySem.W.mg_of X G a28) s_law_day k_law_day
  have T30 := tab_cfL (fns := fns) (r := tl_29) T29 kn wk rfl rfl F29 b29 (PySem.W.mg_of X G a29) s_law_led k_law_led
  have T31 := tab_cfL (fns := fns) (r := tl_30) T30 kn wk rfl rfl F30 b30 (PySem.W.mg_of X G a30) s_law_fitting k_law_fitting
  have T32 := tab_cfL (fns := fns) (r := tl_31) T31 kn wk rfl rfl F31 b31 (PySem.W.mg_of X G a31) s_law_right k_law_right
  refine (defOk (fu := fu) (tl := 96) (lm := true) F32 s_law kn wk T32 lf_law k_law).imp fun vs H Q E h => ?_
  refine (trim_ref _).spec (m := cc tl_33 32) ?_
  exact spLawT.of h
end LawT
namespace LawT
open PySem EV

/-! ### houses and rows, in plain words -/
def isFrom (v : D) (lo hi : Int) : Bool := match v with
  | .int i => decide (lo ≤ i) && decide (i ≤ hi)
  | _ => false
def isTup (v : D) (lo hi : Int) : Bool := match v with
  | .tup ds => decide (lo ≤ (ds.length : Int)) && decide ((ds.length : Int) ≤ hi)
  | _ => false
def isRule (v : D) : Bool := match v with
  | .tup [.str x, b, c] => if x = ("points" : Str) then isFrom b 1 3 && isFrom c 0 3 else if x = ("first" : Str) ∨ x = ("turns" : Str) then isFrom b 0 0 && isFrom c 0 3 else false
  | _ => false
def isHouse (v : D) : Bool := match v with
  | .tup [.tup ss, r] => (decide (2 ≤ ss.length) && decide (ss.length ≤ 3)) && ss.all (fun s => isFrom s 1 3) && isRule r
  | _ => false
def S_is_from (cf : Call) : Prop := ∀ v lo hi st, D.pl v = true → cf 0 [v, .int lo, .int hi] st = .ok (.bl (isFrom v lo hi)) st
def S_is_tuple (cf : Call) : Prop := ∀ v lo hi st, D.pl v = true → cf 1 [v, .int lo, .int hi] st = .ok (.bl (isTup v lo hi)) st
def S_is_rule (cf : Call) : Prop := ∀ v st, D.pl v = true → v.dep ≤ 50 → cf 2 [v] st = .ok (.bl (isRule v)) st
def S_has_house (cf : Call) : Prop := ∀ v st, D.pl v = true → v.dep ≤ 50 → cf 3 [v] st = .ok (.bl (isHouse v)) st
def S_need_house (cf : Call) : Prop := ∀ v st, D.pl v = true → v.dep ≤ 50 → isHouse v = true → cf 4 [v] st = .ok .non st
section
variable {cf : Call} {st : Store}
theorem sp_is_from {v : D} {lo hi : Int} (hv : v.pl = true) : evDef cf sub fu 3 b_is_from [v, .int lo, .int hi] st = .ok (.bl (isFrom v lo hi)) st := by
  cases v <;> simp [D.pl] at hv <;> simp [evDef_fin, b_is_from, isFrom]
  rename_i i
  by_cases h : lo ≤ i <;> simp [h]
theorem sp_is_tuple {v : D} {lo hi : Int} (hv : v.pl = true) : evDef cf sub fu 3 b_is_tuple [v, .int lo, .int hi] st = .ok (.bl (isTup v lo hi)) st := by
  cases v <;> simp [D.pl] at hv <;> simp [evDef_fin, b_is_tuple, isTup]
  rename_i ds
  by_cases h : lo ≤ (ds.length : Int) <;> simp [h]
theorem sp_is_rule (h0 : S_is_from cf) (h1 : S_is_tuple cf) {v : D} (hv : v.pl = true) (hd : v.dep ≤ 50) : evDef cf sub fu 3 b_is_rule [v] st = .ok (.bl (isRule v)) st := by
  by_cases h3 : ∃ a b c, v = .tup [a, b, c]
  · obtain ⟨a, b, c, rfl⟩ := h3
    have hp : a.pl = true ∧ b.pl = true ∧ c.pl = true := by simpa [D.pl, D.pls] using hv
    obtain ⟨ha, hb, hc⟩ := hp
    cases a with
    | str x =>
      have ho : okD (.str x) = true := okD_of ha (by simp [D.dep])
      have hk : okD (.lst [.str "first", .str "points", .str "turns"]) = true := by decide +kernel
      have hk2 : okD (.str "points") = true := by decide +kernel
      by_cases e1 : x = ("points" : Str)
      · subst e1
        simp [evDef_fin, b_is_rule, h1 _ _ _ _ hv, isTup, evCmp, evIn, ho, hk, eqv_str, h0 _ _ _ _ hb, isRule]
        cases isFrom b 1 3 <;> simp [h0 _ _ _ _ hc]
      · by_cases e2 : x = ("first" : Str) ∨ x = ("turns" : Str)
        · have e2' : (("first" : Str) = x ∨ ("points" : Str) = x ∨ ("turns" : Str) = x) := by rcases e2 with e | e <;> simp [e]
          have e2'' : (decide (("first" : Str) = x) || (decide (("points" : Str) = x) || decide (("turns" : Str) = x))) = true := by simpa using e2'
          simp [evDef_fin, b_is_rule, h1 _ _ _ _ hv, isTup, evCmp, evIn, ho, hk, hk2, eqv_str, e1, e2, e2'', h0 _ _ _ _ hb, isRule]
          cases isFrom b 0 0 <;> simp [h0 _ _ _ _ hc]
        · have e3 : ¬ (("first" : Str) = x) := fun z => e2 (.inl z.symm)
          have e4 : ¬ (("turns" : Str) = x) := fun z => e2 (.inr z.symm)
          have e5 : ¬ (("points" : Str) = x) := fun z => e1 z.symm
          simp [evDef_fin, b_is_rule, h1 _ _ _ _ hv, isTup, evCmp, evIn, ho, hk, eqv_str, e1, e2, e3, e4, e5, isRule]
    | _ => simp [evDef_fin, b_is_rule, h1 _ _ _ _ hv, isTup, isRule] <;> simp [D.pl] at ha
  · have hr : isRule v = false := by
      unfold isRule
      split
      · rename_i x b c; exact absurd ⟨_, _, _, rfl⟩ h3
      · rfl
    have ht : isTup v 3 3 = false := by
      cases v <;> simp [isTup]
      rename_i ds
      intro q
      match ds, q, h3 with
      | [a, b, c], _, h3 => exact absurd ⟨a, b, c, rfl⟩ h3
      | [], q, _ => simp at q
      | [_], q, _ => simp at q
      | [_, _], q, _ => simp at q
      | _ :: _ :: _ :: _ :: _, q, _ => simp; omega
    simp [evDef_fin, b_is_rule, h1 _ _ _ _ hv, ht, hr]
end
end LawT

namespace LawT
open PySem EV

/-! ### wishes and rows, in plain words -/
def toI : D → Int
  | .int i => i
  | _ => 0
def risesI (ns : List Int) : Bool := (List.zipWith (fun a b => decide (a < b)) ns (ns.drop 1)).all id
def isWish (p : Int) (v : D) : Bool := match v with
  | .tup ds => ds.all (fun d => isFrom d 0 (p - 1)) && risesI (ds.map toI)
  | _ => false
def isRow (p : Int) (v : D) : Bool := match v with
  | .tup ws => decide (ws.length ≤ 100) && ws.all (isWish p)
  | _ => false
theorem from_int {d : D} {lo hi : Int} (h : isFrom d lo hi = true) : d = .int (toI d) ∧ lo ≤ toI d ∧ toI d ≤ hi := by
  cases d <;> simp [isFrom] at h
  exact ⟨rfl, h.1, h.2⟩
theorem ints_of_from {ds : List D} {lo hi : Int} (h : (ds.all fun d => isFrom d lo hi) = true) : ds = (ds.map toI).map D.int ∧ ∀ n ∈ ds.map toI, lo ≤ n ∧ n ≤ hi := by
  rw [List.all_eq_true] at h
  refine ⟨?_, fun n hn => ?_⟩
  · rw [List.map_map]
    conv => lhs; rw [← List.map_id ds]
    apply List.map_congr_left
    intro d hd
    exact (from_int (h d hd)).1
  · obtain ⟨d, hd, rfl⟩ := List.mem_map.mp hn
    exact (from_int (h d hd)).2
theorem rises_iff : ∀ ns : List Int, risesI ns = true ↔ ns.Pairwise (· < ·)
  | [] => by simp [risesI]
  | [x] => by simp [risesI]
  | x :: y :: r => by
    have ih := rises_iff (y :: r)
    unfold risesI at ih ⊢
    simp only [List.drop_one, List.tail_cons, List.zipWith_cons_cons, List.all_cons, Bool.and_eq_true, id_eq, decide_eq_true_eq] at ih ⊢
    rw [List.pairwise_cons]
    constructor
    · rintro ⟨h1, h2⟩
      have h3 := ih.mp (by simpa using h2)
      refine ⟨fun z hz => ?_, h3⟩
      rcases List.mem_cons.mp hz with e | e
      · omega
      · have := (List.pairwise_cons.mp h3).1 z e
        omega
    · rintro ⟨h1, h2⟩
      exact ⟨h1 y List.mem_cons_self, by simpa using ih.mpr h2⟩
theorem rises_sorted (ns : List Int) : risesI ns = decide (ns = sortI (nubI ns)) := by
  rw [Bool.eq_iff_iff, rises_iff, decide_eq_true_eq]
  constructor
  · intro h
    exact srs_uniq h fun k => Iff.rfl
  · intro h
    obtain ⟨h1, h2⟩ := sortI_ok (nubI ns)
    have nd : (sortI (nubI ns)).Nodup := (h1.nodup_iff).mpr (nub_nodup ns)
    rw [h]
    have := h2.and nd
    exact this.imp fun q => by omega
/-- few numbers rise between 0 and p - 1 -/
theorem rises_len : ∀ (ns : List Int) (lo hi : Int), ns.Pairwise (· < ·) → (∀ n ∈ ns, lo ≤ n ∧ n ≤ hi) → lo ≤ hi + 1 → (ns.length : Int) ≤ hi - lo + 1
  | [], lo, hi, _, _, h => by simp; omega
  | x :: xs, lo, hi, h, k, hl => by
    obtain ⟨h1, h2⟩ := List.pairwise_cons.mp h
    have hx := k x List.mem_cons_self
    have := rises_len xs (x + 1) hi h2 (fun n hn => ⟨by have := h1 n hn; omega, (k n (List.mem_cons_of_mem _ hn)).2⟩) (by omega)
    rw [List.length_cons]
    omega
section
variable {cf : Call} {st : Store}
theorem sp_has_house (h0 : S_is_from cf) (h1 : S_is_tuple cf) (h2 : S_is_rule cf) {v : D} (hv : v.pl = true) (hd : v.dep ≤ 50) : evDef cf sub fu 2 b_has_house [v] st = .ok (.bl (isHouse v)) st := by
  by_cases h3 : ∃ a b, v = .tup [a, b]
  · obtain ⟨a, b, rfl⟩ := h3
    have hp : a.pl = true ∧ b.pl = true := by simpa [D.pl, D.pls] using hv
    obtain ⟨ha, hb⟩ := hp
    have hdb : b.dep ≤ 50 := by simp [D.dep, D.deps] at hd; omega
    cases a with
    | tup ss =>
      have hss : D.pls ss = true := by simpa [D.pl] using ha
      have hl : lcLoop (k_turn cf (.call 0 (.cons (.var 1) (.cons (.con (.int 1)) (.cons (.con (.int 3)) .nil)))) (.name 1) .none [some (.tup [.tup ss, b]), none]) ss [] st = .ok (ss.map fun s => .bl (isFrom s 1 3)) st := by
        rw [lc_map (F := fun s => .bl (isFrom s 1 3))]
        · rfl
        · intro d hdm
          simp [k_turn_eq, h0 _ _ _ _ (pls_mem hss hdm)]
      by_cases q : 2 ≤ ss.length ∧ ss.length ≤ 3
      · have q1 : (2 : Int) ≤ (ss.length : Int) := by omega
        have q2 : (ss.length : Int) ≤ 3 := by omega
        simp [evDef_fin, b_has_house, h1 _ _ _ _ hv, h1 _ _ _ _ ha, isTup, q1, q2, hl, evBlt, bools_map, isHouse, q.1, q.2]
        by_cases qa : ∀ x ∈ ss, isFrom x 1 3 = true
        · have : (ss.all fun s => isFrom s 1 3) = true := List.all_eq_true.mpr qa
          simp [List.all_map, Function.comp_def, this, h2 _ _ hb hdb]
        · have : (ss.all fun s => isFrom s 1 3) = false := by
            rw [← Bool.not_eq_true, List.all_eq_true]; exact qa
          simp [List.all_map, Function.comp_def, this]
      · have q1 : (decide ((2 : Int) ≤ (ss.length : Int)) && decide ((ss.length : Int) ≤ 3)) = false := by
          rw [← Bool.not_eq_true]
          simp
          omega
        have q2 : (decide (2 ≤ ss.length) && decide (ss.length ≤ 3)) = false := by
          rw [← Bool.not_eq_true]
          simp
          omega
        simp [evDef_fin, b_has_house, h1 _ _ _ _ hv, h1 _ _ _ _ ha, isTup, q1, isHouse, q2]
    | _ => simp [evDef_fin, b_has_house, h1 _ _ _ _ hv, h1 _ _ _ _ ha, isTup, isHouse] <;> simp [D.pl] at ha
  · have hr : isHouse v = false := by
      unfold isHouse
      split
      · exact absurd ⟨_, _, rfl⟩ h3
      · rfl
    have ht : isTup v 2 2 = false := by
      cases v <;> simp [isTup]
      rename_i ds
      intro q
      match ds, q, h3 with
      | [a, b], _, h3 => exact absurd ⟨a, b, rfl⟩ h3
      | [], q, _ => simp at q
      | [_], q, _ => simp at q
      | _ :: _ :: _ :: _, q, _ => simp; omega
    simp [evDef_fin, b_has_house, h1 _ _ _ _ hv, ht, hr]
theorem sp_need_house (h3 : S_has_house cf) {v : D} (hv : v.pl = true) (hd : v.dep ≤ 50) (hh : isHouse v = true) : evDef cf sub fu 1 b_need_house [v] st = .ok .non st := by
  simp [evDef_fin, b_need_house, h3 _ _ hv hd, hh]
def ltP : D → D
  | .tup [.int a, .int b] => .bl (decide (a < b))
  | _ => .non
theorem house_len {ss : List D} {r : D} (h : isHouse (.tup [.tup ss, r]) = true) : 2 ≤ ss.length ∧ ss.length ≤ 3 := by
  simp only [isHouse, Bool.and_eq_true, decide_eq_true_eq] at h
  exact h.1.1
end
end LawT

namespace LawT
open PySem EV

/-! ### the law's draws -/
def bigM : Int := 2147483249
/-- lists of ints, nothing else -/
def Cln (st : Store) : Prop := ∀ o ∈ st, ∃ ns : List Int, o = .lst (ns.map .int)
theorem unds_ints (n : Nat) : ∀ l : List Int, D.unds n (l.map .int) = true
  | [] => rfl
  | x :: l => by rw [List.map_cons, D.unds, unds_ints n l]; rfl
theorem Cln.und {st : Store} (h : Cln st) : stUnd st = true := by
  unfold stUnd
  rw [List.all_eq_true]
  intro o ho
  obtain ⟨ns, rfl⟩ := h o ho
  rw [O.und]
  exact unds_ints _ ns
theorem Cln.set {st : Store} (h : Cln st) (l : Nat) (a b : Int) : Cln (st.set l (.lst [.int a, .int b])) := fun o ho => by
  rcases List.mem_or_eq_of_mem_set ho with z | z
  · exact h o z
  · exact ⟨[a, b], z⟩
theorem Cln.push {st : Store} (h : Cln st) (a b : Int) : Cln (st ++ [.lst [.int a, .int b]]) := fun o ho => by
  rcases List.mem_append.mp ho with z | z
  · exact h o z
  · exact ⟨[a, b], List.mem_singleton.mp z⟩
/-- a source of draws stands at l -/
def Src (st : Store) (l : Nat) : Prop := Cln st ∧ ∃ a b, st[l]? = some (.lst [.int a, .int b]) ∧ 0 ≤ a ∧ 0 ≤ b ∧ b < bigM
/-- the script, whichever way it is known -/
def Scr (ns : List Int) (z : D) : Prop := z = .rol (ns.map .int) ∨ z = .lst (ns.map .int)
def S_law_source (cf : Call) : Prop := ∀ (ns : List Int) (z : D) (k : Int) st, Scr ns z → 0 ≤ k → k ≤ 1000 → ∃ a b, cf 20 [z, .int k] st = .ok (.loc st.length) (st ++ [.lst [.int a, .int b]]) ∧ 0 ≤ a ∧ 0 ≤ b ∧ b < bigM
def S_law_draw (cf : Call) : Prop := ∀ l many st, Src st l → 0 < many → many < 1073741824 → ∃ r st', cf 21 [.loc l, .int many] st = .ok (.int r) st' ∧ 0 ≤ r ∧ r < many ∧ st'.length = st.length ∧ Src st' l
def S_law_choice (cf : Call) : Prop := ∀ l ds st, Src st l → ds ≠ [] → ds.length < 1000000 → ∃ d st', cf 22 [.loc l, .lst ds] st = .ok d st' ∧ d ∈ ds ∧ st'.length = st.length ∧ Src st' l
theorem fmod_pos {a b : Int} (h : 0 < b) : 0 ≤ a.fmod b ∧ a.fmod b < b := by
  rw [Int.fmod_eq_emod_of_nonneg a (by omega)]
  exact ⟨Int.emod_nonneg a (by omega), Int.emod_lt_of_pos a h⟩
theorem fdiv_pos {a b : Int} (h : 0 < b) (ha : 0 ≤ a) : 0 ≤ a.fdiv b := by
  rw [Int.fdiv_eq_ediv_of_nonneg a (by omega)]
  exact Int.ediv_nonneg ha (by omega)
section
variable {cf : Call} {st : Store}
theorem sp_law_source {ns : List Int} {z : D} {k : Int} (hz : Scr ns z) (hk : 0 ≤ k) (hk2 : k ≤ 1000) : ∃ a b, evDef cf sub fu 3 b_law_source [z, .int k] st = .ok (.loc st.length) (st ++ [.lst [.int a, .int b]]) ∧ 0 ≤ a ∧ 0 ≤ b ∧ b < bigM := by
  have fin : ∀ cell : Int, 0 ≤ cell → (evDef cf sub fu 3 b_law_source [z, .int k] st = .ok (.loc st.length) (st ++ [.lst [.int (if cell > 10 ^ 17 then cell else 0), .int ((cell * 16807 + 9001 * k + 61).fmod 2147483249)]])) → ∃ a b, evDef cf sub fu 3 b_law_source [z, .int k] st = .ok (.loc st.length) (st ++ [.lst [.int a, .int b]]) ∧ 0 ≤ a ∧ 0 ≤ b ∧ b < bigM := by
    intro cell hc e
    refine ⟨_, _, e, ?_, (fmod_pos (by decide)).1, (fmod_pos (by decide)).2⟩
    split <;> omega
  by_cases q : k < (ns.length : Int)
  · have hj : k.toNat < ns.length := by omega
    refine fin (if ns[k.toNat] < 0 then -ns[k.toNat] else ns[k.toNat]) (by split <;> omega) ?_
    generalize hcell : (if ns[k.toNat] < 0 then -ns[k.toNat] else ns[k.toNat]) = cell
    by_cases q2 : (100000000000000000 : Int) < cell <;> rcases hz with rfl | rfl <;> simp [evDef_fin, b_law_source, q, hk, hj, hcell, evBin, smallI, q2]
  · refine fin (89 * k + 37) (by omega) ?_
    have q2 : ¬ ((100000000000000000 : Int) < 89 * k + 37) := by omega
    rcases hz with rfl | rfl <;> simp [evDef_fin, b_law_source, q, evBin, smallI, q2]
theorem seq_loc {l : Nat} {ds : List D} (h : st[l]? = some (.lst ds)) : seqOf st (.loc l) = some ds := by
  simp [seqOf, deref, h]
theorem sp_law_draw {l : Nat} {many : Int} (h : Src st l) (hm : 0 < many) (hm2 : many < 1073741824) : ∃ r st', evDef cf sub fu 4 b_law_draw [.loc l, .int many] st = .ok (.int r) st' ∧ 0 ≤ r ∧ r < many ∧ st'.length = st.length ∧ Src st' l := by
  obtain ⟨hc, a, b, e, ha, hb, hb2⟩ := h
  have hl : l < st.length := (List.getElem?_eq_some_iff.mp e).1
  have n0 : ¬ many = 0 := by omega
  have n1 : many.natAbs < 1073741824 := by omega
  by_cases q : 0 < a
  · refine ⟨a.fmod many, st.set l (.lst [.int (a.fdiv many), .int b]), ?_, (fmod_pos hm).1, (fmod_pos hm).2, by simp, ⟨hc.set _ _ _, a.fdiv many, b, by simp [hl], fdiv_pos hm ha, hb, hb2⟩⟩
    simp [evDef_fin, b_law_draw, evIdx, seq_loc e, q, evBin, n0, n1, evSto, e]
  · have h1 := fmod_pos (a := b * 48271 + 71) (b := 2147483249) (by decide)
    generalize hb1 : (b * 48271 + 71).fmod 2147483249 = b1 at h1
    have hs1 : -18446744073709551616 < b1 := by omega
    have hs2 : b1 < 18446744073709551616 := by omega
    have e1 : (st.set l (.lst [.int a, .int b1]))[l]? = some (.lst [.int a, .int b1]) := by simp [hl]
    have k2 := seq_loc e1
    refine ⟨(((b1 * (b1.fdiv 37 + 22)).fmod 2147483179).fdiv 32).fmod many, st.set l (.lst [.int a, .int b1]), ?_, (fmod_pos hm).1, (fmod_pos hm).2, by simp, ⟨hc.set _ _ _, a, b1, e1, ha, h1.1, h1.2⟩⟩
    simp [evDef_fin, b_law_draw, evIdx, seq_loc e, q, evBin, n0, n1, evSto, e, smallI, hb1, k2, hs1, hs2]
theorem sp_law_choice (h11 : S_law_draw cf) {l : Nat} {ds : List D} (h : Src st l) (hn : ds ≠ []) (hz : ds.length < 1000000) : ∃ d st', evDef cf sub fu 2 b_law_choice [.loc l, .lst ds] st = .ok d st' ∧ d ∈ ds ∧ st'.length = st.length ∧ Src st' l := by
  have hp : 0 < ds.length := List.length_pos_iff.mpr hn
  obtain ⟨r, st', e, r0, r1, hl, hs⟩ := h11 l ds.length st h (by omega) (by omega)
  have hr : r.toNat < ds.length := by omega
  refine ⟨ds[r.toNat], st', ?_, List.getElem_mem hr, hl, hs⟩
  simp [evDef_fin, b_law_choice, e, r0, r1, hr]
end
end LawT

namespace LawT
open PySem EV

/-! ### houses that are drawn -/
structure Hs (h : D) : Prop where
  form : ∃ ss x m c, h = .tup [.tup ss, .tup [.str x, .int m, .int c]] ∧ (ss.length = 2 ∨ ss.length = 3) ∧ c ≤ 2 ∧ (ss.length = 3 → m ≤ 1)
  ok : isHouse h = true
  pl : h.pl = true
  dep : h.dep ≤ 2
/-- of so many people at most -/
def Few (mp : Int) (h : D) : Prop := mp = 2 → ∃ a b r, h = .tup [.tup [a, b], r]
def S_law_house (cf : Call) : Prop := ∀ l mp st, Src st l → (mp = 2 ∨ mp = 3) → ∃ h st', cf 23 [.loc l, .int mp] st = .ok h st' ∧ (Hs h ∧ Few mp h) ∧ st'.length = st.length ∧ Src st' l
section
variable {cf : Call} {st : Store}
theorem cmp_eq_s {x y : Str} (hx : okStr x = true) (hy : okStr y = true) : evCmp st .eq (.str x) (.str y) = some (decide (x = y)) := by
  have h1 : okD (.str x) = true := okD_of hx (by simp [D.dep])
  have h2 : okD (.str y) = true := okD_of hy (by simp [D.dep])
  simp [evCmp, h1, h2, eqv_str]
theorem sp_law_house (h11 : S_law_draw cf) (h12 : S_law_choice cf) {l : Nat} {mp : Int} (h : Src st l) (hmp : mp = 2 ∨ mp = 3) : ∃ h st', evDef cf sub fu 7 b_law_house [.loc l, .int mp] st = .ok h st' ∧ (Hs h ∧ Few mp h) ∧ st'.length = st.length ∧ Src st' l := by
  obtain ⟨r, st1, e1, r0, r1, hl1, hs1⟩ := h11 l (mp - 1) st h (by omega) (by omega)
  obtain ⟨xs, st2, e2, ⟨hl2, hs2⟩, hn, hx⟩ := lc_inv (f := k_turn cf (.bin .add (.con (.int 1)) (.call 21 (.cons (.var 0) (.cons (.con (.int 3)) .nil)))) (.name 4) .none [some (.loc l), some (.int mp), some (.int (2 + r)), none, none, none, none])
    (fun s => s.length = st.length ∧ Src s l) (fun x => isFrom x 1 3 = true) (st := st1) ((List.range (2 + r).toNat).map fun (i : Nat) => .int (i : Int)) [] ⟨hl1, hs1⟩ (by
      intro d hd s ⟨q1, q2⟩
      obtain ⟨r', s', e', r0', r1', hl', hs'⟩ := h11 l 3 s q2 (by decide) (by decide)
      refine ⟨.int (1 + r'), s', ?_, ⟨by omega, hs'⟩, ?_⟩
      · simp [k_turn_eq, e']
      · simp [isFrom]; omega)
  have hn' : xs.length = (2 + r).toNat := by rw [hn]; simp
  have hb : -4611686018427387904 ≤ 2 + r := by omega
  have hb2 : 2 + r ≤ ((most : Nat) : Int) := by unfold most; omega
  obtain ⟨k, st3, e3, hk, hl3, hs3⟩ := h12 l [.str "first", .str "turns", .str "points", .str "points"] st2 hs2 (by simp) (by simp)
  obtain ⟨x, rfl, hxk⟩ : ∃ x : Str, k = .str x ∧ (x = ("points" : Str) ∨ x = ("first" : Str) ∨ x = ("turns" : Str)) := by
    simp at hk
    rcases hk with rfl | rfl | rfl <;> simp
  have hok : okStr x = true := by rcases hxk with rfl | rfl | rfl <;> decide +kernel
  have hok2 : okStr "points" = true := by decide +kernel
  have hall : (xs.all fun s => isFrom s 1 3) = true := List.all_eq_true.mpr hx
  have hpl : D.pls xs = true := pls_of fun d hd => by
    have := (from_int (hx d hd)).1
    rw [this]; rfl
  have hdp : D.deps xs ≤ 0 := deps_of fun d hd => by
    have := (from_int (hx d hd)).1
    rw [this]; simp [D.dep]
  have hlen : xs.length = 2 ∨ xs.length = 3 := by omega
  have fin : ∀ (m : Int) (st4 : Store), st4.length = st.length → Src st4 l → isRule (.tup [.str x, .int m, .int 0]) = true → (xs.length = 3 → m ≤ 1) → ∀ c : Int, 0 ≤ c → c ≤ 2 → Hs (.tup [.tup xs, .tup [.str x, .int m, .int c]]) ∧ Few mp (.tup [.tup xs, .tup [.str x, .int m, .int c]]) := by
    intro m st4 _ _ hr hm3 c c0 c1
    have few : Few mp (.tup [.tup xs, .tup [.str x, .int m, .int c]]) := fun h2 => by
      have : xs.length = 2 := by omega
      match xs, this with
      | [a, b], _ => exact ⟨a, b, _, rfl⟩
    refine ⟨⟨⟨xs, x, m, c, rfl, hlen, c1, hm3⟩, ?_, ?_, ?_⟩, few⟩
    · have hr' : isRule (.tup [.str x, .int m, .int c]) = true := by
        unfold isRule at hr ⊢
        simp only [] at hr ⊢
        have hc3 : isFrom (.int c) 0 3 = true := by simp [isFrom]; omega
        rw [hc3]
        have h03 : isFrom (.int 0) 0 3 = true := by simp [isFrom]
        rw [h03] at hr
        exact hr
      simp only [isHouse, hall, hr', Bool.and_true, Bool.and_eq_true, decide_eq_true_eq]
      omega
    · simp [D.pl, D.pls, hpl, hok]
    · simp [D.dep, D.deps]; omega
  by_cases hp : x = ("points" : Str)
  · subst hp
    obtain ⟨m, st4, e4, m0, m1, hl4, hs4⟩ := h11 l (if 2 + r = 2 then 3 else 1) st3 hs3 (by split <;> decide) (by split <;> decide)
    obtain ⟨c, st5, e5, hc, hl5, hs5⟩ := h12 l [.int 0, .int 0, .int 1, .int 2] st4 hs4 (by simp) (by simp)
    obtain ⟨ci, rfl, c0, c1⟩ : ∃ ci : Int, c = .int ci ∧ 0 ≤ ci ∧ ci ≤ 2 := by
      simp at hc
      rcases hc with rfl | rfl | rfl <;> simp
    have hm1 : xs.length = 3 → 1 + m ≤ 1 := fun q => by
      have q1 : ¬ (2 + r = 2) := by omega
      rw [if_neg q1] at m1
      omega
    refine ⟨.tup [.tup xs, .tup [.str "points", .int (1 + m), .int ci]], st5, ?_, fin (1 + m) st5 (by omega) hs5 ?_ (fun q => hm1 q) ci c0 c1, by omega, hs5⟩
    · by_cases hr2 : r = 0
      · have hd : decide (2 + r = 2) = true := decide_eq_true (by omega)
        rw [if_pos (by omega)] at e4
        simp [evDef_fin, b_law_house, e1, hb, hb2, e2, e3, cmp_eq_s hok hok2, hd, e4, e5]
      · have hd : decide (2 + r = 2) = false := decide_eq_false (by omega)
        rw [if_neg (by omega)] at e4
        simp [evDef_fin, b_law_house, e1, hb, hb2, e2, e3, cmp_eq_s hok hok2, hd, e4, e5]
    · have m3 : m < 3 := by split at m1 <;> omega
      simp [isRule, isFrom]; omega
  · obtain ⟨c, st5, e5, hc, hl5, hs5⟩ := h12 l [.int 0, .int 0, .int 1, .int 2] st3 hs3 (by simp) (by simp)
    obtain ⟨ci, rfl, c0, c1⟩ : ∃ ci : Int, c = .int ci ∧ 0 ≤ ci ∧ ci ≤ 2 := by
      simp at hc
      rcases hc with rfl | rfl | rfl <;> simp
    refine ⟨.tup [.tup xs, .tup [.str x, .int 0, .int ci]], st5, ?_, fin 0 st5 (by omega) hs5 ?_ (fun _ => by decide) ci c0 c1, by omega, hs5⟩
    · simp [evDef_fin, b_law_house, e1, hb, hb2, e2, e3, cmp_eq_s hok hok2, hp, e5]
    · have hxf : x = ("first" : Str) ∨ x = ("turns" : Str) := by rcases hxk with h | h | h <;> simp_all
      simp [isRule, isFrom, hp, hxf]
/-! ### all wishes, a row -/
def wl2 : List D := [rowD [], rowD [0], rowD [0, 1], rowD [1]]
def wl3 : List D := [rowD [], rowD [0], rowD [0, 1], rowD [0, 1, 2], rowD [0, 2], rowD [1], rowD [1, 2], rowD [2]]
theorem sp_law_wishes_2 {a b r : D} : evDef cf sub fu 4 b_law_wishes [.tup [.tup [a, b], r]] st = .ok (.lst wl2) st := by kernel_rfl
theorem sp_law_wishes_3 {a b c r : D} : evDef cf sub fu 4 b_law_wishes [.tup [.tup [a, b, c], r]] st = .ok (.lst wl3) st := by kernel_rfl
theorem wl2_ok : ∀ d ∈ wl2, isWish 2 d = true ∧ d.pl = true ∧ d.dep ≤ 1 := by decide +kernel
theorem wl3_ok : ∀ d ∈ wl3, isWish 3 d = true ∧ d.pl = true ∧ d.dep ≤ 1 := by decide +kernel
end
end LawT

namespace LawT
open PySem EV

/-! ### houses, wishes, standings, in plain words -/
inductive Kd where
  | first | turns | points
  deriving DecidableEq
def Kd.s : Kd → Str
  | .first => "first"
  | .turns => "turns"
  | .points => "points"
structure Hou where
  sh : List Int
  kd : Kd
  mark : Int
  most : Int
abbrev Hou.d (h : Hou) : D := .tup [it h.sh, .tup [.str h.kd.s, .int h.mark, .int h.most]]
structure Hou.Ok (h : Hou) : Prop where
  len : h.sh.length = 2 ∨ h.sh.length = 3
  sh : ∀ s ∈ h.sh, 1 ≤ s ∧ s ≤ 3
  mark : (h.kd = .points ∧ 1 ≤ h.mark ∧ h.mark ≤ 3) ∨ (h.kd ≠ .points ∧ h.mark = 0)
  most : 0 ≤ h.most ∧ h.most ≤ 3
abbrev Run := Option (Int × Int)
def runD : Run → D
  | none => .tup []
  | some (p, k) => .tup [.int p, .int k]
abbrev Stg := List Int × Run
abbrev stD (s : Stg) : D := .tup [it s.1, runD s.2]
def givD : Option Int → D
  | none => .non
  | some p => .int p
def inn (h : Hou) (p : Int) : Prop := 0 ≤ p ∧ p < h.sh.length
def WOk (h : Hou) (w : List Int) : Prop := w.Pairwise (· < ·) ∧ ∀ p ∈ w, inn h p
def whoMay (h : Hou) (run : Run) (w : List Int) : List Int := match run with
  | none => w
  | some (p, k) => if 0 < h.most ∧ k = h.most ∧ w ≠ [p] then w.filter (fun x => decide (x ≠ p)) else w
def dues (h : Hou) (pts w : List Int) : List Int := pts.mapIdx fun i o => o + if (i : Int) ∈ w then h.sh.getD i 0 else 0
def sumOf (h : Hou) (w : List Int) : Int := (w.map fun p => h.sh.getD p.toNat 0).sum
def cutOff (n m : Int) : Int := if (if n < m then n else m) > -m then (if n < m then n else m) else -m
def maxI (l : List Int) : Int := match l with
  | [] => 0
  | n :: r => r.foldl (fun m x => if x > m then x else m) n
/-- those of the book who may -/
def pickL (h : Hou) (book may w : List Int) : List Int := match h.kd with
  | .turns => book.filter fun p => decide (p ∈ may)
  | .first => may
  | .points => may.filter fun p => decide ((dues h book w).getD p.toNat 0 = maxI (may.map fun p => (dues h book w).getD p.toNat 0))
def bookB (h : Hou) (book w : List Int) (g : Int) : List Int := match h.kd with
  | .turns => book.filter (fun p => decide (p ≠ g)) ++ [g]
  | .first => book
  | .points => (dues h book w).mapIdx fun i o => cutOff (o - if (i : Int) = g then sumOf h w else 0) h.mark
def runB (h : Hou) (run : Run) (g : Int) : Run := if h.most = 0 then none else match run with
  | none => some (g, 1)
  | some (p, k) => if p = g then some (g, if k + 1 < h.most then k + 1 else h.most) else some (g, 1)
def day (h : Hou) (s : Stg) (w : List Int) : Stg × Option Int :=
  if w = [] then (s, none) else ((bookB h s.1 w ((pickL h s.1 (whoMay h s.2 w) w).headD 0), runB h s.2 ((pickL h s.1 (whoMay h s.2 w) w).headD 0)), some ((pickL h s.1 (whoMay h s.2 w) w).headD 0))
def iota (n : Nat) : List Int := (List.range n).map fun (i : Nat) => (i : Int)
def st0 (h : Hou) : Stg := (match h.kd with
  | .turns => iota h.sh.length
  | .points => List.replicate h.sh.length 0
  | .first => [], none)
/-- what a standing is like -/
structure SOk (h : Hou) (s : Stg) : Prop where
  book : (match h.kd with
    | .turns => s.1.Perm (iota h.sh.length)
    | .points => s.1.length = h.sh.length ∧ ∀ x ∈ s.1, -h.mark ≤ x ∧ x ≤ h.mark
    | .first => s.1 = [])
  run : match s.2 with
    | none => True
    | some (p, k) => inn h p ∧ 1 ≤ k ∧ k ≤ h.most

section
variable {cf : Call} {st : Store}
theorem cmp_turns (k : Kd) : evCmp st .eq (.str k.s) (.str "turns") = some (decide (k = .turns)) := by cases k <;> kernel_rfl
theorem cmp_first (k : Kd) : evCmp st .eq (.str k.s) (.str "first") = some (decide (k = .first)) := by cases k <;> kernel_rfl
theorem cmp_points (k : Kd) : evCmp st .eq (.str k.s) (.str "points") = some (decide (k = .points)) := by cases k <;> kernel_rfl
theorem ne_nil_2 (a b : Int) : evCmp st .ne (.tup [.int a, .int b]) (.tup []) = some true := by
  exact cmp_ne_it (st := st) [a, b] []
theorem ne_nil_0 : evCmp st .ne (.tup []) (.tup []) = some false := by
  exact cmp_ne_it (st := st) [] []
theorem ne_one (w : List Int) (p : Int) : evCmp st .ne (.tup (w.map .int)) (.tup [.int p]) = some (!decide (w = [p])) := by
  exact cmp_ne_it (st := st) w [p]
theorem ne_self (p : Int) : evCmp st .ne (.tup [.int p]) (.tup [.int p]) = some false := by
  have := cmp_ne_it (st := st) [p] [p]
  rw [decide_eq_true rfl] at this
  exact this
theorem eq_nil_w (w : List Int) : evCmp st .eq (.tup (w.map .int)) (.tup []) = some (decide (w = [])) := by
  exact cmp_eq_it (st := st) w []
theorem blt_sum_ints (l : List Int) : evBlt st .sum [.lst (l.map .int)] = some (.int l.sum) := by simp [evBlt]
theorem sp_first_standing {h : Hou} (ho : h.Ok) : evDef cf sub fu 3 b_first_standing [h.d] st = .ok (stD (st0 h)) st := by
  have h1 : (h.sh.length : Int) ≤ ((most : Nat) : Int) := by unfold most; have := ho.len; omega
  have h2 : -4611686018427387904 ≤ (h.sh.length : Int) := by omega
  cases hk : h.kd with
  | turns => simp [evDef_fin, b_first_standing, cmp_turns, hk, evTrg, h1, h2, st0, stD, runD, iota, List.map_map, Function.comp_def]
  | first => simp [evDef_fin, b_first_standing, cmp_turns, cmp_points, hk, st0, stD, runD]
  | points =>
    rcases ho.len with q | q
    · simp [evDef_fin, b_first_standing, cmp_turns, cmp_points, hk, st0, stD, runD, q, evBin]
    · simp [evDef_fin, b_first_standing, cmp_turns, cmp_points, hk, st0, stD, runD, q, evBin]
theorem sp_who_may {h : Hou} {run : Run} {w : List Int} : evDef cf sub fu 5 b_who_may [h.d, runD run, it w] st = .ok (it (whoMay h run w)) st := by
  cases run with
  | none =>
    by_cases h1 : 0 < h.most <;> simp [evDef_fin, b_who_may, runD, whoMay, h1, ne_nil_0]
  | some pk =>
    obtain ⟨p, k⟩ := pk
    by_cases h1 : 0 < h.most
    · by_cases h2 : k = h.most
      · by_cases h3 : w = [p]
        · simp [it, evDef_fin, b_who_may, runD, whoMay, h1, h2, h3, ne_nil_2, ne_self]
        · simp [evDef_fin, b_who_may, runD, whoMay, h1, h2, h3, ne_nil_2, ne_one w p]
          rw [lc_ints_filter (p := fun x => decide (x ≠ p))]
          · simp
          · intro x hx
            by_cases hxp : x = p <;> simp [k_turn_eq, hxp]
      · simp [evDef_fin, b_who_may, runD, whoMay, h1, h2, ne_nil_2]
    · simp [evDef_fin, b_who_may, runD, whoMay, h1]
theorem sp_with_dues {h : Hou} {pts w : List Int} (hl : pts.length ≤ h.sh.length) : evDef cf sub fu 5 b_with_dues [h.d, it pts, it w] st = .ok (it (dues h pts w)) st := by
  simp [evDef_fin, b_with_dues]
  rw [lc_enm (F := fun i o => o + if (i : Int) ∈ w then h.sh.getD i 0 else 0)]
  · simp [dues]
  · intro i x hx
    have hi : i < h.sh.length := by have := (List.getElem?_eq_some_iff.mp hx).1; omega
    by_cases hw : (i : Int) ∈ w <;> simp [k_turn_eq, cmp_in_it, hw, hi]
theorem sp_sum_of {h : Hou} {w : List Int} (hw : ∀ p ∈ w, inn h p) : evDef cf sub fu 3 b_sum_of [h.d, it w] st = .ok (.int (sumOf h w)) st := by
  simp [evDef_fin, b_sum_of]
  rw [lc_ints_map (F := fun p => h.sh.getD p.toNat 0)]
  · simp [blt_sum_ints, sumOf, -List.map_map]
  · intro p hp
    obtain ⟨h0, h1⟩ := hw p hp
    have := get_it h0 h1
    simp [k_turn_eq, h0, h1, this]
theorem sp_cut_off {n m : Int} : evDef cf sub fu 2 b_cut_off [.int n, .int m] st = .ok (.int (cutOff n m)) st := by
  simp [evDef_fin, b_cut_off, evBlt, cutOff]
end
end LawT
namespace LawT
open PySem EV

theorem fold_max : ∀ (r : List Int) (n : Int), r.foldl (fun m x => if x > m then x else m) n ∈ n :: r ∧ ∀ x ∈ n :: r, x ≤ r.foldl (fun m x => if x > m then x else m) n
  | [], n => by simp
  | y :: r, n => by
    rw [List.foldl_cons]
    obtain ⟨h1, h2⟩ := fold_max r (if y > n then y else n)
    have h3 := h2 _ List.mem_cons_self
    have hv : (if y > n then y else n) = y ∧ n ≤ (if y > n then y else n) ∨ (if y > n then y else n) = n ∧ y ≤ (if y > n then y else n) := by split <;> omega
    generalize (if y > n then y else n) = v at h1 h2 h3 hv ⊢
    refine ⟨?_, fun x hx => ?_⟩
    · rcases List.mem_cons.mp h1 with e | e
      · rw [e]
        rcases hv with ⟨hv, _⟩ | ⟨hv, _⟩
        · rw [hv]; exact List.mem_cons_of_mem _ List.mem_cons_self
        · rw [hv]; exact List.mem_cons_self
      · exact List.mem_cons_of_mem _ (List.mem_cons_of_mem _ e)
    · rcases List.mem_cons.mp hx with e | hx
      · subst e; omega
      · rcases List.mem_cons.mp hx with e | hx
        · subst e; omega
        · exact h2 x (List.mem_cons_of_mem _ hx)
theorem maxI_mem {l : List Int} (h : l ≠ []) : maxI l ∈ l := by
  cases l with
  | nil => exact absurd rfl h
  | cons n r => exact (fold_max r n).1
theorem maxI_le {l : List Int} {x : Int} (h : x ∈ l) : x ≤ maxI l := by
  cases l with
  | nil => cases h
  | cons n r => exact (fold_max r n).2 x h
theorem blt_max_ints {st : Store} {l : List Int} (h : l ≠ []) : evBlt st .max1 [.lst (l.map .int)] = some (.int (maxI l)) := by
  cases l with
  | nil => exact absurd rfl h
  | cons n r => simp only [evBlt, intsOf_map]; rfl
theorem dues_len (h : Hou) (pts w : List Int) : (dues h pts w).length = pts.length := by unfold dues; rw [List.length_mapIdx]
theorem pick_ne {h : Hou} {book may w : List Int} (hm : may ≠ []) (hb : h.kd = .turns → ∀ p ∈ may, p ∈ book) : pickL h book may w ≠ [] := by
  unfold pickL
  obtain ⟨p, hp⟩ := List.exists_mem_of_ne_nil _ hm
  cases hk : h.kd with
  | turns =>
    intro e
    have : p ∈ book.filter fun p => decide (p ∈ may) := List.mem_filter.mpr ⟨hb hk p hp, by simpa using hp⟩
    simp only at e
    rw [e] at this
    cases this
  | first => exact hm
  | points =>
    simp only
    have h1 : (may.map fun p => (dues h book w).getD p.toNat 0) ≠ [] := by simpa using hm
    obtain ⟨q, hq, e⟩ := List.mem_map.mp (maxI_mem h1)
    intro z
    have : q ∈ may.filter fun p => decide ((dues h book w).getD p.toNat 0 = maxI (may.map fun p => (dues h book w).getD p.toNat 0)) := List.mem_filter.mpr ⟨hq, by simpa using e⟩
    rw [z] at this
    cases this
def S_first_standing (cf : Call) : Prop := ∀ (h : Hou) st, h.Ok → cf 6 [h.d] st = .ok (stD (st0 h)) st
def S_who_may (cf : Call) : Prop := ∀ (h : Hou) run w st, cf 7 [h.d, runD run, it w] st = .ok (it (whoMay h run w)) st
def S_with_dues (cf : Call) : Prop := ∀ (h : Hou) pts w st, pts.length ≤ h.sh.length → cf 8 [h.d, it pts, it w] st = .ok (it (dues h pts w)) st
def S_sum_of (cf : Call) : Prop := ∀ (h : Hou) w st, (∀ p ∈ w, inn h p) → cf 9 [h.d, it w] st = .ok (.int (sumOf h w)) st
def S_cut_off (cf : Call) : Prop := ∀ n m st, cf 10 [.int n, .int m] st = .ok (.int (cutOff n m)) st
def S_picked (cf : Call) : Prop := ∀ (h : Hou) book may w st, (∀ p ∈ may, inn h p) → may ≠ [] → (h.kd = .turns → ∀ p ∈ may, p ∈ book) → (h.kd = .points → book.length = h.sh.length) → cf 11 [h.d, it book, it may, it w] st = .ok (.int ((pickL h book may w).headD 0)) st
def S_book_behind (cf : Call) : Prop := ∀ (h : Hou) book w g st, book.length ≤ 1000 → (∀ p ∈ w, inn h p) → (h.kd = .points → book.length = h.sh.length) → cf 12 [h.d, it book, it w, .int g] st = .ok (it (bookB h book w g)) st
def S_run_behind (cf : Call) : Prop := ∀ (h : Hou) run g st, cf 13 [h.d, runD run, .int g] st = .ok (runD (runB h run g)) st
section
variable {cf : Call} {st : Store}
theorem sp_picked (h11 : S_with_dues cf) {h : Hou} {book may w : List Int} (hi : ∀ p ∈ may, inn h p) (hm : may ≠ []) (hb : h.kd = .turns → ∀ p ∈ may, p ∈ book) (hl : h.kd = .points → book.length = h.sh.length) :
    evDef cf sub fu 8 b_picked [h.d, it book, it may, it w] st = .ok (.int ((pickL h book may w).headD 0)) st := by
  have hn := pick_ne (w := w) hm hb
  cases hk : h.kd with
  | turns =>
    simp only [pickL, hk] at hn ⊢
    generalize hgen : book.filter (fun p => decide (p ∈ may)) = l at hn ⊢
    simp [evDef_fin, b_picked, cmp_turns, hk]
    rw [lc_ints_filter (p := fun p => decide (p ∈ may))]
    · rw [hgen]
      cases l with
      | nil => exact absurd rfl hn
      | cons x r => simp
    · intro x hx
      by_cases hxm : x ∈ may <;> simp [k_turn_eq, cmp_in_it, hxm]
  | first =>
    simp only [pickL, hk]
    cases may with
    | nil => exact absurd rfl hm
    | cons x r => simp [evDef_fin, b_picked, cmp_turns, cmp_first, hk]
  | points =>
    have hlen := hl hk
    simp only [pickL, hk] at hn ⊢
    have hd := dues_len h book w
    have hg : ∀ p ∈ may, 0 ≤ p ∧ p < ((dues h book w).length : Int) := fun p hp => by rw [hd, hlen]; exact hi p hp
    have h11' := h11 h book w st (by omega)
    generalize dues h book w = ds at hn hg h11' ⊢
    generalize hgen : may.filter (fun p => decide (ds.getD p.toNat 0 = maxI (may.map fun p => ds.getD p.toNat 0))) = l at hn ⊢
    simp [evDef_fin, b_picked, cmp_turns, cmp_first, hk, h11']
    rw [lc_ints_map (F := fun p => ds.getD p.toNat 0)]
    · have h1 : (may.map fun p => ds.getD p.toNat 0) ≠ [] := by simpa using hm
      generalize hM : maxI (may.map fun p => ds.getD p.toNat 0) = M at hgen
      have hM2 := blt_max_ints (st := st) h1
      rw [hM] at hM2
      simp only [R.bind_ok, k_lc2_f, k_xs1_eq, evXs_nil, k_xs2_eq, k_blt_eq, hM2, ofOpt_some, R.thn_ok, k_asg_eq]
      simp
      rw [lc_ints_filter (p := fun p => decide (ds.getD p.toNat 0 = M))]
      · rw [hgen]
        cases l with
        | nil => exact absurd rfl hn
        | cons x r => simp
      · intro x hx
        obtain ⟨h0, h2⟩ := hg x hx
        have h3 := get_it h0 h2
        generalize ds.getD x.toNat 0 = v at h3 ⊢
        obtain ⟨h5, h4⟩ := List.getElem?_eq_some_iff.mp h3
        by_cases hxm : v = M <;> simp [k_turn_eq, h0, h2, h4, hxm]
    · intro x hx
      obtain ⟨h0, h2⟩ := hg x hx
      have h3 := get_it h0 h2
      simp [k_turn_eq, h0, h2, h3]
theorem sp_book_behind (h11 : S_with_dues cf) (h12 : S_sum_of cf) (h13 : S_cut_off cf) {h : Hou} {book w : List Int} {g : Int} (hz : book.length ≤ 1000) (hw : ∀ p ∈ w, inn h p) (hl : h.kd = .points → book.length = h.sh.length) :
    evDef cf sub fu 11 b_book_behind [h.d, it book, it w, .int g] st = .ok (it (bookB h book w g)) st := by
  cases hk : h.kd with
  | turns =>
    simp only [bookB, hk]
    simp [evDef_fin, b_book_behind, cmp_turns, hk]
    rw [lc_ints_filter (p := fun p => decide (p ≠ g))]
    · have : (book.filter fun p => decide (p ≠ g)).length ≤ 1000 := Nat.le_trans (List.length_filter_le _ _) hz
      have h2 : (book.filter fun p => decide (p ≠ g)).length + 1 ≤ most := by unfold most; omega
      simp [evBin, it] at h2 ⊢
      simp [h2]
    · intro x hx
      by_cases hxm : x = g <;> simp [k_turn_eq, hxm]
  | first =>
    simp only [bookB, hk]
    simp [evDef_fin, b_book_behind, cmp_turns, cmp_first, hk]
  | points =>
    have hlen := hl hk
    simp only [bookB, hk]
    simp [evDef_fin, b_book_behind, cmp_turns, cmp_first, hk, h11 h book w st (by omega), h12 h w st hw]
    rw [lc_enm (F := fun i o => cutOff (o - if (i : Int) = g then sumOf h w else 0) h.mark)]
    · simp
    · intro i x hx
      by_cases hi : (i : Int) = g <;> simp [k_turn_eq, hi, h13 _ _ _]
theorem sp_run_behind {h : Hou} {run : Run} {g : Int} : evDef cf sub fu 4 b_run_behind [h.d, runD run, .int g] st = .ok (runD (runB h run g)) st := by
  by_cases h0 : h.most = 0
  · simp [evDef_fin, b_run_behind, runB, h0, runD]
  · cases run with
    | none => simp [evDef_fin, b_run_behind, runB, h0, runD, ne_nil_0]
    | some pk =>
      obtain ⟨p, k⟩ := pk
      by_cases h1 : p = g
      · simp [evDef_fin, b_run_behind, runB, h0, runD, ne_nil_2, h1, evBlt]
      · simp [evDef_fin, b_run_behind, runB, h0, runD, ne_nil_2, h1]
end
end LawT
namespace LawT
open PySem EV

/-! ### what a day keeps -/
theorem may_sub {h : Hou} {run : Run} {w : List Int} : ∀ p ∈ whoMay h run w, p ∈ w := by
  intro p hp
  unfold whoMay at hp
  split at hp
  · exact hp
  · split at hp
    · exact (List.mem_filter.mp hp).1
    · exact hp
theorem may_ne {h : Hou} {run : Run} {w : List Int} (hw : w.Pairwise (· < ·)) (hn : w ≠ []) : whoMay h run w ≠ [] := by
  unfold whoMay
  split
  · exact hn
  · rename_i p k
    split
    · rename_i c
      intro e
      have hall : ∀ x ∈ w, x = p := fun x hx => by
        by_cases hxp : x = p
        · exact hxp
        · have : x ∈ w.filter (fun x => decide (x ≠ p)) := List.mem_filter.mpr ⟨hx, by simpa using hxp⟩
          rw [e] at this; cases this
      match w, hn, hw, hall, c with
      | [x], _, _, hall, c => exact c.2.2 (by rw [hall x List.mem_cons_self])
      | x :: y :: r, _, hw, hall, _ =>
        have h1 := (List.pairwise_cons.mp hw).1 y List.mem_cons_self
        have h2 := hall x List.mem_cons_self
        have h3 := hall y (List.mem_cons_of_mem _ List.mem_cons_self)
        omega
    · exact hn
theorem pick_may {h : Hou} {book may w : List Int} : ∀ p ∈ pickL h book may w, p ∈ may := by
  intro p hp
  unfold pickL at hp
  split at hp
  · simpa using (List.mem_filter.mp hp).2
  · exact hp
  · exact (List.mem_filter.mp hp).1
theorem pick_book {h : Hou} {book may w : List Int} (hk : h.kd = .turns) : ∀ p ∈ pickL h book may w, p ∈ book := by
  intro p hp
  unfold pickL at hp
  rw [hk] at hp
  exact (List.mem_filter.mp hp).1
theorem head_mem {l : List Int} (hn : l ≠ []) : l.headD 0 ∈ l := by
  cases l with
  | nil => exact absurd rfl hn
  | cons x r => exact List.mem_cons_self
/-- who is given the boat -/
def giv (h : Hou) (s : Stg) (w : List Int) : Int := (pickL h s.1 (whoMay h s.2 w) w).headD 0
theorem iota_mem {n : Nat} {p : Int} : p ∈ iota n ↔ 0 ≤ p ∧ p < n := by
  unfold iota
  rw [List.mem_map]
  constructor
  · rintro ⟨i, hi, rfl⟩
    have := List.mem_range.mp hi
    omega
  · rintro ⟨h1, h2⟩
    exact ⟨p.toNat, List.mem_range.mpr (by omega), by omega⟩
theorem iota_nodup (n : Nat) : (iota n).Nodup := by
  unfold iota
  have : ∀ l : List Nat, l.Nodup → (l.map fun (i : Nat) => (i : Int)).Nodup := by
    intro l
    induction l with
    | nil => intro _; exact List.nodup_nil
    | cons x l ih =>
      intro h
      obtain ⟨h1, h2⟩ := List.nodup_cons.mp h
      rw [List.map_cons, List.nodup_cons]
      refine ⟨fun hm => ?_, ih h2⟩
      obtain ⟨y, hy, e⟩ := List.mem_map.mp hm
      have : y = x := by omega
      exact h1 (this ▸ hy)
  exact this _ List.nodup_range
theorem SOk.inbook {h : Hou} {s : Stg} (so : SOk h s) (hk : h.kd = .turns) {p : Int} (hp : inn h p) : p ∈ s.1 := by
  have := so.book
  rw [hk] at this
  exact this.mem_iff.mpr (iota_mem.mpr hp)
theorem SOk.plen {h : Hou} {s : Stg} (so : SOk h s) (hk : h.kd = .points) : s.1.length = h.sh.length := by
  have := so.book
  rw [hk] at this
  exact this.1
theorem SOk.len {h : Hou} {s : Stg} (so : SOk h s) : s.1.length ≤ h.sh.length := by
  have := so.book
  cases hk : h.kd <;> rw [hk] at this
  · rw [show s.1 = [] from this]; exact Nat.zero_le _
  · rw [(show s.1.Perm (iota h.sh.length) from this).length_eq]; simp [iota]
  · rw [this.1]; exact Nat.le_refl _
theorem giv_ne {h : Hou} {s : Stg} {w : List Int} (so : SOk h s) (wo : WOk h w) (hn : w ≠ []) : pickL h s.1 (whoMay h s.2 w) w ≠ [] :=
  pick_ne (may_ne wo.1 hn) fun hk p hp => so.inbook hk (wo.2 p (may_sub p hp))
theorem giv_may {h : Hou} {s : Stg} {w : List Int} (so : SOk h s) (wo : WOk h w) (hn : w ≠ []) : giv h s w ∈ whoMay h s.2 w := pick_may _ (head_mem (giv_ne so wo hn))
theorem giv_w {h : Hou} {s : Stg} {w : List Int} (so : SOk h s) (wo : WOk h w) (hn : w ≠ []) : giv h s w ∈ w := may_sub _ (giv_may so wo hn)
theorem move_perm : ∀ {l : List Int} {g : Int}, l.Nodup → g ∈ l → (l.filter (fun p => decide (p ≠ g)) ++ [g]).Perm l
  | x :: l, g, nd, hm => by
    obtain ⟨h1, h2⟩ := List.nodup_cons.mp nd
    by_cases e : x = g
    · subst e
      have : (x :: l).filter (fun p => decide (p ≠ x)) = l := by
        rw [List.filter_cons, if_neg (by simp)]
        exact List.filter_eq_self.mpr fun y hy => by
          have : y ≠ x := fun z => h1 (z ▸ hy)
          simpa using this
      rw [this]
      exact List.perm_append_comm
    · have hg : g ∈ l := by
        rcases List.mem_cons.mp hm with z | z
        · exact absurd z.symm e
        · exact z
      rw [List.filter_cons, if_pos (by simpa using e), List.cons_append]
      exact (move_perm h2 hg).cons x
theorem cut_in {n m : Int} (hm : 0 ≤ m) : -m ≤ cutOff n m ∧ cutOff n m ≤ m := by
  unfold cutOff
  split <;> split <;> omega
theorem mem_mapIdx' {α β : Type} {f : Nat → α → β} {l : List α} {b : β} (h : b ∈ l.mapIdx f) : ∃ i a, l[i]? = some a ∧ b = f i a := by
  obtain ⟨i, hi⟩ := List.getElem?_of_mem h
  rw [List.getElem?_mapIdx] at hi
  obtain ⟨a, ha, rfl⟩ := Option.map_eq_some_iff.mp hi
  exact ⟨i, a, ha, rfl⟩
theorem book_ok {h : Hou} (ho : h.Ok) {s : Stg} {w : List Int} (so : SOk h s) (wo : WOk h w) (hn : w ≠ []) : (match h.kd with
    | .turns => (bookB h s.1 w (giv h s w)).Perm (iota h.sh.length)
    | .points => (bookB h s.1 w (giv h s w)).length = h.sh.length ∧ ∀ x ∈ bookB h s.1 w (giv h s w), -h.mark ≤ x ∧ x ≤ h.mark
    | .first => bookB h s.1 w (giv h s w) = []) := by
  have hb := so.book
  cases hk : h.kd with
  | first => rw [hk] at hb; simp only [bookB, hk]; exact hb
  | turns =>
    rw [hk] at hb
    simp only [bookB, hk]
    have hb : s.1.Perm (iota h.sh.length) := hb
    exact (move_perm (hb.nodup_iff.mpr (iota_nodup _)) (pick_book hk _ (head_mem (giv_ne so wo hn)))).trans hb
  | points =>
    rw [hk] at hb
    simp only [bookB, hk]
    have hm : 0 ≤ h.mark := by rcases ho.mark with z | z <;> omega
    refine ⟨by rw [List.length_mapIdx, dues_len]; exact hb.1, fun x hx => ?_⟩
    obtain ⟨i, a, _, rfl⟩ := mem_mapIdx' hx
    exact cut_in hm
theorem run_ok {h : Hou} (ho : h.Ok) {s : Stg} {g : Int} (so : SOk h s) (hg : inn h g) : (match runB h s.2 g with
    | none => True
    | some (p, k) => inn h p ∧ 1 ≤ k ∧ k ≤ h.most) := by
  have hr := so.run
  unfold runB
  by_cases h0 : h.most = 0
  · rw [if_pos h0]; trivial
  · rw [if_neg h0]
    have := ho.most
    cases hs : s.2 with
    | none => exact ⟨hg, by omega, by omega⟩
    | some pk =>
      obtain ⟨p, k⟩ := pk
      rw [hs] at hr
      have hr : inn h p ∧ 1 ≤ k ∧ k ≤ h.most := hr
      simp only []
      by_cases e : p = g
      · rw [if_pos e]
        refine ⟨hg, ?_, ?_⟩ <;> split <;> omega
      · rw [if_neg e]
        exact ⟨hg, by omega, by omega⟩
theorem day_ok {h : Hou} (ho : h.Ok) {s : Stg} {w : List Int} (so : SOk h s) (wo : WOk h w) : SOk h (day h s w).1 := by
  unfold day
  by_cases hn : w = []
  · rw [if_pos hn]; exact so
  · rw [if_neg hn]
    exact ⟨book_ok ho so wo hn, run_ok ho so (wo.2 _ (giv_w so wo hn))⟩
theorem st0_ok {h : Hou} (ho : h.Ok) : SOk h (st0 h) := by
  refine ⟨?_, trivial⟩
  unfold st0
  have hm : 0 ≤ h.mark := by rcases ho.mark with z | z <;> omega
  cases hk : h.kd with
  | turns => exact List.Perm.refl _
  | first => rfl
  | points =>
    refine ⟨List.length_replicate, fun x hx => ?_⟩
    rw [(List.mem_replicate.mp hx).2]
    omega
/-! ### rows -/
def ledM (h : Hou) : Stg → List (List Int) → List (Stg × Option Int)
  | _, [] => []
  | s, w :: r => day h s w :: ledM h (day h s w).1 r
def behM (h : Hou) (s : Stg) (row : List (List Int)) : Stg := row.foldl (fun s w => (day h s w).1) s
def ROk (h : Hou) (row : List (List Int)) : Prop := ∀ w ∈ row, WOk h w
abbrev pD (p : Stg × Option Int) : D := .tup [stD p.1, givD p.2]
abbrev rowT (row : List (List Int)) : D := .tup (row.map it)
theorem led_len (h : Hou) : ∀ (row : List (List Int)) (s : Stg), (ledM h s row).length = row.length
  | [], _ => rfl
  | w :: r, s => by rw [ledM, List.length_cons, led_len h r, List.length_cons]
theorem led_last (h : Hou) : ∀ (row : List (List Int)) (s : Stg), row ≠ [] → ∃ g, (ledM h s row)[row.length - 1]? = some (behM h s row, g)
  | [], _, hn => absurd rfl hn
  | [w], s, _ => ⟨_, rfl⟩
  | w :: v :: r, s, _ => by
    obtain ⟨g, e⟩ := led_last h (v :: r) (day h s w).1 (by simp)
    refine ⟨g, ?_⟩
    rw [ledM]
    simp only [List.length_cons] at e ⊢
    simpa [behM] using e
theorem beh_ok {h : Hou} (ho : h.Ok) : ∀ {row : List (List Int)} {s : Stg}, SOk h s → ROk h row → SOk h (behM h s row)
  | [], s, so, _ => so
  | w :: r, s, so, ro => by
    have := beh_ok ho (row := r) (day_ok ho so (ro w List.mem_cons_self)) fun v hv => ro v (List.mem_cons_of_mem _ hv)
    exact this
theorem led_append (h : Hou) : ∀ (a b : List (List Int)) (s : Stg), ledM h s (a ++ b) = ledM h s a ++ ledM h (behM h s a) b
  | [], b, s => rfl
  | w :: a, b, s => by rw [List.cons_append, ledM, led_append h a b, ledM, List.cons_append]; rfl
theorem beh_append (h : Hou) (a b : List (List Int)) (s : Stg) : behM h s (a ++ b) = behM h (behM h s a) b := by unfold behM; rw [List.foldl_append]
/-! ### plain data -/
theorem kd_ok (k : Kd) : okStr k.s = true := by cases k <;> decide +kernel
theorem Hou.pl (h : Hou) : h.d.pl = true := by
  have := pl_it h.sh
  simp only [D.pl, D.pls, Bool.and_true, Bool.and_eq_true] at this ⊢
  exact ⟨this, kd_ok _⟩
theorem Hou.dep (h : Hou) : h.d.dep ≤ 2 := by
  have := dep_it h.sh
  simp only [D.dep, D.deps] at this ⊢
  omega
theorem all_from {l : List Int} {lo hi : Int} (h : ∀ x ∈ l, lo ≤ x ∧ x ≤ hi) : ((l.map D.int).all fun d => isFrom d lo hi) = true := by
  rw [List.all_eq_true]
  intro d hd
  obtain ⟨x, hx, rfl⟩ := List.mem_map.mp hd
  have := h x hx
  simpa [isFrom] using this
theorem Hou.is {h : Hou} (ho : h.Ok) : isHouse h.d = true := by
  have h1 := all_from ho.sh
  have h2 : isRule (.tup [.str h.kd.s, .int h.mark, .int h.most]) = true := by
    have hm := ho.most
    have hk := ho.mark
    have e1 : (("first" : Str) = "points") = False := by decide
    have e2 : (("turns" : Str) = "points") = False := by decide
    cases hkd : h.kd <;> rw [hkd] at hk <;> simp [isRule, isFrom, Kd.s, e1, e2] at hk ⊢ <;> omega
  have h3 := ho.len
  simp only [isHouse, h1, h2, Bool.and_true, List.length_map, Bool.and_eq_true, decide_eq_true_eq]
  omega
theorem runD_pl (r : Run) : (runD r).pl = true := by
  cases r with
  | none => rfl
  | some p => rfl
theorem runD_dep (r : Run) : (runD r).dep ≤ 1 := by
  cases r with
  | none => simp [runD, D.dep, D.deps]
  | some p => simp [runD, D.dep, D.deps]
theorem stD_pl (s : Stg) : (stD s).pl = true := by
  simp only [stD, D.pl, D.pls, Bool.and_true, Bool.and_eq_true]
  exact ⟨by have := pl_it s.1; simpa [D.pl] using this, runD_pl _⟩
theorem stD_dep (s : Stg) : (stD s).dep ≤ 2 := by
  have h1 := dep_it s.1
  have h2 := runD_dep s.2
  simp only [stD, D.dep, D.deps] at h1 h2 ⊢
  omega
theorem givD_pl (o : Option Int) : (givD o).pl = true := by cases o <;> rfl
theorem givD_dep (o : Option Int) : (givD o).dep = 0 := by cases o <;> simp [givD, D.dep]
theorem pD_pl (p : Stg × Option Int) : (pD p).pl = true := by
  have h1 := stD_pl p.1
  have h2 := givD_pl p.2
  rw [pD, D.pl, D.pls, D.pls, D.pls, h1, h2]; rfl
theorem pD_dep (p : Stg × Option Int) : (pD p).dep ≤ 3 := by
  have h1 := stD_dep p.1
  have h2 := givD_dep p.2
  simp only [pD, D.dep, D.deps] at h1 h2 ⊢
  omega
theorem rowT_pl (row : List (List Int)) : (rowT row).pl = true := by
  rw [rowT, D.pl]
  exact pls_of fun d hd => by obtain ⟨w, _, rfl⟩ := List.mem_map.mp hd; exact pl_it w
theorem rowT_dep (row : List (List Int)) : (rowT row).dep ≤ 2 := by
  rw [rowT, D.dep]
  have := deps_of (n := 1) (ds := row.map it) fun d hd => by obtain ⟨w, _, rfl⟩ := List.mem_map.mp hd; rw [dep_it]; exact Nat.le_refl _
  omega
theorem wish_is {h : Hou} {w : List Int} (wo : WOk h w) : isWish h.sh.length (it w) = true := by
  simp only [isWish, Bool.and_eq_true]
  refine ⟨all_from fun x hx => ?_, ?_⟩
  · have := wo.2 x hx
    unfold inn at this
    omega
  · have : (w.map D.int).map toI = w := by rw [List.map_map]; simp [toI, Function.comp_def]
    rw [this]
    exact (rises_iff w).mpr wo.1
theorem is_wish {h : Hou} {d : D} (hw : isWish h.sh.length d = true) : ∃ w, d = it w ∧ WOk h w := by
  cases d with
  | tup ds =>
    simp only [isWish, Bool.and_eq_true] at hw
    obtain ⟨e, q⟩ := ints_of_from hw.1
    refine ⟨ds.map toI, by rw [it, ← e], (rises_iff _).mp hw.2, fun p hp => ?_⟩
    have := q p hp
    unfold inn
    omega
  | _ => simp [isWish] at hw
theorem row_is {h : Hou} {row : List (List Int)} (ro : ROk h row) (hl : row.length ≤ 100) : isRow h.sh.length (rowT row) = true := by
  simp only [isRow, List.length_map, Bool.and_eq_true, decide_eq_true_eq, List.all_eq_true]
  refine ⟨hl, fun d hd => ?_⟩
  obtain ⟨w, hw, rfl⟩ := List.mem_map.mp hd
  exact wish_is (ro w hw)
theorem is_row {h : Hou} {d : D} (hr : isRow h.sh.length d = true) : ∃ row, d = rowT row ∧ ROk h row ∧ row.length ≤ 100 := by
  cases d with
  | tup ws =>
    simp only [isRow, Bool.and_eq_true, decide_eq_true_eq, List.all_eq_true] at hr
    obtain ⟨hl, hall⟩ := hr
    have : ∀ ws : List D, (∀ x ∈ ws, isWish h.sh.length x = true) → ∃ row : List (List Int), ws = row.map it ∧ ROk h row ∧ row.length = ws.length := by
      intro ws
      induction ws with
      | nil => intro _; exact ⟨[], rfl, (fun _ hw => by cases hw), rfl⟩
      | cons x xs ih =>
        intro q
        obtain ⟨w, rfl, wo⟩ := is_wish (q x List.mem_cons_self)
        obtain ⟨row, rfl, ro, hl⟩ := ih fun y hy => q y (List.mem_cons_of_mem _ hy)
        refine ⟨w :: row, rfl, fun v hv => ?_, by simp⟩
        rcases List.mem_cons.mp hv with z | z
        · exact z ▸ wo
        · exact ro v z
    obtain ⟨row, rfl, ro, hl2⟩ := this ws hall
    exact ⟨row, rfl, ro, by omega⟩
  | _ => simp [isRow] at hr
/-- a house that is drawn -/
theorem hs_hou {d : D} (hh : Hs d) : ∃ h : Hou, d = h.d ∧ h.Ok ∧ h.most ≤ 2 ∧ (h.sh.length = 3 → h.mark ≤ 1) := by
  obtain ⟨ss, x, m, c, rfl, hl, hc, hm⟩ := hh.form
  have hi := hh.ok
  simp only [isHouse, Bool.and_eq_true, decide_eq_true_eq] at hi
  obtain ⟨⟨_, h1⟩, h2⟩ := hi
  obtain ⟨e, q⟩ := ints_of_from h1
  have hsl : (ss.map toI).length = ss.length := List.length_map _
  have hk : ∃ k : Kd, x = k.s ∧ ((k = .points ∧ 1 ≤ m ∧ m ≤ 3) ∨ (k ≠ .points ∧ m = 0)) ∧ 0 ≤ c ∧ c ≤ 3 := by
    unfold isRule at h2
    simp only [] at h2
    split at h2
    · rename_i hx
      simp [isFrom] at h2
      exact ⟨.points, hx, .inl ⟨rfl, h2.1⟩, h2.2⟩
    · split at h2
      · rename_i hx
        simp [isFrom] at h2
        rcases hx with hx | hx
        · exact ⟨.first, hx, .inr ⟨by decide, by omega⟩, h2.2⟩
        · exact ⟨.turns, hx, .inr ⟨by decide, by omega⟩, h2.2⟩
      · cases h2
  obtain ⟨k, rfl, hk2, hk3⟩ := hk
  refine ⟨⟨ss.map toI, k, m, c⟩, ?_, ⟨by simp only [hsl]; exact hl, q, hk2, hk3⟩, hc, by simp only [hsl]; exact hm⟩
  simp only [Hou.d, it]
  rw [← e]
theorem und_src {st : Store} {l : Nat} (h : Src st l) : stUnd st = true := h.1.und
instance (h : Hou) (w : List Int) : Decidable (WOk h w) := by unfold WOk inn; infer_instance
instance (h : Hou) (row : List (List Int)) : Decidable (ROk h row) := by unfold ROk; infer_instance
instance (h : Hou) : Decidable h.Ok := decidable_of_iff ((h.sh.length = 2 ∨ h.sh.length = 3) ∧ (∀ s ∈ h.sh, 1 ≤ s ∧ s ≤ 3) ∧ ((h.kd = .points ∧ 1 ≤ h.mark ∧ h.mark ≤ 3) ∨ (h.kd ≠ .points ∧ h.mark = 0)) ∧ (0 ≤ h.most ∧ h.most ≤ 3)) ⟨fun q => ⟨q.1, q.2.1, q.2.2.1, q.2.2.2⟩, fun q => ⟨q.len, q.sh, q.mark, q.most⟩⟩
end LawT
namespace LawT
open PySem EV

def S_day_behind (cf : Call) : Prop := ∀ (h : Hou) s w st, h.Ok → SOk h s → WOk h w → cf 14 [h.d, stD s, it w] st = .ok (pD (day h s w)) st
section
variable {cf : Call} {st : Store}
theorem sp_day_behind (hm : S_who_may cf) (hp : S_picked cf) (hb : S_book_behind cf) (hr : S_run_behind cf) {h : Hou} {s : Stg} {w : List Int} (ho : h.Ok) (so : SOk h s) (wo : WOk h w) : evDef cf sub fu 6 b_day_behind [h.d, stD s, it w] st = .ok (pD (day h s w)) st := by
  by_cases hn : w = []
  · subst hn
    have e0 : evCmp st .eq (it []) (.tup []) = some true := eq_nil_w (st := st) []
    simp [evDef_fin, b_day_behind, e0, day, pD, givD]
  · have e0 := eq_nil_w (st := st) w
    rw [decide_eq_false hn] at e0
    have e1 := hm h s.2 w st
    have e2 := hp h s.1 (whoMay h s.2 w) w st (fun p hp => wo.2 p (may_sub p hp)) (may_ne wo.1 hn) (fun hk p hp => so.inbook hk (wo.2 p (may_sub p hp))) so.plen
    have e3 := hb h s.1 w (giv h s w) st (by have := so.len; have := ho.len; omega) wo.2 so.plen
    have e4 := hr h s.2 (giv h s w) st
    have hd : day h s w = ((bookB h s.1 w (giv h s w), runB h s.2 (giv h s w)), some (giv h s w)) := by unfold day giv; rw [if_neg hn]
    rw [hd]
    have eg : (pickL h s.1 (whoMay h s.2 w) w).headD 0 = giv h s w := rfl
    rw [eg] at e2
    generalize giv h s w = g at e2 e3 e4
    simp [evDef_fin, b_day_behind, e0, e1, e2, e3, e4, pD, givD]
/-- the loop of led -/
theorem led_loop {dayk : Nat} {h : Hou} (hd : ∀ s w st, SOk h s → WOk h w → stUnd st = true → cf dayk [h.d, stD s, it w] st = .ok (pD (day h s w)) st) (ho : h.Ok) (hu : stUnd st = true) {x : D} : ∀ (row : List (List Int)) (s : Stg) (acc : List D) (o4 o5 : Option D), SOk h s → ROk h row → acc.length + row.length ≤ 1000 → D.pls acc = true →
    ∃ o4' o5', forLoop (k_ft cf sub fu (.name 4) (.cons (.asg (.tup (.cons (.name 3) (.cons (.name 5) .nil))) (.call dayk (.cons (.var 0) (.cons (.var 3) (.cons (.var 4) .nil))))) (.cons (.app (.var 2) (.tup (.cons (.var 3) (.cons (.var 5) .nil)))) .nil)))
      (row.map it) [some h.d, some x, some (.loc st.length), some (stD s), o4, o5] (st ++ [.lst acc]) = .nx [some h.d, some x, some (.loc st.length), some (stD (behM h s row)), o4', o5'] (st ++ [.lst (acc ++ (ledM h s row).map pD)])
  | [], s, acc, o4, o5, _, _, _, _ => ⟨o4, o5, by simp [forLoop, ledM, behM]⟩
  | w :: row, s, acc, o4, o5, so, ro, hl, ha => by
    have wo := ro w List.mem_cons_self
    have e1 := hd s w (st ++ [.lst acc]) so wo (stUnd_push hu (by rw [O.und]; exact unds_pls _ ha))
    simp only [List.length_cons] at hl
    obtain ⟨o4', o5', e2⟩ := led_loop hd ho hu row (day h s w).1 (acc ++ [pD (day h s w)]) (some (it w)) (some (givD (day h s w).2)) (day_ok ho so wo) (fun v hv => ro v (List.mem_cons_of_mem _ hv)) (by rw [List.length_append, List.length_singleton]; omega) (by rw [pls_append, ha, D.pls, pD_pl]; rfl)
    refine ⟨o4', o5', ?_⟩
    have hm : acc.length < most := by unfold most; omega
    have e3 : k_ft cf sub fu (.name 4) (.cons (.asg (.tup (.cons (.name 3) (.cons (.name 5) .nil))) (.call dayk (.cons (.var 0) (.cons (.var 3) (.cons (.var 4) .nil))))) (.cons (.app (.var 2) (.tup (.cons (.var 3) (.cons (.var 5) .nil)))) .nil)) (it w) [some h.d, some x, some (.loc st.length), some (stD s), o4, o5] (st ++ [.lst acc]) = .nx [some h.d, some x, some (.loc st.length), some (stD (day h s w).1), some (it w), some (givD (day h s w).2)] (st ++ [.lst (acc ++ [pD (day h s w)])]) := by
      simp [k_ft_eq, e1, isLoc, evApp, hm, pD]
    rw [List.map_cons, forLoop, e3]
    simp only []
    rw [e2, ledM, List.map_cons]
    simp [behM]
end
theorem led_und (h : Hou) (row : List (List Int)) (n : Nat) (s : Stg) : D.und n (.lst ((ledM h s row).map pD)) = true := und_pl _ (by
  rw [D.pl]
  exact pls_of fun d hd => by obtain ⟨p, _, rfl⟩ := List.mem_map.mp hd; exact pD_pl p)
end LawT
namespace LawT
open PySem EV

/-! ### the law's own days: wishes, rows, the first standing -/
def wishN (n : Nat) : List (List Int) := if n = 2 then [[], [0], [0, 1], [1]] else [[], [0], [0, 1], [0, 1, 2], [0, 2], [1], [1, 2], [2]]
theorem wishN_ok {h : Hou} (ho : h.Ok) : ∀ w ∈ wishN h.sh.length, WOk h w := by
  have h2 : ∀ w ∈ wishN 2, w.Pairwise (· < ·) ∧ ∀ p ∈ w, 0 ≤ p ∧ p < 2 := by decide +kernel
  have h3 : ∀ w ∈ wishN 3, w.Pairwise (· < ·) ∧ ∀ p ∈ w, 0 ≤ p ∧ p < 3 := by decide +kernel
  intro w hw
  unfold WOk inn
  rcases ho.len with e | e
  · rw [e] at hw ⊢; exact h2 w hw
  · rw [e] at hw ⊢; exact h3 w hw
def S_law_wishes (cf : Call) : Prop := ∀ (h : Hou) st, h.Ok → cf 24 [h.d] st = .ok (.lst ((wishN h.sh.length).map it)) st
def S_law_row (cf : Call) : Prop := ∀ l (h : Hou) (n : Int) st, Src st l → h.Ok → 0 ≤ n → n ≤ 1000 → ∃ row st', cf 25 [.loc l, h.d, .int n] st = .ok (rowT row) st' ∧ (ROk h row ∧ row.length = n.toNat) ∧ st'.length = st.length ∧ Src st' l
def S_all_wishes (cf : Call) : Prop := ∀ (h : Hou) st, h.Ok → cf 5 [h.d] st = .ok (.lst ((wishN h.sh.length).map it)) st
def S_law_first (cf : Call) : Prop := ∀ (h : Hou) st, h.Ok → cf 26 [h.d] st = .ok (stD (st0 h)) st
section
variable {cf : Call} {st : Store}
theorem sp_law_wishes {h : Hou} (ho : h.Ok) : evDef cf sub fu 4 b_law_wishes [h.d] st = .ok (.lst ((wishN h.sh.length).map it)) st := by
  obtain ⟨sh, kd, mark, most⟩ := h
  rcases ho.len with e | e
  · match sh, e with
    | [a, b], _ => exact sp_law_wishes_2
  · match sh, e with
    | [a, b, c], _ => exact sp_law_wishes_3
theorem wish_sl2 : evSl st (.lst ((wishN 2).map it)) (some (-2)) none = some (.lst (([[0, 1], [1]] : List (List Int)).map it)) := by kernel_rfl
theorem wish_sl3 : evSl st (.lst ((wishN 3).map it)) (some (-2)) none = some (.lst (([[1, 2], [2]] : List (List Int)).map it)) := by kernel_rfl
theorem wish_sl {n : Nat} (hn : n = 2 ∨ n = 3) : ∃ tl : List (List Int), evSl st (.lst ((wishN n).map it)) (some (-2)) none = some (.lst (tl.map it)) ∧ (∀ w ∈ tl, w ∈ wishN n) ∧ tl.length = 2 ∧ (wishN n).length ≤ 8 ∧ wishN n ≠ [] := by
  rcases hn with rfl | rfl
  · exact ⟨_, wish_sl2, by decide +kernel, rfl, by decide +kernel, by decide +kernel⟩
  · exact ⟨_, wish_sl3, by decide +kernel, rfl, by decide +kernel, by decide +kernel⟩
theorem its_of : ∀ xs : List D, (∀ x ∈ xs, ∃ w, x = it w ∧ WOk h w) → ∃ row : List (List Int), xs = row.map it ∧ ROk h row ∧ row.length = xs.length
  | [], _ => ⟨[], rfl, (fun _ h => by cases h), rfl⟩
  | x :: xs, q => by
    obtain ⟨w, rfl, hw⟩ := q x List.mem_cons_self
    obtain ⟨row, rfl, hr, hl⟩ := its_of xs fun y hy => q y (List.mem_cons_of_mem _ hy)
    refine ⟨w :: row, rfl, fun v hv => ?_, by simp⟩
    rcases List.mem_cons.mp hv with z | z
    · exact z ▸ hw
    · exact hr v z
theorem sp_law_row (hc : S_law_choice cf) (hwi : S_law_wishes cf) {l : Nat} {h : Hou} {n : Int} (hs : Src st l) (ho : h.Ok) (n0 : 0 ≤ n) (n1 : n ≤ 1000) : ∃ row st', evDef cf sub fu 5 b_law_row [.loc l, h.d, .int n] st = .ok (rowT row) st' ∧ (ROk h row ∧ row.length = n.toNat) ∧ st'.length = st.length ∧ Src st' l := by
  obtain ⟨tl, e1, t1, t2, t3, t4⟩ := wish_sl (st := st) ho.len
  have hwok := wishN_ok ho
  have e0 := hwi h st ho
  generalize wishN h.sh.length = ws at e0 e1 t1 t3 t4 hwok
  have esl : ∀ s, evSl s (.lst (ws.map it)) (some (-2)) none = some (.lst (tl.map it)) := fun s => e1
  have hadd : evBin .add (.lst (ws.map it)) (.lst (tl.map it)) = some (.lst ((ws ++ tl).map it)) := by
    have : ws.length + tl.length ≤ most := by unfold most; omega
    simp [evBin, this]
  obtain ⟨xs, st2, e2, ⟨hl2, hs2⟩, hn, hx⟩ := lc_inv (f := k_turn cf (.call 22 (.cons (.var 0) (.cons (.bin .add (.var 3) (.sl (.var 3) (.some (.neg (.con (.int 2)))) .none)) .nil))) (.name 4) .none [some (.loc l), some h.d, some (.int n), some (.lst (ws.map it)), none])
    (fun s => s.length = st.length ∧ Src s l) (fun x => ∃ w, x = it w ∧ WOk h w) (st := st) ((List.range n.toNat).map fun (i : Nat) => .int (i : Int)) [] ⟨rfl, hs⟩ (by
      intro d hd s ⟨q1, q2⟩
      obtain ⟨x, s', e', hx', hl', hs'⟩ := hc l ((ws ++ tl).map it) s q2 (by cases ws with
        | nil => exact absurd rfl t4
        | cons => simp) (by rw [List.length_map, List.length_append]; omega)
      obtain ⟨w, hw, rfl⟩ := List.mem_map.mp hx'
      refine ⟨it w, s', ?_, ⟨by omega, hs'⟩, w, rfl, ?_⟩
      · simp only [List.map_append] at e' hadd
        simp [k_turn_eq, esl, hadd, e']
      · rcases List.mem_append.mp hw with z | z
        · exact hwok w z
        · exact hwok w (t1 w z))
  obtain ⟨row, rfl, ro, hrl⟩ := its_of xs hx
  refine ⟨row, st2, ?_, ⟨ro, by rw [hrl, hn]; simp⟩, hl2, hs2⟩
  have hb : -4611686018427387904 ≤ n := by omega
  have hb2 : n ≤ ((most : Nat) : Int) := by unfold most; omega
  simp [evDef_fin, b_law_row, e0, hb, hb2, e2]
theorem sp_all_wishes_2 {a b r : D} : evDef cf sub fu 4 b_all_wishes [.tup [.tup [a, b], r]] st = .ok (.lst wl2) st := by kernel_rfl
theorem sp_all_wishes_3 {a b c r : D} : evDef cf sub fu 4 b_all_wishes [.tup [.tup [a, b, c], r]] st = .ok (.lst wl3) st := by kernel_rfl
theorem sp_all_wishes {h : Hou} (ho : h.Ok) : evDef cf sub fu 4 b_all_wishes [h.d] st = .ok (.lst ((wishN h.sh.length).map it)) st := by
  obtain ⟨sh, kd, mark, most⟩ := h
  rcases ho.len with e | e
  · match sh, e with
    | [a, b], _ => exact sp_all_wishes_2
  · match sh, e with
    | [a, b, c], _ => exact sp_all_wishes_3
theorem sp_law_first {h : Hou} (ho : h.Ok) : evDef cf sub fu 3 b_law_first [h.d] st = .ok (stD (st0 h)) st := by
  have h1 : (h.sh.length : Int) ≤ ((most : Nat) : Int) := by unfold most; have := ho.len; omega
  have h2 : -4611686018427387904 ≤ (h.sh.length : Int) := by omega
  have e1 : evTrg (.int h.sh.length) = some (it (iota h.sh.length)) := by simp [evTrg, h1, h2, iota]
  have n1 : ¬ (("turns" : Str) = "first") := by decide
  have n2 : ¬ (("points" : Str) = "first") := by decide
  have n3 : ¬ (("points" : Str) = "turns") := by decide
  have e2 : lcLoop (k_turn cf (.con (.int 0)) (.name 2) .none [some h.d, some (it (iota h.sh.length)), none]) ((iota h.sh.length).map .int) [] st = .ok ((List.replicate h.sh.length (0 : Int)).map .int) st := by
    rw [lc_ints_map (F := fun _ => 0)]
    · rw [List.map_const']
      simp [iota]
    · intro x hx
      simp [k_turn_eq]
  cases hk : h.kd <;> simp [evDef_fin, b_law_first, e1, e2, evDgt, hk, Kd.s, st0, stD, runD, n1, n2, n3]
end
end LawT
namespace LawT
open PySem EV

/-! ### the law's own days: whom, day, led -/
theorem min_head {n : Int} : ∀ {r : List Int}, (∀ x ∈ r, n < x) → r.foldl (fun m x => if x < m then x else m) n = n
  | [], _ => rfl
  | x :: r, h => by
    rw [List.foldl_cons, if_neg (by have := h x List.mem_cons_self; omega)]
    exact min_head fun y hy => h y (List.mem_cons_of_mem _ hy)
def argm (d : Int → Int) : List Int → Int
  | [] => 0
  | [p] => p
  | p :: q :: r => if d p < d (argm d (q :: r)) then argm d (q :: r) else p
theorem argm_mem (d : Int → Int) : ∀ l : List Int, l ≠ [] → argm d l ∈ l
  | [], h => absurd rfl h
  | [p], _ => List.mem_cons_self
  | p :: q :: r, _ => by
    rw [argm]
    split
    · exact List.mem_cons_of_mem _ (argm_mem d (q :: r) (by simp))
    · exact List.mem_cons_self
theorem maxI_cons (a : Int) {r : List Int} (hr : r ≠ []) : maxI (a :: r) = if a < maxI r then maxI r else a := by
  have h1 := maxI_mem (l := a :: r) (by simp)
  have h2 := maxI_mem hr
  have h3 : a ≤ maxI (a :: r) := maxI_le List.mem_cons_self
  have h4 : maxI r ≤ maxI (a :: r) := maxI_le (List.mem_cons_of_mem _ h2)
  rcases List.mem_cons.mp h1 with e | e
  · split <;> omega
  · have := maxI_le e
    split <;> omega
theorem argm_max (d : Int → Int) : ∀ l : List Int, l ≠ [] → d (argm d l) = maxI (l.map d)
  | [], h => absurd rfl h
  | [p], _ => rfl
  | p :: q :: r, _ => by
    have ih := argm_max d (q :: r) (by simp)
    rw [argm, List.map_cons, maxI_cons _ (by simp), ← ih]
    split <;> rfl
theorem argm_first (d : Int → Int) : ∀ l : List Int, l ≠ [] → (l.filter fun p => decide (d p = maxI (l.map d))).headD 0 = argm d l
  | [], h => absurd rfl h
  | [p], _ => by simp [argm, maxI]
  | p :: q :: r, _ => by
    have ih := argm_first d (q :: r) (by simp)
    have hm := argm_max d (q :: r) (by simp)
    rw [argm, List.map_cons, maxI_cons _ (by simp), ← hm]
    rw [← hm] at ih
    split
    · rename_i c
      rw [List.filter_cons, if_neg (by simp; omega)]
      exact ih
    · rename_i c
      rw [List.filter_cons, if_pos (by simp)]
      rfl
theorem sort_argm (d : Int → Int) : ∀ l : List Int, l ≠ [] → l.Pairwise (· < ·) → ∃ t, sortL (l.map fun p => [-(d p), p]) = [-(d (argm d l)), argm d l] :: t
  | [], h, _ => absurd rfl h
  | [p], _, _ => ⟨[], rfl⟩
  | p :: q :: r, _, hp => by
    obtain ⟨h1, h2⟩ := List.pairwise_cons.mp hp
    obtain ⟨t, e⟩ := sort_argm d (q :: r) (by simp) h2
    have hm := h1 _ (argm_mem d (q :: r) (by simp))
    rw [List.map_cons]
    have e' : sortL ([-(d p), p] :: (q :: r).map fun p => [-(d p), p]) = insL [-(d p), p] (sortL ((q :: r).map fun p => [-(d p), p])) := rfl
    rw [e', e, insL, argm]
    generalize argm d (q :: r) = g at hm
    have hl : EV.lexLt [-(d g), g] [-(d p), p] = decide (d p < d g) := by
      rw [EV.lexLt]
      by_cases c : -(d g) = -(d p)
      · rw [if_pos c, EV.lexLt, if_neg (by omega), Bool.eq_iff_iff]
        simp; omega
      · rw [if_neg c, Bool.eq_iff_iff]
        simp
    rw [hl]
    by_cases c : d p < d g
    · rw [if_pos (by simpa using c), if_pos c]; exact ⟨_, rfl⟩
    · rw [if_neg (by simpa using c), if_neg c]; exact ⟨_, rfl⟩
theorem rowsOf_two (f g : Int → Int) : ∀ l : List Int, rowsOf (l.map fun p => D.tup [.int (f p), .int (g p)]) = some (l.map fun p => [f p, g p])
  | [] => rfl
  | x :: l => by rw [List.map_cons, rowsOf, rowsOf_two f g l]; rfl
theorem blt_sort_two {st : Store} (f g : Int → Int) (l : List Int) : evBlt st .sortedT [.lst (l.map fun p => D.tup [.int (f p), .int (g p)])] = some (.lst ((sortL (l.map fun p => [f p, g p])).map rowD)) := by
  have : twos (l.map fun p => [f p, g p]) = true := by
    unfold twos
    rw [List.all_eq_true]
    intro r hr
    obtain ⟨p, _, rfl⟩ := List.mem_map.mp hr
    rfl
  simp [evBlt, rowsOf_two, this]
theorem enm_ints_m (l : List Int) (F : Nat → Int → Int) : l.mapIdx F = l.mapIdx F := rfl
theorem book_set {h : Hou} {book w : List Int} {g : Int} (g0 : 0 ≤ g) : ((dues h book w).set g.toNat ((dues h book w).getD g.toNat 0 - sumOf h w)).map (fun x => cutOff x h.mark) = (dues h book w).mapIdx fun i o => cutOff (o - if (i : Int) = g then sumOf h w else 0) h.mark := by
  apply List.ext_getElem?
  intro i
  rw [List.getElem?_map, List.getElem?_mapIdx, List.getElem?_set]
  by_cases c : g.toNat = i
  · have : (i : Int) = g := by omega
    rw [if_pos c, this, if_pos rfl]
    subst c
    by_cases hl : g.toNat < (dues h book w).length
    · rw [if_pos hl]; simp [hl]
    · rw [if_neg hl]; simp [hl]
  · have : ¬ (i : Int) = g := by omega
    rw [if_neg c, if_neg this]
    simp
def S_law_whom (cf : Call) : Prop := ∀ (h : Hou) book w may st, h.Ok → may ≠ [] → may.Pairwise (· < ·) → (∀ p ∈ may, inn h p) → (∀ p ∈ w, inn h p) → (h.kd = .turns → ∀ p ∈ may, p ∈ book) → (h.kd = .points → book.length = h.sh.length) → book.length ≤ 1000 → stUnd st = true →
  cf 27 [h.d, it book, it w, il may] st = .ok (.tup [.int ((pickL h book may w).headD 0), it (bookB h book w ((pickL h book may w).headD 0))]) st
section
variable {cf : Call} {st : Store}
theorem blt_min_ints {l : List Int} (h : l ≠ []) (hp : l.Pairwise (· < ·)) : evBlt st .min1 [.lst (l.map .int)] = some (.int (l.headD 0)) := by
  cases l with
  | nil => exact absurd rfl h
  | cons n r =>
    simp only [evBlt, intsOf_map]
    show some (D.int _) = _
    rw [min_head (List.pairwise_cons.mp hp).1]
    rfl
theorem sp_law_whom {h : Hou} {book w may : List Int} (ho : h.Ok) (hn : may ≠ []) (hp : may.Pairwise (· < ·)) (hi : ∀ p ∈ may, inn h p) (hw : ∀ p ∈ w, inn h p) (hb : h.kd = .turns → ∀ p ∈ may, p ∈ book) (hl : h.kd = .points → book.length = h.sh.length) (hz : book.length ≤ 1000) :
    ∃ junk, evDef cf sub fu 12 b_law_whom [h.d, it book, it w, il may] st = .ok (.tup [.int ((pickL h book may w).headD 0), it (bookB h book w ((pickL h book may w).headD 0))]) (st ++ junk) := by
  have hpn := pick_ne (w := w) hn hb
  cases hk : h.kd with
  | first =>
    refine ⟨[], ?_⟩
    simp only [pickL, bookB, hk]
    simp [evDef_fin, b_law_whom, cmp_first, hk, blt_min_ints hn hp]
  | turns =>
    refine ⟨[], ?_⟩
    simp only [pickL, bookB, hk] at hpn ⊢
    have e1 : lcLoop (k_turn cf (.var 8) (.name 8) (.some (.cmp .isIn (.var 8) (.var 3))) [some h.d, some (it book), some (it w), some (il may), some (.str Kd.turns.s), some (.int h.mark), some (.int h.most), none, none, none, none, none]) (book.map .int) [] st = .ok ((book.filter fun p => decide (p ∈ may)).map .int) st :=
      lc_ints_filter _ fun x hx => by by_cases hxm : x ∈ may <;> simp [k_turn_eq, cmp_in_il, hxm]
    generalize book.filter (fun p => decide (p ∈ may)) = l at hpn e1 ⊢
    cases l with
    | nil => exact absurd rfl hpn
    | cons x r =>
      have e2 : lcLoop (k_turn cf (.var 8) (.name 8) (.some (.cmp .ne (.var 8) (.var 7))) [some h.d, some (it book), some (it w), some (il may), some (.str Kd.turns.s), some (.int h.mark), some (.int h.most), some (.int x), none, none, none, none]) (book.map .int) [] st = .ok ((book.filter fun p => decide (p ≠ x)).map .int) st :=
        lc_ints_filter _ fun y hy => by by_cases hxm : y = x <;> simp [k_turn_eq, hxm]
      simp only [List.headD_cons]
      have hlen : (book.filter fun p => decide (p ≠ x)).length ≤ 1000 := Nat.le_trans (List.length_filter_le _ _) hz
      generalize hl2 : book.filter (fun p => decide (p ≠ x)) = l2 at e2 hlen
      have h2 : l2.length + 1 ≤ most := by unfold most; omega
      simp [evDef_fin, b_law_whom, cmp_turns, cmp_first, hk, e1, e2, evBin, h2]
      rw [← hl2]
      refine congrArg (List.map D.int) (List.filter_congr fun p _ => ?_)
      by_cases hpx : p = x <;> simp [hpx]
  | points =>
    have hlen := hl hk
    refine ⟨[.gone], ?_⟩
    simp only [pickL, bookB, hk] at hpn ⊢
    rw [argm_first _ _ hn]
    have hbs := book_set (h := h) (book := book) (w := w) (g := argm (fun p => (dues h book w).getD p.toNat 0) may)
    have hdl := dues_len h book w
    have e1 : lcLoop (k_turn cf (.bin .add (.var 10) (.ife (.cmp .isIn (.var 8) (.var 2)) (.idx (.idx (.var 0) (.con (.int 0))) (.var 8)) (.con (.int 0)))) (.tup (.cons (.name 8) (.cons (.name 10) .nil))) .none [some h.d, some (it book), some (it w), some (il may), some (.str Kd.points.s), some (.int h.mark), some (.int h.most), none, none, none, none, none])
        ((book.map D.int).mapIdx fun i d => .tup [.int i, d]) [] st = .ok ((dues h book w).map .int) st :=
      lc_enm (F := fun i o => o + if (i : Int) ∈ w then h.sh.getD i 0 else 0) _ fun i x hx => by
        have hi : i < h.sh.length := by have := (List.getElem?_eq_some_iff.mp hx).1; omega
        by_cases hw : (i : Int) ∈ w <;> simp [k_turn_eq, cmp_in_it, hw, hi]
    have hs := sort_argm (fun p => (dues h book w).getD p.toNat 0) may hn hp
    have hgm := argm_mem (fun p => (dues h book w).getD p.toNat 0) may hn
    generalize argm (fun p => (dues h book w).getD p.toNat 0) may = g at hs hgm hbs ⊢
    obtain ⟨g0, g1⟩ := hi g hgm
    have hbs := hbs g0
    rw [← hbs]
    generalize dues h book w = ds at e1 hs hbs hdl ⊢
    have hg : ∀ p ∈ may, 0 ≤ p ∧ p < (ds.length : Int) := fun p hp => by rw [hdl, hlen]; exact hi p hp
    obtain ⟨t, hs⟩ := hs
    have e2 : lcLoop (k_turn cf (.tup (.cons (.neg (.idx (.var 9) (.var 8))) (.cons (.var 8) .nil))) (.name 8) .none [some h.d, some (it book), some (it w), some (il may), some (.str Kd.points.s), some (.int h.mark), some (.int h.most), none, none, some (.loc st.length), none, none]) (may.map .int) [] (st ++ [.lst (ds.map .int)])
        = .ok (may.map fun p => D.tup [.int (-(ds.getD p.toNat 0)), .int p]) (st ++ [.lst (ds.map .int)]) :=
      lc_ints_mapD _ fun x hx => by
        obtain ⟨h0, h2⟩ := hg x hx
        have h3 := get_it h0 h2
        simp [k_turn_eq, evIdx, seqOf, deref, h0, h2, h3]
    have e3 := blt_sort_two (st := st ++ [.lst (ds.map .int)]) (fun p => -(ds.getD p.toNat 0)) (fun p => p) may
    rw [hs] at e3
    have e4 : lcLoop (k_turn cf (.idx (.idx (.var 0) (.con (.int 0))) (.var 8)) (.name 8) .none [some h.d, some (it book), some (it w), some (il may), some (.str Kd.points.s), some (.int h.mark), some (.int h.most), some (.int g), none, some (.loc st.length), none, none]) (w.map .int) [] (st ++ [.lst (ds.map .int)])
        = .ok ((w.map fun p => h.sh.getD p.toNat 0).map .int) (st ++ [.lst (ds.map .int)]) :=
      lc_ints_map _ fun x hx => by
        obtain ⟨h0, h2⟩ := hw x hx
        have h3 := get_it h0 h2
        simp [k_turn_eq, h0, h2, h3]
    have e5 : ∀ s, evBlt s .sum [.lst ((w.map fun p => h.sh.getD p.toNat 0).map .int)] = some (.int (sumOf h w)) := fun s => by simp only [blt_sum_ints, sumOf]
    generalize (w.map fun p => h.sh.getD p.toNat 0) = ws at e4 e5
    generalize sumOf h w = su at e5 hbs ⊢
    have e6 : lcLoop (k_turn cf (.blt .max2 (.cons (.neg (.var 5)) (.cons (.blt .min2 (.cons (.var 5) (.cons (.var 11) .nil))) .nil))) (.name 11) .none [some h.d, some (it book), some (it w), some (il may), some (.str Kd.points.s), some (.int h.mark), some (.int h.most), some (.int g), none, some (il (ds.set g.toNat (ds.getD g.toNat 0 - su))), none, none]) ((ds.set g.toNat (ds.getD g.toNat 0 - su)).map .int) [] (st ++ [.gone])
        = .ok (((ds.set g.toNat (ds.getD g.toNat 0 - su)).map fun x => cutOff x h.mark).map .int) (st ++ [.gone]) :=
      lc_ints_map _ fun x hx => by simp [k_turn_eq, cutOff]
    have g2 : g < (ds.length : Int) := (hg g hgm).2
    have g3 := get_it g0 g2
    have hset : (ds.map D.int).set g.toNat (.int (ds.getD g.toNat 0 - su)) = (ds.set g.toNat (ds.getD g.toNat 0 - su)).map .int := by rw [List.map_set]
    rw [List.map_cons] at e3
    have er : rowD [-ds.getD g.toNat 0, g] = .tup [.int (-ds.getD g.toNat 0), .int g] := rfl
    rw [er] at e3
    generalize t.map rowD = t' at e3
    generalize (may.map fun p => D.tup [.int (-(ds.getD p.toNat 0)), .int p]) = rws at e2 e3
    generalize ds.getD g.toNat 0 = dg at e3 e6 g3 hset hs ⊢
    generalize ds.set g.toNat (dg - su) = ds2 at e6 hset ⊢
    generalize ds2.map (fun x => cutOff x h.mark) = ds3 at e6 ⊢
    obtain ⟨g5, g6⟩ := List.getElem?_eq_some_iff.mp g3
    simp [evDef_fin, b_law_whom, cmp_turns, cmp_first, hk, e1, e2, e3, e4, e5, e6, evIdx, seqOf, deref, g0, g2, g6, evSto, evFrzv, hset]
end
end LawT
namespace LawT
open PySem EV

def S_law_day (cf : Call) : Prop := ∀ (h : Hou) s w st, h.Ok → SOk h s → WOk h w → stUnd st = true → cf 28 [h.d, stD s, it w] st = .ok (pD (day h s w)) st
def S_law_led (cf : Call) : Prop := ∀ (h : Hou) row st, h.Ok → ROk h row → row.length ≤ 1000 → stUnd st = true → cf 29 [h.d, rowT row] st = .ok (.lst ((ledM h (st0 h) row).map pD)) st
/-- the law's way to say who may -/
def lawMay (h : Hou) (run : Run) (w : List Int) : List Int := match run with
  | none => w
  | some (p, k) => if 0 < h.most ∧ h.most ≤ k ∧ 1 < (w.length : Int) then w.filter (fun x => decide (x ≠ p)) else w
theorem lawMay_eq {h : Hou} {s : Stg} {w : List Int} (so : SOk h s) (wo : WOk h w) (hn : w ≠ []) : lawMay h s.2 w = whoMay h s.2 w := by
  have hr := so.run
  unfold lawMay whoMay
  cases hs : s.2 with
  | none => rfl
  | some pk =>
    obtain ⟨p, k⟩ := pk
    rw [hs] at hr
    have hr : inn h p ∧ 1 ≤ k ∧ k ≤ h.most := hr
    simp only []
    match w, hn with
    | [x], _ =>
      rw [if_neg (by simp)]
      by_cases c : 0 < h.most ∧ k = h.most ∧ [x] ≠ [p]
      · rw [if_pos c]
        have : x ≠ p := fun e => c.2.2 (by rw [e])
        simp [this]
      · rw [if_neg c]
    | x :: y :: r, _ =>
      have hl : 1 < ((x :: y :: r).length : Int) := by simp; omega
      have hq : x :: y :: r ≠ [p] := by simp
      by_cases c : 0 < h.most ∧ k = h.most
      · rw [if_pos ⟨c.1, by omega, hl⟩, if_pos ⟨c.1, c.2, hq⟩]
      · rw [if_neg (fun z => c ⟨z.1, by omega⟩), if_neg (fun z => c ⟨z.1, z.2.1⟩)]
theorem filter_pw {l : List Int} {p : Int → Bool} (h : l.Pairwise (· < ·)) : (l.filter p).Pairwise (· < ·) := h.filter p
theorem may_pw {h : Hou} {run : Run} {w : List Int} (hw : w.Pairwise (· < ·)) : (whoMay h run w).Pairwise (· < ·) := by
  unfold whoMay
  split
  · exact hw
  · split
    · exact filter_pw hw
    · exact hw
section
variable {cf : Call} {st : Store}
theorem sp_law_day (hwm : S_law_whom cf) {h : Hou} {s : Stg} {w : List Int} (ho : h.Ok) (so : SOk h s) (wo : WOk h w) (hu : stUnd st = true) : evDef cf sub fu 11 b_law_day [h.d, stD s, it w] st = .ok (pD (day h s w)) st := by
  by_cases hn : w = []
  · subst hn
    have e0 : evCmp st .eq (it []) (.tup []) = some true := eq_nil_w (st := st) []
    simp [evDef_fin, b_law_day, e0, day, pD, givD]
  · have e0 := eq_nil_w (st := st) w
    rw [decide_eq_false hn] at e0
    have hmay := lawMay_eq so wo hn
    have e1 := hwm h s.1 w (whoMay h s.2 w) st ho (may_ne wo.1 hn) (may_pw wo.1) (fun p hp => wo.2 p (may_sub p hp)) wo.2 (fun hk p hp => so.inbook hk (wo.2 p (may_sub p hp))) so.plen (by have := so.len; have := ho.len; omega) hu
    have hd : day h s w = ((bookB h s.1 w (giv h s w), runB h s.2 (giv h s w)), some (giv h s w)) := by unfold day giv; rw [if_neg hn]
    rw [hd]
    have eg : (pickL h s.1 (whoMay h s.2 w) w).headD 0 = giv h s w := rfl
    rw [eg] at e1
    generalize giv h s w = g at e1 ⊢
    have hr := so.run
    obtain ⟨book, run⟩ := s
    simp only [] at e1 hmay hr
    cases run with
    | none =>
      have hmay : w = whoMay h none w := hmay
      rw [← hmay] at e1
      by_cases c0 : h.most = 0
      · simp [evDef_fin, b_law_day, e0, e1, c0, runD, stD, pD, givD, runB]
      · have c1 : 0 < h.most := by have := ho.most; omega
        have c2 : (if 1 < h.most then (1 : Int) else h.most) = 1 := by split <;> omega
        simp [evDef_fin, b_law_day, e0, e1, c0, c1, c2, runD, stD, pD, givD, runB, ne_nil_0]
    | some pk =>
      obtain ⟨p, k⟩ := pk
      have hr : inn h p ∧ 1 ≤ k ∧ k ≤ h.most := hr
      have c1 : 0 < h.most := by omega
      have c0 : ¬ h.most = 0 := by omega
      unfold lawMay at hmay
      simp only [c1, true_and] at hmay
      have ef : ∀ (o0 o1 o2 o3 o5 o6 : Option D), lcLoop (k_turn cf (.var 7) (.name 7) (.some (.cmp .ne (.var 7) (.idx (.var 4) (.con (.int 0))))) [o0, o1, o2, o3, some (.tup [.int p, .int k]), o5, o6, none, none, none, none]) (w.map .int) [] st = .ok ((w.filter fun x => decide (x ≠ p)).map .int) st := fun o0 o1 o2 o3 o5 o6 =>
        lc_ints_filter _ fun x hx => by by_cases hxm : x = p <;> simp [k_turn_eq, hxm]
      have hsw : (if h.most < k + 1 then h.most else k + 1) = if k + 1 < h.most then k + 1 else h.most := by split <;> split <;> omega
      have fin1 : (if 1 + k < h.most then 1 + k else h.most) = if k + 1 < h.most then k + 1 else h.most := by
        have : 1 + k = k + 1 := by omega
        rw [this]
      have c2 : (if 1 < h.most then (1 : Int) else h.most) = 1 := by split <;> omega
      by_cases c : h.most ≤ k ∧ 1 < (w.length : Int)
      · rw [if_pos c] at hmay
        rw [← hmay] at e1
        generalize w.filter (fun x => decide (x ≠ p)) = w2 at e1 ef
        by_cases hpg : p = g
        · subst hpg
          simp [evDef_fin, b_law_day, e0, e1, c0, c1, c.1, c.2, runD, stD, pD, givD, runB, ne_nil_2, ef, fin1]
          try simp at fin1
          try simp [fin1]
        · simp [evDef_fin, b_law_day, e0, e1, c0, c1, c.1, c.2, runD, stD, pD, givD, runB, ne_nil_2, ef, hpg, c2]
      · rw [if_neg c] at hmay
        rw [← hmay] at e1
        by_cases c3 : h.most ≤ k
        · have c4 : ¬ 1 < (w.length : Int) := fun z => c ⟨c3, z⟩
          by_cases hpg : p = g
          · subst hpg
            simp [evDef_fin, b_law_day, e0, e1, c0, c1, c3, c4, runD, stD, pD, givD, runB, ne_nil_2, fin1]
          · simp [evDef_fin, b_law_day, e0, e1, c0, c1, c3, c4, runD, stD, pD, givD, runB, ne_nil_2, hpg, c2]
        · by_cases hpg : p = g
          · subst hpg
            simp [evDef_fin, b_law_day, e0, e1, c0, c1, c3, runD, stD, pD, givD, runB, ne_nil_2, fin1]
          · simp [evDef_fin, b_law_day, e0, e1, c0, c1, c3, runD, stD, pD, givD, runB, ne_nil_2, hpg, c2]
theorem sp_law_led (h0 : S_law_first cf) (hd : S_law_day cf) {h : Hou} {row : List (List Int)} (ho : h.Ok) (ro : ROk h row) (hl : row.length ≤ 1000) (hu : stUnd st = true) : evDef cf sub fu 6 b_law_led [h.d, rowT row] st = .ok (.lst ((ledM h (st0 h) row).map pD)) (st ++ [.gone]) := by
  obtain ⟨o4, o5, e⟩ := led_loop (cf := cf) (st := st) (x := rowT row) (fun s w st so wo hu => hd h s w st ho so wo hu) ho hu row (st0 h) [] none none (st0_ok ho) ro (by simpa using hl) rfl
  have e0 := h0 h (st ++ [.lst []]) ho
  simp only [List.nil_append] at e
  simp [evDef_fin, b_law_led, e0, e, evFrzv]
theorem row_ne (row : List (List Int)) : evCmp st .ne (rowT row) (.tup []) = some (!decide (row = [])) := by
  have := cmp_ne_nil_t (st := st) (okD_of (rowT_pl row) (Nat.le_trans (rowT_dep row) (by decide)))
  rw [this]
  cases row <;> simp
end
end LawT
namespace LawT
open PySem EV

/-! ### the standings of a house, in plain words: a list that is closed by going through it -/
theorem nodup_len {α : Type} [DecidableEq α] : ∀ (l m : List α), l.Nodup → (∀ x ∈ l, x ∈ m) → l.length ≤ m.length
  | [], m, _, _ => Nat.zero_le _
  | x :: l, m, h, q => by
    obtain ⟨h1, h2⟩ := List.nodup_cons.mp h
    have hx := q x List.mem_cons_self
    have := nodup_len l (m.erase x) h2 fun y hy => (List.mem_erase_of_ne (by rintro rfl; exact h1 hy)).mpr (q y (List.mem_cons_of_mem _ hy))
    rw [List.length_erase_of_mem hx] at this
    have : 0 < m.length := List.length_pos_of_mem hx
    rw [List.length_cons]
    omega
def put1 (L : List Stg) (s : Stg) : List Stg := if s ∈ L then L else L ++ [s]
def putW (h : Hou) (s : Stg) (L : List Stg) (ws : List (List Int)) : List Stg := ws.foldl (fun L w => put1 L (day h s w).1) L
def lineF (h : Hou) : Nat → List Stg → Nat → List Stg
  | 0, L, _ => L
  | n + 1, L, i => match L[i]? with
    | none => L
    | some s => lineF h n (putW h s L (wishN h.sh.length)) (i + 1)
def lineM (h : Hou) : List Stg := lineF h 5000 [st0 h] 0
/-! all standings there may be -/
def tups (vs : List Int) : Nat → List (List Int)
  | 0 => [[]]
  | n + 1 => (tups vs n).flatMap fun t => vs.map fun v => v :: t
theorem tups_mem {vs : List Int} : ∀ {t : List Int}, (∀ x ∈ t, x ∈ vs) → t ∈ tups vs t.length
  | [], _ => by simp [tups]
  | x :: t, h => by
    rw [List.length_cons, tups, List.mem_flatMap]
    exact ⟨t, tups_mem fun y hy => h y (List.mem_cons_of_mem _ hy), List.mem_map.mpr ⟨x, h x List.mem_cons_self, rfl⟩⟩
theorem flat_len {α β : Type} (f : α → List β) (k : Nat) : ∀ l : List α, (∀ a ∈ l, (f a).length = k) → (l.flatMap f).length = l.length * k
  | [], _ => by simp
  | a :: l, h => by
    rw [List.flatMap_cons, List.length_append, h a List.mem_cons_self, flat_len f k l fun b hb => h b (List.mem_cons_of_mem _ hb), List.length_cons, Nat.succ_mul, Nat.add_comm]
theorem tups_len (vs : List Int) : ∀ n, (tups vs n).length = vs.length ^ n
  | 0 => rfl
  | n + 1 => by
    rw [tups, flat_len _ vs.length _ fun a _ => List.length_map _, tups_len vs n, Nat.pow_succ]
def span (lo : Int) (n : Nat) : List Int := (List.range n).map fun (i : Nat) => lo + (i : Int)
theorem span_mem {lo x : Int} {n : Nat} (h1 : lo ≤ x) (h2 : x < lo + n) : x ∈ span lo n := List.mem_map.mpr ⟨(x - lo).toNat, List.mem_range.mpr (by omega), by omega⟩
def books (h : Hou) : List (List Int) := match h.kd with
  | .first => [[]]
  | .turns => tups (iota h.sh.length) h.sh.length
  | .points => tups (span (-h.mark) (2 * h.mark + 1).toNat) h.sh.length
def runs (h : Hou) : List Run := none :: (iota h.sh.length).flatMap fun p => (span 1 h.most.toNat).map fun k => some (p, k)
def allS (h : Hou) : List Stg := (books h).flatMap fun b => (runs h).map fun r => (b, r)
theorem SOk.all {h : Hou} {s : Stg} (so : SOk h s) : s ∈ allS h := by
  obtain ⟨b, r⟩ := s
  unfold allS
  rw [List.mem_flatMap]
  refine ⟨b, ?_, List.mem_map.mpr ⟨r, ?_, rfl⟩⟩
  · have hb := so.book
    unfold books
    cases hk : h.kd with
    | first => rw [hk] at hb; have hb : b = [] := hb; subst hb; exact List.mem_singleton.mpr rfl
    | turns =>
      rw [hk] at hb
      have hb : b.Perm (iota h.sh.length) := hb
      have := tups_mem (vs := iota h.sh.length) (t := b) fun x hx => hb.mem_iff.mp hx
      rw [hb.length_eq] at this
      simpa [iota] using this
    | points =>
      rw [hk] at hb
      obtain ⟨h1, h2⟩ := hb
      have := tups_mem (vs := span (-h.mark) (2 * h.mark + 1).toNat) (t := b) fun x hx => by
        have := h2 x hx
        exact span_mem this.1 (by omega)
      rw [show b.length = h.sh.length from h1] at this
      exact this
  · have hr := so.run
    unfold runs
    cases r with
    | none => exact List.mem_cons_self
    | some pk =>
      obtain ⟨p, k⟩ := pk
      have hr : inn h p ∧ 1 ≤ k ∧ k ≤ h.most := hr
      refine List.mem_cons_of_mem _ (List.mem_flatMap.mpr ⟨p, iota_mem.mpr hr.1, List.mem_map.mpr ⟨k, span_mem hr.2.1 (by omega), rfl⟩⟩)
def bound (h : Hou) : Nat := (allS h).length
theorem runs_len (h : Hou) : (runs h).length = 1 + h.sh.length * h.most.toNat := by
  unfold runs
  rw [List.length_cons, flat_len _ h.most.toNat _ fun a _ => by simp [span]]
  simp [iota]
  omega
theorem bound_eq (h : Hou) : bound h = (books h).length * (1 + h.sh.length * h.most.toNat) := by
  unfold bound allS
  rw [flat_len _ (runs h).length _ fun a _ => List.length_map _, runs_len]
theorem books_len (h : Hou) : (books h).length = match h.kd with
    | .first => 1
    | .turns => h.sh.length ^ h.sh.length
    | .points => (2 * h.mark + 1).toNat ^ h.sh.length := by
  unfold books
  cases h.kd with
  | first => rfl
  | turns => simp [tups_len, iota]
  | points => simp [tups_len, span]
/-- no house has more -/
theorem bound_le {h : Hou} (ho : h.Ok) : bound h ≤ 3430 := by
  rw [bound_eq, books_len]
  have hm := ho.most
  have hk := ho.mark
  have h1 : h.most.toNat ≤ 3 := by omega
  have key : ∀ b n : Nat, b ≤ 343 → n = 2 ∨ n = 3 → b * (1 + n * h.most.toNat) ≤ 3430 := by
    intro b n hb hn
    have h2 : n * h.most.toNat ≤ 3 * 3 := Nat.mul_le_mul (by omega) h1
    exact Nat.le_trans (Nat.mul_le_mul hb (show 1 + n * h.most.toNat ≤ 10 by omega)) (by decide)
  refine key _ _ ?_ ho.len
  cases hkd : h.kd with
  | first => exact (by decide : 1 ≤ 343)
  | turns => rcases ho.len with e | e <;> simp [e]
  | points =>
    rw [hkd] at hk
    simp at hk
    have h3 : (2 * h.mark + 1).toNat ≤ 7 := by omega
    rcases ho.len with e | e
    · simp only [e]; exact Nat.le_trans (Nat.pow_le_pow_left h3 2) (by decide)
    · simp only [e]; exact Nat.le_trans (Nat.pow_le_pow_left h3 3) (by decide)
/-- a house that is drawn has few -/
theorem bound_few {h : Hou} (ho : h.Ok) (hm2 : h.most ≤ 2) (hm : h.sh.length = 3 → h.mark ≤ 1) : bound h ≤ 245 := by
  rw [bound_eq, books_len]
  have hmo := ho.most
  have hk := ho.mark
  have h1 : h.most.toNat ≤ 2 := by omega
  rcases ho.len with e | e
  · have h2 : 1 + h.sh.length * h.most.toNat ≤ 5 := by rw [e]; omega
    have hb : (match h.kd with
    | .first => 1
    | .turns => h.sh.length ^ h.sh.length
    | .points => (2 * h.mark + 1).toNat ^ h.sh.length : Nat) ≤ 49 := by
      cases hkd : h.kd with
      | first => exact Nat.le_of_ble_eq_true rfl
      | turns => simp [e]
      | points =>
        rw [hkd] at hk
        simp at hk
        have h3 : (2 * h.mark + 1).toNat ≤ 7 := by omega
        simp only [e]; exact Nat.le_trans (Nat.pow_le_pow_left h3 2) (by decide)
    exact Nat.le_trans (Nat.mul_le_mul hb h2) (by decide)
  · have h2 : 1 + h.sh.length * h.most.toNat ≤ 7 := by rw [e]; omega
    have hb : (match h.kd with
    | .first => 1
    | .turns => h.sh.length ^ h.sh.length
    | .points => (2 * h.mark + 1).toNat ^ h.sh.length : Nat) ≤ 27 := by
      cases hkd : h.kd with
      | first => exact Nat.le_of_ble_eq_true rfl
      | turns => simp [e]
      | points =>
        rw [hkd] at hk
        simp at hk
        have h4 := hm e
        have h3 : (2 * h.mark + 1).toNat ≤ 3 := by omega
        simp only [e]; exact Nat.le_trans (Nat.pow_le_pow_left h3 3) (by decide)
    exact Nat.le_trans (Nat.mul_le_mul hb h2) (by decide)
/-! ### what stays true while the list is closed -/
structure LOk (h : Hou) (L : List Stg) : Prop where
  nd : L.Nodup
  ok : ∀ s ∈ L, SOk h s
theorem LOk.len {h : Hou} {L : List Stg} (l : LOk h L) : L.length ≤ bound h := nodup_len L (allS h) l.nd fun s hs => (l.ok s hs).all
theorem put1_ok {h : Hou} {L : List Stg} {s : Stg} (l : LOk h L) (so : SOk h s) : LOk h (put1 L s) := by
  unfold put1
  split
  · exact l
  · rename_i hn
    refine ⟨List.nodup_append.mpr ⟨l.nd, by simp, fun a ha b hb e => hn (by rw [List.mem_singleton.mp hb] at e; exact e ▸ ha)⟩, fun x hx => ?_⟩
    rcases List.mem_append.mp hx with z | z
    · exact l.ok x z
    · rw [List.mem_singleton.mp z]; exact so
theorem put1_pre (L : List Stg) (s : Stg) : ∃ t, put1 L s = L ++ t := by
  unfold put1
  split
  · exact ⟨[], by simp⟩
  · exact ⟨[s], rfl⟩
theorem put1_mem (L : List Stg) (s : Stg) : s ∈ put1 L s := by
  unfold put1
  split
  · assumption
  · simp
theorem putW_ok {h : Hou} (ho : h.Ok) {s : Stg} (so : SOk h s) : ∀ {ws : List (List Int)} {L : List Stg}, LOk h L → (∀ w ∈ ws, WOk h w) → LOk h (putW h s L ws)
  | [], L, l, _ => l
  | w :: ws, L, l, hw => putW_ok ho so (ws := ws) (put1_ok l (day_ok ho so (hw w List.mem_cons_self))) fun v hv => hw v (List.mem_cons_of_mem _ hv)
theorem putW_pre (h : Hou) (s : Stg) : ∀ (ws : List (List Int)) (L : List Stg), ∃ t, putW h s L ws = L ++ t
  | [], L => ⟨[], by simp [putW]⟩
  | w :: ws, L => by
    obtain ⟨t, e⟩ := put1_pre L (day h s w).1
    obtain ⟨t2, e2⟩ := putW_pre h s ws (put1 L (day h s w).1)
    refine ⟨t ++ t2, ?_⟩
    show putW h s (put1 L (day h s w).1) ws = _
    rw [e2, e, List.append_assoc]
theorem putW_mem (h : Hou) (s : Stg) : ∀ (ws : List (List Int)) (L : List Stg), ∀ w ∈ ws, (day h s w).1 ∈ putW h s L ws
  | w :: ws, L, v, hv => by
    rcases List.mem_cons.mp hv with rfl | hv
    · obtain ⟨t, e⟩ := putW_pre h s ws (put1 L (day h s v).1)
      show _ ∈ putW h s (put1 L (day h s v).1) ws
      rw [e]
      exact List.mem_append_left _ (put1_mem _ _)
    · exact putW_mem h s ws _ v hv
theorem lineF_ok {h : Hou} (ho : h.Ok) : ∀ (n : Nat) {L : List Stg} {i : Nat}, LOk h L → LOk h (lineF h n L i)
  | 0, L, i, l => l
  | n + 1, L, i, l => by
    rw [lineF]
    split
    · exact l
    · rename_i s hs
      exact lineF_ok ho n (putW_ok ho (l.ok s (List.mem_of_getElem? hs)) l (wishN_ok ho))
theorem lineF_pre (h : Hou) : ∀ (n : Nat) (L : List Stg) (i : Nat), ∃ t, lineF h n L i = L ++ t
  | 0, L, i => ⟨[], by simp [lineF]⟩
  | n + 1, L, i => by
    rw [lineF]
    split
    · exact ⟨[], by simp⟩
    · rename_i s hs
      obtain ⟨t, e⟩ := putW_pre h s (wishN h.sh.length) L
      obtain ⟨t2, e2⟩ := lineF_pre h n (putW h s L (wishN h.sh.length)) (i + 1)
      exact ⟨t ++ t2, by rw [e2, e, List.append_assoc]⟩
/-- with enough fuel the end is the same -/
theorem lineF_same {h : Hou} (ho : h.Ok) : ∀ (n m : Nat) {L : List Stg} {i : Nat}, LOk h L → i ≤ L.length → bound h < i + n → bound h < i + m → lineF h n L i = lineF h m L i
  | 0, m, L, i, l, hi, h1, _ => by have := l.len; omega
  | n + 1, 0, L, i, l, hi, _, h2 => by have := l.len; omega
  | n + 1, m + 1, L, i, l, hi, h1, h2 => by
    rw [lineF, lineF]
    cases hs : L[i]? with
    | none => rfl
    | some s =>
      have hlt := (List.getElem?_eq_some_iff.mp hs).1
      obtain ⟨t, e⟩ := putW_pre h s (wishN h.sh.length) L
      exact lineF_same ho n m (putW_ok ho (l.ok s (List.mem_of_getElem? hs)) l (wishN_ok ho)) (by rw [e, List.length_append]; omega) (by omega) (by omega)
/-- the list is closed -/
theorem lineF_closed {h : Hou} (ho : h.Ok) : ∀ (n : Nat) {L : List Stg} {i : Nat}, LOk h L → i ≤ L.length → bound h < i + n → (∀ j s, j < i → L[j]? = some s → ∀ w ∈ wishN h.sh.length, (day h s w).1 ∈ L) → ∀ s ∈ lineF h n L i, ∀ w ∈ wishN h.sh.length, (day h s w).1 ∈ lineF h n L i
  | 0, L, i, l, hi, h1, _ => by have := l.len; omega
  | n + 1, L, i, l, hi, h1, q => by
    rw [lineF]
    cases hs : L[i]? with
    | none =>
      intro s hm w hw
      have hm : s ∈ L := hm
      show (day h s w).1 ∈ L
      obtain ⟨j, hj⟩ := List.getElem?_of_mem hm
      have hlt := (List.getElem?_eq_some_iff.mp hj).1
      have := List.getElem?_eq_none_iff.mp hs
      exact q j s (by omega) hj w hw
    | some s =>
      have hlt := (List.getElem?_eq_some_iff.mp hs).1
      obtain ⟨t, e⟩ := putW_pre h s (wishN h.sh.length) L
      refine lineF_closed ho n (putW_ok ho (l.ok s (List.mem_of_getElem? hs)) l (wishN_ok ho)) (by rw [e, List.length_append]; omega) (by omega) fun j u hj hu w hw => ?_
      by_cases hji : j = i
      · subst hji
        rw [e, List.getElem?_append_left hlt, hs] at hu
        cases hu
        exact putW_mem h s _ _ w hw
      · rw [e, List.getElem?_append_left (show j < L.length by omega)] at hu
        have := q j u (by omega) hu w hw
        rw [e]
        exact List.mem_append_left _ this
theorem l0_ok {h : Hou} (ho : h.Ok) : LOk h [st0 h] := ⟨by simp, fun s hs => by rw [List.mem_singleton.mp hs]; exact st0_ok ho⟩
theorem line_ok {h : Hou} (ho : h.Ok) : LOk h (lineM h) := lineF_ok ho _ (l0_ok ho)
theorem line_first {h : Hou} : st0 h ∈ lineM h := by
  obtain ⟨t, e⟩ := lineF_pre h 5000 [st0 h] 0
  unfold lineM
  rw [e]
  exact List.mem_append_left _ (List.mem_singleton.mpr rfl)
theorem line_closed {h : Hou} (ho : h.Ok) : ∀ s ∈ lineM h, ∀ w ∈ wishN h.sh.length, (day h s w).1 ∈ lineM h :=
  lineF_closed ho 5000 (l0_ok ho) (by simp) (by have := bound_le ho; omega) fun j s hj => by omega
theorem line_len {h : Hou} (ho : h.Ok) : (lineM h).length ≤ 3430 := Nat.le_trans (line_ok ho).len (bound_le ho)
end LawT
namespace LawT
open PySem EV

/-! ### a standing as data -/
theorem runD_nk (r : Run) : (runD r).nk = true := by cases r <;> rfl
theorem stD_nk (s : Stg) : (stD s).nk = true := by
  simp only [stD, D.nk, D.nks, nks_ints, runD_nk]; rfl
theorem it_inj {a b : List Int} (h : a.map D.int = b.map D.int) : a = b := by
  have := congrArg (List.map fun d => match d with | D.int i => i | _ => 0) h
  simpa [List.map_map, Function.comp_def] using this
theorem runD_inj {a b : Run} (h : runD a = runD b) : a = b := by
  cases a <;> cases b <;> simp [runD] at h ⊢
  exact Prod.ext h.1 h.2
theorem stD_inj {a b : Stg} (h : stD a = stD b) : a = b := by
  simp only [stD, D.tup.injEq, List.cons.injEq, and_true] at h
  exact Prod.ext (it_inj h.1) (runD_inj h.2)
theorem eqv_st (a b : Stg) : eqv (stD a) (stD b) = decide (a = b) := by
  rw [Bool.eq_iff_iff, eqv_nk _ _ (stD_nk a) (stD_nk b), decide_eq_true_eq]
  exact ⟨stD_inj, congrArg stD⟩
theorem okD_st (s : Stg) : okD (stD s) = true := okD_of (stD_pl s) (Nat.le_trans (stD_dep s) (by decide))
theorem pl_sts (L : List Stg) : D.pls (L.map stD) = true := pls_of fun d hd => by obtain ⟨s, _, rfl⟩ := List.mem_map.mp hd; exact stD_pl s
theorem okD_sts (L : List Stg) : okD (.lst (L.map stD)) = true := by
  refine okD_of ?_ ?_
  · rw [D.pl]; exact pl_sts L
  · rw [D.dep]
    have := deps_of (n := 2) (ds := L.map stD) fun d hd => by obtain ⟨s, _, rfl⟩ := List.mem_map.mp hd; exact stD_dep s
    omega
theorem any_st (L : List Stg) (s : Stg) : ((L.map stD).any fun z => eqv z (stD s)) = decide (s ∈ L) := by
  rw [Bool.eq_iff_iff, List.any_map, List.any_eq_true, decide_eq_true_eq]
  simp only [Function.comp_def, eqv_st, decide_eq_true_eq]
  exact ⟨fun ⟨x, h1, h2⟩ => h2 ▸ h1, fun h => ⟨s, h, rfl⟩⟩
theorem und_sts (n : Nat) (L : List Stg) : (O.lst (L.map stD)).und n = true := by rw [O.und]; exact unds_pls _ (pl_sts L)
theorem nin_st {st : Store} {l : Nat} {L : List Stg} {s : Stg} (h : st[l]? = some (.lst (L.map stD))) : evCmp st .notIn (stD s) (.loc l) = some (!decide (s ∈ L)) := by
  rw [cmp_nin_lst h (okD_st s) (okD_sts L), any_st]
end LawT
namespace LawT
open PySem EV

/-! ### what seen gifts tell, in plain words -/
abbrev Gv := Option Int
abbrev Rw := List (List Int)
/-- the standings behind a day with such a gift, from one standing; from all -/
def lookW (h : Hou) (g : Gv) (s : Stg) : Rw → List Stg → List Stg
  | [], acc => acc
  | w :: ws, acc => lookW h g s ws (if (day h s w).2 = g ∧ (day h s w).1 ∉ acc then acc ++ [(day h s w).1] else acc)
def lookS (h : Hou) (g : Gv) : List Stg → List Stg → List Stg
  | [], acc => acc
  | s :: r, acc => lookS h g r (lookW h g s (wishN h.sh.length) acc)
def fitL (h : Hou) : List Stg → List Gv → List Stg
  | lv, [] => lv
  | lv, g :: gs => fitL h (lookS h g lv []) gs
def levs (h : Hou) : List Stg → List Gv → List (List Stg)
  | lv, [] => [lv]
  | lv, g :: gs => lv :: levs h (lookS h g lv []) gs
theorem levs_last (h : Hou) : ∀ (gs : List Gv) (lv : List Stg), ∃ pre, levs h lv gs = pre ++ [fitL h lv gs]
  | [], lv => ⟨[], rfl⟩
  | g :: gs, lv => by
    obtain ⟨p, e⟩ := levs_last h gs (lookS h g lv [])
    exact ⟨lv :: p, by rw [levs, e]; rfl⟩
theorem levs_len (h : Hou) : ∀ (gs : List Gv) (lv : List Stg), (levs h lv gs).length = gs.length + 1
  | [], _ => rfl
  | g :: gs, lv => by rw [levs, List.length_cons, levs_len h gs]; rfl
theorem lookW_mem (h : Hou) (g : Gv) (s x : Stg) : ∀ (ws : Rw) (acc : List Stg), x ∈ lookW h g s ws acc ↔ x ∈ acc ∨ ∃ w ∈ ws, day h s w = (x, g)
  | [], acc => by simp [lookW]
  | w :: ws, acc => by
    rw [lookW, lookW_mem h g s x ws]
    by_cases c : (day h s w).2 = g
    · by_cases d : (day h s w).1 ∈ acc
      · rw [if_neg (fun z => z.2 d)]
        constructor
        · rintro (q | ⟨v, hv, e⟩)
          · exact .inl q
          · exact .inr ⟨v, List.mem_cons_of_mem _ hv, e⟩
        · rintro (q | ⟨v, hv, e⟩)
          · exact .inl q
          · rcases List.mem_cons.mp hv with rfl | hv
            · rw [e] at d; exact .inl d
            · exact .inr ⟨v, hv, e⟩
      · rw [if_pos ⟨c, d⟩, List.mem_append, List.mem_singleton]
        constructor
        · rintro ((q | q) | ⟨v, hv, e⟩)
          · exact .inl q
          · exact .inr ⟨w, List.mem_cons_self, by rw [q, ← c]⟩
          · exact .inr ⟨v, List.mem_cons_of_mem _ hv, e⟩
        · rintro (q | ⟨v, hv, e⟩)
          · exact .inl (.inl q)
          · rcases List.mem_cons.mp hv with rfl | hv
            · exact .inl (.inr (by rw [e]))
            · exact .inr ⟨v, hv, e⟩
    · rw [if_neg (fun z => c z.1)]
      constructor
      · rintro (q | ⟨v, hv, e⟩)
        · exact .inl q
        · exact .inr ⟨v, List.mem_cons_of_mem _ hv, e⟩
      · rintro (q | ⟨v, hv, e⟩)
        · exact .inl q
        · rcases List.mem_cons.mp hv with rfl | hv
          · rw [e] at c; exact absurd rfl c
          · exact .inr ⟨v, hv, e⟩
theorem lookS_mem (h : Hou) (g : Gv) (x : Stg) : ∀ (lv acc : List Stg), x ∈ lookS h g lv acc ↔ x ∈ acc ∨ ∃ s ∈ lv, ∃ w ∈ wishN h.sh.length, day h s w = (x, g)
  | [], acc => by simp [lookS]
  | s :: r, acc => by
    rw [lookS, lookS_mem h g x r, lookW_mem]
    constructor
    · rintro ((q | ⟨w, hw, e⟩) | ⟨t, ht, q⟩)
      · exact .inl q
      · exact .inr ⟨s, List.mem_cons_self, w, hw, e⟩
      · exact .inr ⟨t, List.mem_cons_of_mem _ ht, q⟩
    · rintro (q | ⟨t, ht, w, hw, e⟩)
      · exact .inl (.inl q)
      · rcases List.mem_cons.mp ht with rfl | ht
        · exact .inl (.inr ⟨w, hw, e⟩)
        · exact .inr ⟨t, ht, w, hw, e⟩
theorem lookW_ok {h : Hou} (ho : h.Ok) (g : Gv) {s : Stg} (so : SOk h s) : ∀ (ws : Rw) {acc : List Stg}, (∀ w ∈ ws, WOk h w) → LOk h acc → LOk h (lookW h g s ws acc)
  | [], acc, _, l => l
  | w :: ws, acc, hw, l => by
    rw [lookW]
    refine lookW_ok ho g so ws (fun v hv => hw v (List.mem_cons_of_mem _ hv)) ?_
    split
    · rename_i c
      have := put1_ok l (day_ok ho so (hw w List.mem_cons_self))
      unfold put1 at this
      rwa [if_neg c.2] at this
    · exact l
theorem lookS_ok {h : Hou} (ho : h.Ok) (g : Gv) : ∀ {lv acc : List Stg}, (∀ s ∈ lv, SOk h s) → LOk h acc → LOk h (lookS h g lv acc)
  | [], acc, _, l => l
  | s :: r, acc, hs, l => lookS_ok (lv := r) ho g (fun t ht => hs t (List.mem_cons_of_mem _ ht)) (lookW_ok ho g (hs s List.mem_cons_self) _ (wishN_ok ho) l)
theorem nil_ok (h : Hou) : LOk h [] := ⟨by simp, by simp⟩
theorem fitL_ok {h : Hou} (ho : h.Ok) : ∀ (gs : List Gv) {lv : List Stg}, LOk h lv → LOk h (fitL h lv gs)
  | [], lv, l => l
  | g :: gs, lv, l => fitL_ok ho gs (lookS_ok ho g l.ok (nil_ok h))
theorem levs_ok {h : Hou} (ho : h.Ok) : ∀ (gs : List Gv) {lv : List Stg}, LOk h lv → ∀ l ∈ levs h lv gs, LOk h l
  | [], lv, l, x, hx => by rw [levs, List.mem_singleton] at hx; rw [hx]; exact l
  | g :: gs, lv, l, x, hx => by
    rw [levs, List.mem_cons] at hx
    rcases hx with rfl | hx
    · exact l
    · exact levs_ok ho gs (lookS_ok ho g l.ok (nil_ok h)) x hx
/-! ### ways -/
def Way (h : Hou) : Stg → List Gv → Rw → Stg → Prop
  | s, [], t, s' => t = [] ∧ s' = s
  | s, g :: gs, t, s' => ∃ w r, t = w :: r ∧ w ∈ wishN h.sh.length ∧ (day h s w).2 = g ∧ Way h (day h s w).1 gs r s'
theorem way_len {h : Hou} : ∀ {gs : List Gv} {s : Stg} {t : Rw} {s' : Stg}, Way h s gs t s' → t.length = gs.length
  | [], _, _, _, p => by rw [p.1]; rfl
  | _ :: _, _, _, _, ⟨w, r, e, _, _, p⟩ => by rw [e, List.length_cons, List.length_cons, way_len p]
theorem fit_way (h : Hou) : ∀ (gs : List Gv) (lv : List Stg) (x : Stg), x ∈ fitL h lv gs ↔ ∃ s ∈ lv, ∃ t, Way h s gs t x
  | [], lv, x => by
    rw [fitL]
    exact ⟨fun q => ⟨x, q, [], rfl, rfl⟩, fun ⟨s, hs, t, _, e⟩ => e ▸ hs⟩
  | g :: gs, lv, x => by
    rw [fitL, fit_way h gs]
    constructor
    · rintro ⟨y, hy, t, p⟩
      rw [lookS_mem] at hy
      rcases hy with hy | ⟨s, hs, w, hw, e⟩
      · cases hy
      · exact ⟨s, hs, w :: t, w, t, rfl, hw, by rw [e], by rw [e]; exact p⟩
    · rintro ⟨s, hs, t, w, r, rfl, hw, hg, p⟩
      exact ⟨(day h s w).1, (lookS_mem h g _ lv []).mpr (.inr ⟨s, hs, w, hw, by rw [← hg]⟩), r, p⟩
/-- all rows, as the law makes them -/
def rowsW (h : Hou) (g : Gv) (p : Rw × Stg) : List (Rw × Stg) := (wishN h.sh.length).filterMap fun w => if (day h p.2 w).2 = g then some (p.1 ++ [w], (day h p.2 w).1) else none
def rowsG (h : Hou) (g : Gv) (L : List (Rw × Stg)) : List (Rw × Stg) := L.flatMap (rowsW h g)
def rowsL (h : Hou) : List (Rw × Stg) → List Gv → List (Rw × Stg)
  | L, [] => L
  | L, g :: gs => rowsL h (rowsG h g L) gs
theorem rowsG_mem (h : Hou) (g : Gv) (L : List (Rw × Stg)) (q : Rw × Stg) : q ∈ rowsG h g L ↔ ∃ p ∈ L, ∃ w ∈ wishN h.sh.length, (day h p.2 w).2 = g ∧ q = (p.1 ++ [w], (day h p.2 w).1) := by
  unfold rowsG rowsW
  rw [List.mem_flatMap]
  constructor
  · rintro ⟨p, hp, hq⟩
    obtain ⟨w, hw, e⟩ := List.mem_filterMap.mp hq
    split at e
    · rename_i c
      exact ⟨p, hp, w, hw, c, (Option.some.inj e).symm⟩
    · cases e
  · rintro ⟨p, hp, w, hw, c, rfl⟩
    exact ⟨p, hp, List.mem_filterMap.mpr ⟨w, hw, by rw [if_pos c]⟩⟩
theorem rows_way (h : Hou) : ∀ (gs : List Gv) (L : List (Rw × Stg)) (q : Rw × Stg), q ∈ rowsL h L gs ↔ ∃ p ∈ L, ∃ t, q.1 = p.1 ++ t ∧ Way h p.2 gs t q.2
  | [], L, q => by
    rw [rowsL]
    exact ⟨fun z => ⟨q, z, [], by simp, rfl, rfl⟩, fun ⟨p, hp, t, e, e1, e2⟩ => by
      have : q = p := Prod.ext (by rw [e, e1, List.append_nil]) e2
      rw [this]; exact hp⟩
  | g :: gs, L, q => by
    rw [rowsL, rows_way h gs]
    constructor
    · rintro ⟨p, hp, t, e, way⟩
      obtain ⟨p0, hp0, w, hw, c, rfl⟩ := (rowsG_mem h g L p).mp hp
      exact ⟨p0, hp0, w :: t, by rw [e]; simp, w, t, rfl, hw, c, way⟩
    · rintro ⟨p, hp, t, e, w, r, rfl, hw, c, way⟩
      exact ⟨_, (rowsG_mem h g L _).mpr ⟨p, hp, w, hw, c, rfl⟩, r, by rw [e]; simp, way⟩
abbrev rows0 (h : Hou) (gs : List Gv) : List (Rw × Stg) := rowsL h [([], st0 h)] gs
theorem rows0_way (h : Hou) (gs : List Gv) (q : Rw × Stg) : q ∈ rows0 h gs ↔ Way h (st0 h) gs q.1 q.2 := by
  rw [rows_way]
  constructor
  · rintro ⟨p, hp, t, e, way⟩
    rw [List.mem_singleton.mp hp] at e way
    rw [e]
    exact way
  · intro way
    exact ⟨_, List.mem_singleton.mpr rfl, q.1, rfl, way⟩
/-- the ends of all rows are what fits -/
theorem ends_fit (h : Hou) (gs : List Gv) (s : Stg) : s ∈ fitL h [st0 h] gs ↔ ∃ q ∈ rows0 h gs, q.2 = s := by
  rw [fit_way]
  constructor
  · rintro ⟨x, hx, t, way⟩
    rw [List.mem_singleton.mp hx] at way
    exact ⟨(t, s), (rows0_way h gs _).mpr way, rfl⟩
  · rintro ⟨q, hq, rfl⟩
    exact ⟨_, List.mem_singleton.mpr rfl, q.1, (rows0_way h gs q).mp hq⟩
/-- a way parted at a day -/
theorem way_cut {h : Hou} : ∀ {a : List Gv} {g : Gv} {b : List Gv} {s : Stg} {t : Rw} {s' : Stg}, Way h s (a ++ g :: b) t s' ↔ ∃ t1 s1 w t2, t = t1 ++ w :: t2 ∧ Way h s a t1 s1 ∧ w ∈ wishN h.sh.length ∧ (day h s1 w).2 = g ∧ Way h (day h s1 w).1 b t2 s'
  | [], g, b, s, t, s' => by
    constructor
    · rintro ⟨w, r, e, hw, hg, p⟩
      exact ⟨[], s, w, r, e, ⟨rfl, rfl⟩, hw, hg, p⟩
    · rintro ⟨t1, s1, w, t2, e, ⟨rfl, rfl⟩, hw, hg, p⟩
      exact ⟨w, t2, e, hw, hg, p⟩
  | g0 :: a, g, b, s, t, s' => by
    constructor
    · rintro ⟨w, r, rfl, hw, hg, p⟩
      obtain ⟨t1, s1, w1, t2, rfl, q1, q2, q3, q4⟩ := way_cut.mp p
      exact ⟨w :: t1, s1, w1, t2, rfl, ⟨w, t1, rfl, hw, hg, q1⟩, q2, q3, q4⟩
    · rintro ⟨t1, s1, w1, t2, rfl, ⟨w, r, rfl, hw, hg, p⟩, q2, q3, q4⟩
      exact ⟨w, r ++ w1 :: t2, rfl, hw, hg, way_cut.mpr ⟨r, s1, w1, t2, rfl, p, q2, q3, q4⟩⟩
/-- the wishes that there can have been on a day, in the order in which they are found -/
def toldW (h : Hou) (g : Gv) (rest : List Gv) (s : Stg) : Rw → Rw → Rw
  | [], acc => acc
  | w :: ws, acc => toldW h g rest s ws (if (day h s w).2 = g ∧ w ∉ acc ∧ fitL h [(day h s w).1] rest ≠ [] then acc ++ [w] else acc)
def toldS (h : Hou) (g : Gv) (rest : List Gv) : List Stg → Rw → Rw
  | [], acc => acc
  | s :: r, acc => toldS h g rest r (toldW h g rest s (wishN h.sh.length) acc)
def told (h : Hou) (a : List Gv) (g : Gv) (b : List Gv) : Rw := toldS h g b (fitL h [st0 h] a) []
theorem toldW_mem (h : Hou) (g : Gv) (rest : List Gv) (s : Stg) (x : List Int) : ∀ (ws acc : Rw), x ∈ toldW h g rest s ws acc ↔ x ∈ acc ∨ (x ∈ ws ∧ (day h s x).2 = g ∧ fitL h [(day h s x).1] rest ≠ [])
  | [], acc => by simp [toldW]
  | w :: ws, acc => by
    rw [toldW, toldW_mem h g rest s x ws]
    by_cases c : (day h s w).2 = g ∧ w ∉ acc ∧ fitL h [(day h s w).1] rest ≠ []
    · rw [if_pos c, List.mem_append, List.mem_singleton, List.mem_cons]
      constructor
      · rintro ((q | rfl) | ⟨q1, q2⟩)
        · exact .inl q
        · exact .inr ⟨.inl rfl, c.1, c.2.2⟩
        · exact .inr ⟨.inr q1, q2⟩
      · rintro (q | ⟨rfl | q1, q2⟩)
        · exact .inl (.inl q)
        · exact .inl (.inr rfl)
        · exact .inr ⟨q1, q2⟩
    · rw [if_neg c, List.mem_cons]
      constructor
      · rintro (q | ⟨q1, q2⟩)
        · exact .inl q
        · exact .inr ⟨.inr q1, q2⟩
      · rintro (q | ⟨rfl | q1, q2⟩)
        · exact .inl q
        · by_cases m : x ∈ acc
          · exact .inl m
          · exact absurd ⟨q2.1, m, q2.2⟩ c
        · exact .inr ⟨q1, q2⟩
theorem toldS_mem (h : Hou) (g : Gv) (rest : List Gv) (x : List Int) : ∀ (lv : List Stg) (acc : Rw), x ∈ toldS h g rest lv acc ↔ x ∈ acc ∨ ∃ s ∈ lv, x ∈ wishN h.sh.length ∧ (day h s x).2 = g ∧ fitL h [(day h s x).1] rest ≠ []
  | [], acc => by simp [toldS]
  | s :: r, acc => by
    rw [toldS, toldS_mem h g rest x r, toldW_mem]
    constructor
    · rintro ((q | q) | ⟨t, ht, q⟩)
      · exact .inl q
      · exact .inr ⟨s, List.mem_cons_self, q⟩
      · exact .inr ⟨t, List.mem_cons_of_mem _ ht, q⟩
    · rintro (q | ⟨t, ht, q⟩)
      · exact .inl (.inl q)
      · rcases List.mem_cons.mp ht with rfl | ht
        · exact .inl (.inr q)
        · exact .inr ⟨t, ht, q⟩
theorem toldW_nd (h : Hou) (g : Gv) (rest : List Gv) (s : Stg) : ∀ (ws acc : Rw), acc.Nodup → (toldW h g rest s ws acc).Nodup
  | [], acc, n => n
  | w :: ws, acc, n => by
    rw [toldW]
    refine toldW_nd h g rest s ws _ ?_
    split
    · rename_i c
      refine List.nodup_append.mpr ⟨n, by simp, fun a ha b hb e => ?_⟩
      rw [List.mem_singleton.mp hb] at e
      exact c.2.1 (e ▸ ha)
    · exact n
theorem toldS_nd (h : Hou) (g : Gv) (rest : List Gv) : ∀ (lv : List Stg) (acc : Rw), acc.Nodup → (toldS h g rest lv acc).Nodup
  | [], acc, n => n
  | s :: r, acc, n => toldS_nd h g rest r _ (toldW_nd h g rest s _ acc n)
theorem ne_nil_ex {α : Type} {l : List α} : l ≠ [] ↔ ∃ x, x ∈ l := ⟨List.exists_mem_of_ne_nil l, fun ⟨x, hx⟩ e => by rw [e] at hx; cases hx⟩
/-- the wishes of a day of all rows are what is told -/
theorem days_told (h : Hou) (a : List Gv) (g : Gv) (b : List Gv) (w : List Int) : w ∈ told h a g b ↔ ∃ q ∈ rows0 h (a ++ g :: b), q.1.getD a.length [] = w := by
  unfold told
  rw [toldS_mem]
  constructor
  · rintro (q | ⟨s, hs, hw, hg, hne⟩)
    · cases q
    · obtain ⟨x, hx, t1, p1⟩ := (fit_way h a _ s).mp hs
      rw [List.mem_singleton.mp hx] at p1
      obtain ⟨y, hy⟩ := ne_nil_ex.mp hne
      obtain ⟨z, hz, t2, p2⟩ := (fit_way h b _ y).mp hy
      rw [List.mem_singleton.mp hz] at p2
      refine ⟨(t1 ++ w :: t2, y), (rows0_way h _ _).mpr (way_cut.mpr ⟨t1, s, w, t2, rfl, p1, hw, hg, p2⟩), ?_⟩
      have := way_len p1
      simp [← this]
  · rintro ⟨q, hq, rfl⟩
    obtain ⟨t1, s1, w1, t2, e, p1, hw, hg, p2⟩ := way_cut.mp ((rows0_way h _ q).mp hq)
    have hl := way_len p1
    have : q.1.getD a.length [] = w1 := by rw [e, ← hl]; simp
    rw [this]
    exact .inr ⟨s1, (fit_way h a _ s1).mpr ⟨_, List.mem_singleton.mpr rfl, t1, p1⟩, hw, hg, ne_nil_ex.mpr ⟨q.2, (fit_way h b _ _).mpr ⟨_, List.mem_singleton.mpr rfl, t2, p2⟩⟩⟩
end LawT
namespace LawT
open PySem EV

/-! ### in order -/
theorem alks_ints : ∀ a b : List Int, D.alks (a.map .int) (b.map .int) = true
  | [], _ => by simp [D.alks]
  | _ :: _, [] => by simp [D.alks]
  | x :: a, y :: b => by rw [List.map_cons, List.map_cons, D.alks, alks_ints a b]; simp [D.alk]
theorem alk_run (a b : Run) : D.alk (runD a) (runD b) = true := by cases a <;> cases b <;> simp [runD, D.alk, D.alks]
theorem alk_st (a b : Stg) : D.alk (stD a) (stD b) = true := by
  simp only [stD, D.alk, D.alks, alks_ints, alk_run]; rfl
theorem keyOk_it (w : List Int) : keyOk true (it w) = true := by
  have h := dep_it w
  rw [D.dep] at h
  simp only [it, keyOk, nks_ints, Bool.true_and, decide_eq_true_eq]
  omega
theorem keyOk_st (s : Stg) : keyOk true (stD s) = true := by
  have h : D.deps [it s.1, runD s.2] ≤ 1 := by
    have := runD_dep s.2
    rw [D.deps, D.deps, D.deps, dep_it]
    omega
  have n : D.nks [it s.1, runD s.2] = true := by
    rw [D.nks, D.nks, D.nks, runD_nk, it, D.nk, nks_ints]
    rfl
  simp only [keyOk, n, Bool.true_and, decide_eq_true_eq]
  omega
theorem fullN_sts (L : List Stg) : fullN (L.map stD) = true := by
  unfold fullN
  rw [List.all_eq_true]
  intro d hd
  obtain ⟨s, _, rfl⟩ := List.mem_map.mp hd
  rw [keyOk_st s, Bool.and_true, Bool.and_eq_true]
  refine ⟨rfl, List.all_eq_true.mpr fun e he => ?_⟩
  obtain ⟨t, _, rfl⟩ := List.mem_map.mp he
  exact alk_st s t
theorem fullN_its {W : Rw} (h : ∀ w ∈ W, w ≠ []) : fullN (W.map it) = true := by
  unfold fullN
  rw [List.all_eq_true]
  intro d hd
  obtain ⟨w, hw, rfl⟩ := List.mem_map.mp hd
  rw [keyOk_it w, Bool.and_true, Bool.and_eq_true]
  refine ⟨?_, List.all_eq_true.mpr fun e he => ?_⟩
  · cases w with
    | nil => exact absurd rfl (h [] hw)
    | cons x r => rfl
  · obtain ⟨v, _, rfl⟩ := List.mem_map.mp he
    rw [it, it, D.alk]
    exact alks_ints w v
theorem sort_one (d : D) : sortN [d] = [d] := by unfold sortN; exact List.mergeSort_singleton d
/-- what is told of a day: wishes that are not empty, or the empty one alone, or none -/
def Sorts (W : Rw) : Prop := (∀ w ∈ W, w ≠ []) ∨ W = [[]]
theorem blt_sort_st {st : Store} (L : List Stg) : evBlt st .sortedN [.lst (L.map stD)] = some (.lst (sortN (L.map stD))) := by
  simp only [evBlt, fullN_sts, if_true]
theorem blt_sort_it {st : Store} {W : Rw} (h : Sorts W) : evBlt st .sortedN [.lst (W.map it)] = some (.lst (sortN (W.map it))) := by
  rcases h with h | rfl
  · simp only [evBlt, fullN_its h, if_true]
  · have : fullN (([[]] : Rw).map it) = false := by decide +kernel
    simp only [evBlt, this]
    have e : ([[]] : Rw).map it = [D.tup []] := rfl
    rw [e, sort_one]
    rfl
theorem srn_full {A B : List D} (hA : ∀ d ∈ A, keyOk true d = true) (hl : A.length < 64) (f : fullN B = true) (n : B.Nodup) (e : ∀ x, x ∈ B ↔ x ∈ A) : evSrn (.lst A) = some (.lst (sortN B)) := by
  have p : B.Perm (nubD A) := nubD_perm (fun d hd => full_nk (hA d hd)) n e
  have f2 : fullN (nubD A) = true := fullN_perm p.symm f
  have h1 : (A.all (keyOk true) && decide (A.length < 64)) = true := by rw [Bool.and_eq_true, List.all_eq_true, decide_eq_true_eq]; exact ⟨hA, hl⟩
  simp only [evSrn, h1, if_true, f2]
  rw [sortN_of_perm f p.symm]
theorem srn_one {A : List D} (hA : ∀ d ∈ A, keyOk true d = true) (hl : A.length < 64) (e : ∀ x, x = D.tup [] ↔ x ∈ A) : evSrn (.lst A) = some (.lst [D.tup []]) := by
  have p : [D.tup []].Perm (nubD A) := nubD_perm (fun d hd => full_nk (hA d hd)) (by simp) fun x => by rw [List.mem_singleton]; exact e x
  have p2 : nubD A = [D.tup []] := List.perm_singleton.mp p.symm
  have h1 : (A.all (keyOk true) && decide (A.length < 64)) = true := by rw [Bool.and_eq_true, List.all_eq_true, decide_eq_true_eq]; exact ⟨hA, hl⟩
  have f : fullN [D.tup []] = false := by decide +kernel
  simp only [evSrn, h1, if_true, p2, f]
  rfl
/-! ### values -/
abbrev seenD (gs : List Gv) : D := .tup (gs.map givD)
abbrev lvD (lv : List Stg) : D := .lst (lv.map stD)
theorem okD_giv (g : Gv) : okD (givD g) = true := okD_of (givD_pl g) (by rw [givD_dep]; omega)
theorem eqv_giv (a b : Gv) : eqv (givD a) (givD b) = decide (a = b) := by
  cases a <;> cases b <;> simp [givD, eqv_int]
  · simp [eqv, D.py, PyData.eqv]
  · simp [eqv, D.py, PyData.eqv]
  · simp [eqv, D.py, PyData.eqv]
theorem cmp_plain {st : Store} {a b : D} (ha : deref st a = a) (hb : deref st b = b) (h1 : okD a = true) (h2 : okD b = true) : evCmp st .eq a b = some (eqv a b) := by
  simp [evCmp, ha, hb, h1, h2]
theorem cmp_giv {st : Store} (a b : Gv) : evCmp st .eq (givD a) (givD b) = some (decide (a = b)) := by
  rw [cmp_plain (by cases a <;> rfl) (by cases b <;> rfl) (okD_giv a) (okD_giv b), eqv_giv]
def GOk (h : Hou) (gs : List Gv) : Prop := ∀ g ∈ gs, ∀ p, g = some p → inn h p
def isSeen (p : Nat) (v : D) : Bool := match v with
  | .tup ds => decide (ds.length ≤ 12) && ds.all fun d => isNon d || isFrom d 0 ((p : Int) - 1)
  | _ => false
theorem seen_is {h : Hou} {gs : List Gv} (go : GOk h gs) (hl : gs.length ≤ 12) : isSeen h.sh.length (seenD gs) = true := by
  simp only [isSeen, List.length_map, Bool.and_eq_true, decide_eq_true_eq, List.all_eq_true]
  refine ⟨hl, fun d hd => ?_⟩
  obtain ⟨g, hg, rfl⟩ := List.mem_map.mp hd
  cases g with
  | none => rfl
  | some p =>
    have := go _ hg p rfl
    unfold inn at this
    simp [givD, isFrom, isNon]
    omega
theorem seen_pl (gs : List Gv) : (seenD gs).pl = true := by
  rw [seenD, D.pl]
  exact pls_of fun d hd => by obtain ⟨g, _, rfl⟩ := List.mem_map.mp hd; exact givD_pl g
theorem seen_dep (gs : List Gv) : (seenD gs).dep ≤ 1 := by
  rw [seenD, D.dep]
  have := deps_of (n := 0) (ds := gs.map givD) fun d hd => by obtain ⟨g, _, rfl⟩ := List.mem_map.mp hd; rw [givD_dep]; exact Nat.le_refl _
  omega
theorem mid_get {st J : Store} {x : O} : (st ++ x :: J)[st.length]? = some x := by simp
theorem mid_set {st J : Store} {x y : O} : (st ++ x :: J).set st.length y = st ++ y :: J := by simp
theorem lv_und (n : Nat) (L : List (List Stg)) : (O.lst (L.map lvD)).und n = true := by
  rw [O.und]
  refine unds_pls _ (pls_of fun d hd => ?_)
  obtain ⟨lv, _, rfl⟩ := List.mem_map.mp hd
  rw [lvD, D.pl]
  exact pl_sts lv
def S_need_seen (cf : Call) : Prop := ∀ (h : Hou) v st, h.Ok → D.pl v = true → v.dep ≤ 50 → cf 15 [h.d, v] st = if isSeen h.sh.length v = true then .ok .non st else .exc 1 [] st
def S_fitting (cf : Call) : Prop := ∀ (h : Hou) gs st, h.Ok → gs.length ≤ 1000 → stUnd st = true → cf 16 [h.d, seenD gs] st = .ok (.lst ((levs h [st0 h] gs).map lvD)) st
def S_can_follow (cf : Call) : Prop := ∀ (h : Hou) s gs st, h.Ok → SOk h s → gs.length ≤ 1000 → stUnd st = true → cf 18 [h.d, stD s, seenD gs] st = .ok (.bl (decide (fitL h [s] gs ≠ []))) st
section
variable {cf : Call} {st : Store}
theorem sp_need_seen (h0 : S_is_from cf) (h1 : S_is_tuple cf) {h : Hou} {v : D} (ho : h.Ok) (hv : v.pl = true) (hd : v.dep ≤ 50) : evDef cf sub fu 4 b_need_seen [h.d, v] st = if isSeen h.sh.length v = true then .ok .non st else .exc 1 [] st := by
  cases v with
  | tup ds =>
    have hds : D.pls ds = true := by simpa [D.pl] using hv
    by_cases q : ds.length ≤ 12
    · have q' : (ds.length : Int) ≤ 12 := by omega
      have hl : lcLoop (k_turn cf x_need_seen_0 (.name 3) .none [some h.d, some (.tup ds), some (.int h.sh.length), none]) ds [] st = .ok (ds.map fun d => .bl (isNon d || isFrom d 0 ((h.sh.length : Int) - 1))) st := by
        rw [lc_map (F := fun d => .bl (isNon d || isFrom d 0 ((h.sh.length : Int) - 1)))]
        · rfl
        · intro d hdm
          have e := h0 d 0 ((h.sh.length : Int) - 1) st (pls_mem hds hdm)
          cases c : isNon d <;> simp [k_turn_eq, x_need_seen_0, evCmp, c, e]
      have e1 := h1 (.tup ds) 0 12 st hv
      simp [evDef_fin, b_need_seen, e1, isTup, q', hl, evBlt, bools_map, List.all_map, Function.comp_def]
      cases qa : (ds.all fun d => isNon d || isFrom d 0 ((h.sh.length : Int) - 1)) with
      | true => simp [isSeen, qa, q]
      | false => simp [isSeen, qa]
    · have q' : ¬ (ds.length : Int) ≤ 12 := by omega
      simp [evDef_fin, b_need_seen, h1 _ _ _ _ hv, isTup, q', isSeen, q]
  | _ => simp [evDef_fin, b_need_seen, h1 _ _ _ _ hv, isTup, isSeen] <;> simp [D.pl] at hv
/-- from one standing on -/
theorem fit_w (hd : S_day_behind cf) {h : Hou} (ho : h.Ok) {g : Gv} {s : Stg} {x1 x2 : D} (so : SOk h s) : ∀ (ws : Rw) (acc : List Stg) (o6 o7 o8 : Option D), (∀ w ∈ ws, WOk h w) → LOk h acc →
    ∃ o6' o7' o8', forLoop (k_ft cf sub fu (.name 6) b_fitting_f2) (ws.map it) [some h.d, some x1, some x2, some (givD g), some (.loc st.length), some (stD s), o6, o7, o8] (st ++ [.lst (acc.map stD)]) =
      .nx [some h.d, some x1, some x2, some (givD g), some (.loc st.length), some (stD s), o6', o7', o8'] (st ++ [.lst ((lookW h g s ws acc).map stD)])
  | [], acc, o6, o7, o8, _, _ => ⟨o6, o7, o8, by simp [lookW]⟩
  | w :: ws, acc, o6, o7, o8, hw, l => by
    have e1 := hd h s w (st ++ [.lst (acc.map stD)]) ho so (hw w List.mem_cons_self)
    have l2 : LOk h (lookW h g s [w] acc) := lookW_ok ho g so [w] (fun v hv => by rw [List.mem_singleton.mp hv]; exact hw w List.mem_cons_self) l
    obtain ⟨o6', o7', o8', e⟩ := fit_w hd ho so ws (lookW h g s [w] acc) (some (it w)) (some (stD (day h s w).1)) (some (givD (day h s w).2)) (fun v hv => hw v (List.mem_cons_of_mem _ hv)) l2
    refine ⟨o6', o7', o8', ?_⟩
    have e0 := nin_st (st := st ++ [.lst (acc.map stD)]) (s := (day h s w).1) (get_last st (.lst (acc.map stD)))
    have e2 := cmp_giv (st := st ++ [.lst (acc.map stD)]) (day h s w).2 g
    have hlen : acc.length < most := by have := Nat.le_trans l.len (bound_le ho); unfold most; omega
    have key : k_ft cf sub fu (.name 6) b_fitting_f2 (it w) [some h.d, some x1, some x2, some (givD g), some (.loc st.length), some (stD s), o6, o7, o8] (st ++ [.lst (acc.map stD)]) = .nx [some h.d, some x1, some x2, some (givD g), some (.loc st.length), some (stD s), some (it w), some (stD (day h s w).1), some (givD (day h s w).2)] (st ++ [.lst ((lookW h g s [w] acc).map stD)]) := by
      simp only [lookW]
      by_cases c : (day h s w).2 = g
      · rw [decide_eq_true c, c] at e2
        by_cases m : (day h s w).1 ∈ acc
        · rw [decide_eq_true m] at e0
          simp [k_ft_eq, b_fitting_f2, e1, pD, e0, e2, c, m]
        · rw [decide_eq_false m] at e0
          simp [k_ft_eq, b_fitting_f2, e1, pD, e0, e2, c, m, isLoc, evApp, hlen]
      · rw [decide_eq_false c] at e2
        simp [k_ft_eq, b_fitting_f2, e1, pD, e2, c]
    rw [List.map_cons, forLoop_cons, key, RS.loop_nx, e]
    simp only [lookW]
/-- from all of them -/
theorem fit_s (hd : S_day_behind cf) (ha : S_all_wishes cf) {h : Hou} (ho : h.Ok) {g : Gv} {x1 x2 : D} : ∀ (lv acc : List Stg) (o5 o6 o7 o8 : Option D), (∀ s ∈ lv, SOk h s) → LOk h acc →
    ∃ o5' o6' o7' o8', forLoop (k_ft cf sub fu (.name 5) b_fitting_f1) (lv.map stD) [some h.d, some x1, some x2, some (givD g), some (.loc st.length), o5, o6, o7, o8] (st ++ [.lst (acc.map stD)]) =
      .nx [some h.d, some x1, some x2, some (givD g), some (.loc st.length), o5', o6', o7', o8'] (st ++ [.lst ((lookS h g lv acc).map stD)])
  | [], acc, o5, o6, o7, o8, _, _ => ⟨o5, o6, o7, o8, by simp [lookS]⟩
  | s :: lv, acc, o5, o6, o7, o8, hs, l => by
    have so := hs s List.mem_cons_self
    obtain ⟨p6, p7, p8, e1⟩ := fit_w (st := st) hd ho (g := g) (x1 := x1) (x2 := x2) so (wishN h.sh.length) acc o6 o7 o8 (wishN_ok ho) l
    have l2 := lookW_ok ho g so (wishN h.sh.length) (wishN_ok ho) l
    obtain ⟨o5', o6', o7', o8', e2⟩ := fit_s hd ha ho (g := g) (x1 := x1) (x2 := x2) lv (lookW h g s (wishN h.sh.length) acc) (some (stD s)) p6 p7 p8 (fun t ht => hs t (List.mem_cons_of_mem _ ht)) l2
    refine ⟨o5', o6', o7', o8', ?_⟩
    have e0 := ha h (st ++ [.lst (acc.map stD)]) ho
    have key : k_ft cf sub fu (.name 5) b_fitting_f1 (stD s) [some h.d, some x1, some x2, some (givD g), some (.loc st.length), o5, o6, o7, o8] (st ++ [.lst (acc.map stD)]) = .nx [some h.d, some x1, some x2, some (givD g), some (.loc st.length), some (stD s), p6, p7, p8] (st ++ [.lst ((lookW h g s (wishN h.sh.length) acc).map stD)]) := by
      simp [k_ft_eq, b_fitting_f1, e0, e1]
    rw [List.map_cons, forLoop_cons, key, RS.loop_nx, e2]
    rfl
theorem fit_g (hd : S_day_behind cf) (ha : S_all_wishes cf) {h : Hou} (ho : h.Ok) {x1 : D} : ∀ (gs : List Gv) (pre : List (List Stg)) (lv : List Stg) (J : Store) (o3 o4 o5 o6 o7 o8 : Option D), LOk h lv → pre.length + gs.length ≤ 2000 →
    ∃ o3' o4' o5' o6' o7' o8' J', forLoop (k_ft cf sub fu (.name 3) b_fitting_f0) (gs.map givD) [some h.d, some x1, some (.loc st.length), o3, o4, o5, o6, o7, o8] (st ++ .lst ((pre ++ [lv]).map lvD) :: J) =
      .nx [some h.d, some x1, some (.loc st.length), o3', o4', o5', o6', o7', o8'] (st ++ .lst ((pre ++ levs h lv gs).map lvD) :: J')
  | [], pre, lv, J, o3, o4, o5, o6, o7, o8, _, _ => ⟨o3, o4, o5, o6, o7, o8, J, by simp [levs]⟩
  | g :: gs, pre, lv, J, o3, o4, o5, o6, o7, o8, l, hn => by
    rw [List.length_cons] at hn
    obtain ⟨p5, p6, p7, p8, e1⟩ := fit_s (st := st ++ .lst ((pre ++ [lv]).map lvD) :: J) hd ha ho (g := g) (x1 := x1) (x2 := .loc st.length) lv [] o5 o6 o7 o8 l.ok (nil_ok h)
    have l2 := lookS_ok ho g l.ok (nil_ok h)
    obtain ⟨o3', o4', o5', o6', o7', o8', J', e2⟩ := fit_g hd ha ho (x1 := x1) gs (pre ++ [lv]) (lookS h g lv []) (J ++ [.gone]) (some (givD g)) (some (lvD (lookS h g lv []))) p5 p6 p7 p8 l2 (by rw [List.length_append, List.length_singleton]; omega)
    refine ⟨o3', o4', o5', o6', o7', o8', J', ?_⟩
    have hix : ∀ T : Store, evIdx (st ++ .lst ((pre ++ [lv]).map lvD) :: T) (.loc st.length) (.int (-1)) = some (lvD lv) := by
      intro T
      simp only [evIdx, seqOf, deref, mid_get, List.length_map, List.length_append, List.length_singleton]
      have : ixOf (pre.length + 1) (-1) = some pre.length := by
        unfold ixOf
        rw [if_neg (by omega), if_pos (by omega)]
        congr 1
        omega
      rw [this]
      simp
    have hlen : pre.length + 1 < most := by unfold most; omega
    have e3 : (st ++ O.lst ((pre ++ [lv]).map lvD) :: J) ++ [O.lst (([] : List Stg).map stD)] = st ++ O.lst ((pre ++ [lv]).map lvD) :: (J ++ [O.lst []]) := by simp
    have e4 : (st ++ O.lst ((pre ++ [lv]).map lvD) :: J) ++ [O.lst ((lookS h g lv []).map stD)] = st ++ O.lst ((pre ++ [lv]).map lvD) :: (J ++ [O.lst ((lookS h g lv []).map stD)]) := by simp
    rw [e3, e4] at e1
    have el : (st ++ O.lst ((pre ++ [lv]).map lvD) :: J).length = st.length + (J.length + 1) := by simp
    rw [el] at e1
    have eg : (st ++ O.lst ((pre ++ [lv]).map lvD) :: (J ++ [O.lst ((lookS h g lv []).map stD)]))[st.length + (J.length + 1)]? = some (.lst ((lookS h g lv []).map stD)) := by simp
    have es : (st ++ O.lst ((pre ++ [lv]).map lvD) :: (J ++ [O.lst ((lookS h g lv []).map stD)])).set (st.length + (J.length + 1)) .gone = st ++ .lst ((pre ++ [lv]).map lvD) :: (J ++ [.gone]) := by simp
    have key : k_ft cf sub fu (.name 3) b_fitting_f0 (givD g) [some h.d, some x1, some (.loc st.length), o3, o4, o5, o6, o7, o8] (st ++ .lst ((pre ++ [lv]).map lvD) :: J) = .nx [some h.d, some x1, some (.loc st.length), some (givD g), some (lvD (lookS h g lv [])), p5, p6, p7, p8] (st ++ .lst ((pre ++ [lv] ++ [lookS h g lv []]).map lvD) :: (J ++ [.gone])) := by
      have hx := hix (J ++ [.lst []])
      generalize hN : lookS h g lv [] = N at *
      generalize hV : (pre ++ [lv]).map lvD = V at *
      have hVl : V.length = pre.length + 1 := by rw [← hV]; simp
      have hV2 : (pre ++ [lv] ++ [N]).map lvD = V ++ [lvD N] := by rw [List.map_append, hV]; rfl
      rw [hV2]
      simp [k_ft_eq, b_fitting_f0, hx]
      rw [e1]
      simp [evFrzv, eg, es, isLoc, evApp, hVl, hlen]
    rw [List.map_cons, forLoop_cons, key, RS.loop_nx, e2, levs]
    simp
theorem sp_fitting (h0 : S_first_standing cf) (hd : S_day_behind cf) (ha : S_all_wishes cf) {h : Hou} {gs : List Gv} (ho : h.Ok) (hn : gs.length ≤ 1000) : ∃ J, evDef cf sub fu 9 b_fitting [h.d, seenD gs] st = .ok (.lst ((levs h [st0 h] gs).map lvD)) (st ++ J) := by
  obtain ⟨o3, o4, o5, o6, o7, o8, J, e⟩ := fit_g (st := st) hd ha ho (x1 := seenD gs) gs [] [st0 h] [] none none none none none none (l0_ok ho) (by simp; omega)
  have e0 := h0 h st ho
  refine ⟨.gone :: J, ?_⟩
  simp only [List.nil_append, List.map_cons, List.map_nil, lvD] at e
  simp [evDef_fin, b_fitting, e0]
  rw [e]
  simp [evFrzv]
end
end LawT
namespace LawT
open PySem EV

def S_standings_told (cf : Call) : Prop := ∀ (h : Hou) v st, h.Ok → D.pl v = true → v.dep ≤ 50 → stUnd st = true → (isSeen h.sh.length v = false → cf 17 [h.d, v] st = .exc 1 [] st) ∧
  ∀ gs, v = seenD gs → GOk h gs → gs.length ≤ 12 → cf 17 [h.d, v] st = .ok (.lst (sortN ((fitL h [st0 h] gs).map stD))) st
section
variable {cf : Call} {st : Store}
theorem levs_ix {h : Hou} {gs : List Gv} {lv : List Stg} {st : Store} : evIdx st (.lst ((levs h lv gs).map lvD)) (.int (-1)) = some (lvD (fitL h lv gs)) := by
  obtain ⟨p, e⟩ := levs_last h gs lv
  rw [e]
  simp only [evIdx, seqOf, deref, List.length_map, List.length_append, List.length_singleton]
  have : ixOf (p.length + 1) (-1) = some p.length := by
    unfold ixOf
    rw [if_neg (by omega), if_pos (by omega)]
    congr 1
    omega
  rw [this]
  simp
theorem sp_standings_told_bad (hh : S_need_house cf) (hn : S_need_seen cf) {h : Hou} {v : D} (ho : h.Ok) (hv : v.pl = true) (hd : v.dep ≤ 50) (hb : isSeen h.sh.length v = false) : evDef cf sub fu 2 b_standings_told [h.d, v] st = .exc 1 [] st := by
  have e1 := hh h.d st h.pl (Nat.le_trans h.dep (by decide)) (Hou.is ho)
  have e2 := hn h v st ho hv hd
  rw [hb, if_neg Bool.false_ne_true] at e2
  simp [evDef_fin, b_standings_told, e1, e2]
theorem sp_standings_told (hh : S_need_house cf) (hn : S_need_seen cf) (hf : S_fitting cf) {h : Hou} {gs : List Gv} (ho : h.Ok) (go : GOk h gs) (hl : gs.length ≤ 12) (hu : stUnd st = true) : evDef cf sub fu 2 b_standings_told [h.d, seenD gs] st = .ok (.lst (sortN ((fitL h [st0 h] gs).map stD))) st := by
  have e1 := hh h.d st h.pl (Nat.le_trans h.dep (by decide)) (Hou.is ho)
  have e2 := hn h (seenD gs) st ho (seen_pl gs) (Nat.le_trans (seen_dep gs) (by decide))
  rw [seen_is go hl, if_pos rfl] at e2
  have e3 := hf h gs st ho (by omega) hu
  have e4 := levs_ix (h := h) (gs := gs) (lv := [st0 h]) (st := st)
  have e5 := blt_sort_st (st := st) (fitL h [st0 h] gs)
  simp [evDef_fin, b_standings_told, e1, e2, e3, e4, e5]
/-! ### can_follow -/
theorem can_w (hd : S_day_behind cf) {h : Hou} (ho : h.Ok) {g : Gv} {s : Stg} {x1 x2 x3 : D} (so : SOk h s) : ∀ (ws : Rw) (acc : List Stg) (o7 o8 o9 : Option D), (∀ w ∈ ws, WOk h w) → LOk h acc →
    ∃ o7' o8' o9', forLoop (k_ft cf sub fu (.name 7) b_can_follow_f2) (ws.map it) [some h.d, some x1, some x2, some x3, some (givD g), some (.loc st.length), some (stD s), o7, o8, o9] (st ++ [.lst (acc.map stD)]) =
      .nx [some h.d, some x1, some x2, some x3, some (givD g), some (.loc st.length), some (stD s), o7', o8', o9'] (st ++ [.lst ((lookW h g s ws acc).map stD)])
  | [], acc, o7, o8, o9, _, _ => ⟨o7, o8, o9, by simp [lookW]⟩
  | w :: ws, acc, o7, o8, o9, hw, l => by
    have e1 := hd h s w (st ++ [.lst (acc.map stD)]) ho so (hw w List.mem_cons_self)
    have l2 : LOk h (lookW h g s [w] acc) := lookW_ok ho g so [w] (fun v hv => by rw [List.mem_singleton.mp hv]; exact hw w List.mem_cons_self) l
    obtain ⟨o7', o8', o9', e⟩ := can_w hd ho so ws (lookW h g s [w] acc) (some (it w)) (some (stD (day h s w).1)) (some (givD (day h s w).2)) (fun v hv => hw v (List.mem_cons_of_mem _ hv)) l2
    refine ⟨o7', o8', o9', ?_⟩
    have e0 := nin_st (st := st ++ [.lst (acc.map stD)]) (s := (day h s w).1) (get_last st (.lst (acc.map stD)))
    have e2 := cmp_giv (st := st ++ [.lst (acc.map stD)]) (day h s w).2 g
    have hlen : acc.length < most := by have := Nat.le_trans l.len (bound_le ho); unfold most; omega
    have key : k_ft cf sub fu (.name 7) b_can_follow_f2 (it w) [some h.d, some x1, some x2, some x3, some (givD g), some (.loc st.length), some (stD s), o7, o8, o9] (st ++ [.lst (acc.map stD)]) = .nx [some h.d, some x1, some x2, some x3, some (givD g), some (.loc st.length), some (stD s), some (it w), some (stD (day h s w).1), some (givD (day h s w).2)] (st ++ [.lst ((lookW h g s [w] acc).map stD)]) := by
      simp only [lookW]
      by_cases c : (day h s w).2 = g
      · rw [decide_eq_true c, c] at e2
        by_cases m : (day h s w).1 ∈ acc
        · rw [decide_eq_true m] at e0
          simp [k_ft_eq, b_can_follow_f2, e1, pD, e0, e2, c, m]
        · rw [decide_eq_false m] at e0
          simp [k_ft_eq, b_can_follow_f2, e1, pD, e0, e2, c, m, isLoc, evApp, hlen]
      · rw [decide_eq_false c] at e2
        simp [k_ft_eq, b_can_follow_f2, e1, pD, e2, c]
    rw [List.map_cons, forLoop_cons, key, RS.loop_nx, e]
    simp only [lookW]
theorem can_s (hd : S_day_behind cf) (ha : S_all_wishes cf) {h : Hou} (ho : h.Ok) {g : Gv} {x1 x2 x3 : D} : ∀ (lv acc : List Stg) (o6 o7 o8 o9 : Option D), (∀ s ∈ lv, SOk h s) → LOk h acc →
    ∃ o6' o7' o8' o9', forLoop (k_ft cf sub fu (.name 6) b_can_follow_f1) (lv.map stD) [some h.d, some x1, some x2, some x3, some (givD g), some (.loc st.length), o6, o7, o8, o9] (st ++ [.lst (acc.map stD)]) =
      .nx [some h.d, some x1, some x2, some x3, some (givD g), some (.loc st.length), o6', o7', o8', o9'] (st ++ [.lst ((lookS h g lv acc).map stD)])
  | [], acc, o6, o7, o8, o9, _, _ => ⟨o6, o7, o8, o9, by simp [lookS]⟩
  | s :: lv, acc, o6, o7, o8, o9, hs, l => by
    have so := hs s List.mem_cons_self
    obtain ⟨p7, p8, p9, e1⟩ := can_w (st := st) hd ho (g := g) (x1 := x1) (x2 := x2) (x3 := x3) so (wishN h.sh.length) acc o7 o8 o9 (wishN_ok ho) l
    have l2 := lookW_ok ho g so (wishN h.sh.length) (wishN_ok ho) l
    obtain ⟨o6', o7', o8', o9', e2⟩ := can_s hd ha ho (g := g) (x1 := x1) (x2 := x2) (x3 := x3) lv (lookW h g s (wishN h.sh.length) acc) (some (stD s)) p7 p8 p9 (fun t ht => hs t (List.mem_cons_of_mem _ ht)) l2
    refine ⟨o6', o7', o8', o9', ?_⟩
    have e0 := ha h (st ++ [.lst (acc.map stD)]) ho
    have key : k_ft cf sub fu (.name 6) b_can_follow_f1 (stD s) [some h.d, some x1, some x2, some x3, some (givD g), some (.loc st.length), o6, o7, o8, o9] (st ++ [.lst (acc.map stD)]) = .nx [some h.d, some x1, some x2, some x3, some (givD g), some (.loc st.length), some (stD s), p7, p8, p9] (st ++ [.lst ((lookW h g s (wishN h.sh.length) acc).map stD)]) := by
      simp [k_ft_eq, b_can_follow_f1, e0, e1]
    rw [List.map_cons, forLoop_cons, key, RS.loop_nx, e2]
    rfl
theorem can_g (hd : S_day_behind cf) (ha : S_all_wishes cf) {h : Hou} (ho : h.Ok) {x1 x2 : D} : ∀ (gs : List Gv) (lv : List Stg) (J : Store) (o4 o5 o6 o7 o8 o9 : Option D), LOk h lv →
    ∃ o4' o5' o6' o7' o8' o9' J', forLoop (k_ft cf sub fu (.name 4) b_can_follow_f0) (gs.map givD) [some h.d, some x1, some x2, some (lvD lv), o4, o5, o6, o7, o8, o9] (st ++ J) =
      .nx [some h.d, some x1, some x2, some (lvD (fitL h lv gs)), o4', o5', o6', o7', o8', o9'] (st ++ J')
  | [], lv, J, o4, o5, o6, o7, o8, o9, _ => ⟨o4, o5, o6, o7, o8, o9, J, by simp [fitL]⟩
  | g :: gs, lv, J, o4, o5, o6, o7, o8, o9, l => by
    obtain ⟨p6, p7, p8, p9, e1⟩ := can_s (st := st ++ J) hd ha ho (g := g) (x1 := x1) (x2 := x2) (x3 := lvD lv) lv [] o6 o7 o8 o9 l.ok (nil_ok h)
    have l2 := lookS_ok ho g l.ok (nil_ok h)
    obtain ⟨o4', o5', o6', o7', o8', o9', J', e2⟩ := can_g hd ha ho (x1 := x1) (x2 := x2) gs (lookS h g lv []) (J ++ [.gone]) (some (givD g)) (some (lvD (lookS h g lv []))) p6 p7 p8 p9 l2
    refine ⟨o4', o5', o6', o7', o8', o9', J', ?_⟩
    have key : k_ft cf sub fu (.name 4) b_can_follow_f0 (givD g) [some h.d, some x1, some x2, some (lvD lv), o4, o5, o6, o7, o8, o9] (st ++ J) = .nx [some h.d, some x1, some x2, some (lvD (lookS h g lv [])), some (givD g), some (lvD (lookS h g lv [])), p6, p7, p8, p9] (st ++ (J ++ [.gone])) := by
      generalize hN : lookS h g lv [] = N at *
      simp [k_ft_eq, b_can_follow_f0]
      simp only [List.length_append, List.append_assoc, List.map_nil] at e1
      rw [e1]
      have eg : (st ++ (J ++ [O.lst (N.map stD)]))[st.length + J.length]? = some (.lst (N.map stD)) := by simp
      have es : (st ++ (J ++ [O.lst (N.map stD)])).set (st.length + J.length) .gone = st ++ (J ++ [.gone]) := by simp
      simp [evFrzv, eg, es]
    rw [List.map_cons, forLoop_cons, key, RS.loop_nx, e2]
    rfl
theorem sp_can_follow (hd : S_day_behind cf) (ha : S_all_wishes cf) {h : Hou} {s : Stg} {gs : List Gv} (ho : h.Ok) (so : SOk h s) : ∃ J, evDef cf sub fu 10 b_can_follow [h.d, stD s, seenD gs] st = .ok (.bl (decide (fitL h [s] gs ≠ []))) (st ++ J) := by
  have l0 : LOk h [s] := ⟨by simp, fun t ht => by rw [List.mem_singleton.mp ht]; exact so⟩
  obtain ⟨o4, o5, o6, o7, o8, o9, J, e⟩ := can_g (st := st) hd ha ho (x1 := stD s) (x2 := seenD gs) gs [s] [] none none none none none none l0
  refine ⟨J, ?_⟩
  simp only [List.append_nil, lvD, List.map_cons, List.map_nil] at e
  have l1 := fitL_ok ho gs l0
  have ok : okD (.lst ((fitL h [s] gs).map stD)) = true := okD_sts _
  have ec := cmp_ne_nil_l (st := st ++ J) ok
  have en : (!((fitL h [s] gs).map stD).isEmpty) = decide (fitL h [s] gs ≠ []) := by
    cases fitL h [s] gs with
    | nil => simp
    | cons x r => simp
  rw [en] at ec
  simp [evDef_fin, b_can_follow]
  rw [e]
  simp [ec]
end
end LawT
namespace LawT
open PySem EV

theorem day_none {h : Hou} {s : Stg} {w : List Int} : (day h s w).2 = none ↔ w = [] := by
  unfold day
  by_cases e : w = [] <;> simp [e]
theorem told_sorts (h : Hou) (a : List Gv) (g : Gv) (b : List Gv) : Sorts (told h a g b) := by
  have mem : ∀ w ∈ told h a g b, ∃ s, (day h s w).2 = g := fun w hw => by
    unfold told at hw
    rw [toldS_mem] at hw
    rcases hw with hw | ⟨s, _, _, hg, _⟩
    · cases hw
    · exact ⟨s, hg⟩
  cases g with
  | some p =>
    refine .inl fun w hw e => ?_
    obtain ⟨s, hg⟩ := mem w hw
    rw [day_none.mpr e] at hg
    cases hg
  | none =>
    have nil : ∀ w ∈ told h a none b, w = [] := fun w hw => let ⟨s, hg⟩ := mem w hw; day_none.mp hg
    have nd : (told h a none b).Nodup := toldS_nd h none b _ [] List.nodup_nil
    generalize told h a none b = W at nil nd ⊢
    match W, nil, nd with
    | [], _, _ => exact .inl fun w hw => by cases hw
    | [w], nil, _ => exact .inr (by rw [nil w List.mem_cons_self])
    | w :: v :: r, nil, nd =>
      rw [nil w List.mem_cons_self, nil v (List.mem_cons_of_mem _ List.mem_cons_self)] at nd
      simp at nd
theorem any_it (W : Rw) (w : List Int) : ((W.map it).any fun z => eqv z (it w)) = decide (w ∈ W) := by
  rw [Bool.eq_iff_iff, List.any_map, List.any_eq_true, decide_eq_true_eq]
  simp only [Function.comp_def, eqv_it, decide_eq_true_eq]
  exact ⟨fun ⟨x, h1, h2⟩ => h2 ▸ h1, fun h => ⟨w, h, rfl⟩⟩
theorem pl_its (W : Rw) : D.pls (W.map it) = true := pls_of fun d hd => by obtain ⟨w, _, rfl⟩ := List.mem_map.mp hd; exact pl_it w
theorem okD_its (W : Rw) : okD (.lst (W.map it)) = true := by
  refine okD_of ?_ ?_
  · rw [D.pl]; exact pl_its W
  · rw [D.dep]
    have := deps_of (n := 1) (ds := W.map it) fun d hd => by obtain ⟨w, _, rfl⟩ := List.mem_map.mp hd; rw [dep_it]; exact Nat.le_refl _
    omega
theorem nin_its {st : Store} {l : Nat} {W : Rw} {w : List Int} (h : st[l]? = some (.lst (W.map it))) : evCmp st .notIn (it w) (.loc l) = some (!decide (w ∈ W)) := by
  rw [cmp_nin_lst h (okD_it w) (okD_its W), any_it]
theorem cut_to (L M : List D) : cut (L ++ M) none (some (L.length : Int)) = L := by
  have h1 : ¬ ((L.length : Int) < 0) := by omega
  have h3 : min (L.length : Int).toNat (L ++ M).length = L.length := by rw [List.length_append]; omega
  unfold cut
  simp only [cutIx, if_neg h1, h3, List.drop_zero, Nat.sub_zero]
  exact List.take_left
theorem cut_from (L M : List D) (x : D) : cut (L ++ x :: M) (some ((L.length : Int) + 1)) none = M := by
  have h1 : ¬ ((L.length : Int) + 1 < 0) := by omega
  have h3 : min ((L.length : Int) + 1).toNat (L ++ x :: M).length = L.length + 1 := by rw [List.length_append, List.length_cons]; omega
  have h4 : (L ++ x :: M).drop (L.length + 1) = M := by
    rw [show L ++ x :: M = (L ++ [x]) ++ M by simp, show L.length + 1 = (L ++ [x]).length by simp]
    exact List.drop_left
  unfold cut
  simp only [cutIx, if_neg h1, h3, h4]
  exact List.take_of_length_le (by rw [List.length_append, List.length_cons]; omega)
theorem sl_to {st : Store} {a : List Gv} {g : Gv} {b : List Gv} : evSl st (seenD (a ++ g :: b)) none (some (a.length : Int)) = some (seenD a) := by
  have e := cut_to (a.map givD) ((g :: b).map givD)
  rw [List.length_map, ← List.map_append] at e
  simp only [evSl, seenD, deref, e]
theorem sl_from {st : Store} {a : List Gv} {g : Gv} {b : List Gv} : evSl st (seenD (a ++ g :: b)) (some ((a.length : Int) + 1)) none = some (seenD b) := by
  have e := cut_from (a.map givD) (b.map givD) (givD g)
  rw [List.length_map, ← List.map_cons, ← List.map_append] at e
  simp only [evSl, seenD, deref, e]
theorem seen_ix {st : Store} {a : List Gv} {g : Gv} {b : List Gv} : evIdx st (seenD (a ++ g :: b)) (.int a.length) = some (givD g) := by
  have e : ixOf ((a ++ g :: b).map givD).length (a.length : Int) = some a.length := by
    unfold ixOf
    rw [List.length_map, List.length_append, List.length_cons, if_pos (by omega), if_pos (by omega)]
    simp
  simp only [evIdx, seqOf, deref, e]
  simp
def S_wishes_told (cf : Call) : Prop := ∀ (h : Hou) v dv st, h.Ok → D.pl v = true → v.dep ≤ 50 → D.pl dv = true → stUnd st = true → (isSeen h.sh.length v = false → cf 19 [h.d, v, dv] st = .exc 1 [] st) ∧
  (∀ gs, v = seenD gs → GOk h gs → gs.length ≤ 12 → isFrom dv 0 ((gs.length : Int) - 1) = false → cf 19 [h.d, v, dv] st = .exc 2 [] st) ∧
  ∀ a g b, v = seenD (a ++ g :: b) → dv = .int a.length → GOk h (a ++ g :: b) → (a ++ g :: b).length ≤ 12 → cf 19 [h.d, v, dv] st = .ok (.lst (sortN ((told h a g b).map it))) st
section
variable {cf : Call} {st : Store}
theorem sp_wishes_bad (hh : S_need_house cf) (hn : S_need_seen cf) {h : Hou} {v dv : D} (ho : h.Ok) (hv : v.pl = true) (hd : v.dep ≤ 50) (hb : isSeen h.sh.length v = false) : evDef cf sub fu 8 b_wishes_told [h.d, v, dv] st = .exc 1 [] st := by
  have e1 := hh h.d st h.pl (Nat.le_trans h.dep (by decide)) (Hou.is ho)
  have e2 := hn h v st ho hv hd
  rw [hb, if_neg Bool.false_ne_true] at e2
  simp [evDef_fin, b_wishes_told, e1, e2]
theorem sp_wishes_index (hi : S_is_from cf) (hh : S_need_house cf) (hn : S_need_seen cf) {h : Hou} {gs : List Gv} {dv : D} (ho : h.Ok) (go : GOk h gs) (hl : gs.length ≤ 12) (hp : dv.pl = true) (hb : isFrom dv 0 ((gs.length : Int) - 1) = false) : evDef cf sub fu 8 b_wishes_told [h.d, seenD gs, dv] st = .exc 2 [] st := by
  have e1 := hh h.d st h.pl (Nat.le_trans h.dep (by decide)) (Hou.is ho)
  have e2 := hn h (seenD gs) st ho (seen_pl gs) (Nat.le_trans (seen_dep gs) (by decide))
  rw [seen_is go hl, if_pos rfl] at e2
  have e3 := hi dv 0 ((gs.length : Int) - 1) st hp
  rw [hb] at e3
  simp [evDef_fin, b_wishes_told, e1, e2, e3, evBlt, seqOf, deref]
theorem told_w (hd : S_day_behind cf) (hc : S_can_follow cf) {h : Hou} (ho : h.Ok) {a : List Gv} {g : Gv} {b : List Gv} {s : Stg} (so : SOk h s) (hb : b.length ≤ 1000) (hu : stUnd st = true) : ∀ (ws acc : Rw) (o5 o6 o7 : Option D), (∀ w ∈ ws, WOk h w) → acc.length + ws.length ≤ 100000 →
    ∃ o5' o6' o7', forLoop (k_ft cf sub fu (.name 5) b_wishes_told_f1) (ws.map it) [some h.d, some (seenD (a ++ g :: b)), some (.int a.length), some (.loc st.length), some (stD s), o5, o6, o7] (st ++ [.lst (acc.map it)]) =
      .nx [some h.d, some (seenD (a ++ g :: b)), some (.int a.length), some (.loc st.length), some (stD s), o5', o6', o7'] (st ++ [.lst ((toldW h g b s ws acc).map it)])
  | [], acc, o5, o6, o7, _, _ => ⟨o5, o6, o7, by simp [toldW]⟩
  | w :: ws, acc, o5, o6, o7, hw, hl => by
    have wo := hw w List.mem_cons_self
    rw [List.length_cons] at hl
    have e1 := hd h s w (st ++ [.lst (acc.map it)]) ho so wo
    have hl2 : (toldW h g b s [w] acc).length + ws.length ≤ 100000 := by
      simp only [toldW]
      split
      · rw [List.length_append, List.length_singleton]; omega
      · omega
    obtain ⟨o5', o6', o7', e⟩ := told_w hd hc ho (a := a) so hb hu ws (toldW h g b s [w] acc) (some (it w)) (some (stD (day h s w).1)) (some (givD (day h s w).2)) (fun v hv => hw v (List.mem_cons_of_mem _ hv)) hl2
    refine ⟨o5', o6', o7', ?_⟩
    have e0 := nin_its (st := st ++ [.lst (acc.map it)]) (w := w) (get_last st (.lst (acc.map it)))
    have e2 := cmp_giv (st := st ++ [.lst (acc.map it)]) (day h s w).2 g
    have e3 := seen_ix (st := st ++ [.lst (acc.map it)]) (a := a) (g := g) (b := b)
    have e4 := sl_from (st := st ++ [.lst (acc.map it)]) (a := a) (g := g) (b := b)
    have e5 := hc h (day h s w).1 b (st ++ [.lst (acc.map it)]) ho (day_ok ho so wo) hb (stUnd_push hu (by rw [O.und]; exact unds_pls _ (pl_its acc)))
    have hlen : acc.length < most := by unfold most; omega
    have key : k_ft cf sub fu (.name 5) b_wishes_told_f1 (it w) [some h.d, some (seenD (a ++ g :: b)), some (.int a.length), some (.loc st.length), some (stD s), o5, o6, o7] (st ++ [.lst (acc.map it)]) = .nx [some h.d, some (seenD (a ++ g :: b)), some (.int a.length), some (.loc st.length), some (stD s), some (it w), some (stD (day h s w).1), some (givD (day h s w).2)] (st ++ [.lst ((toldW h g b s [w] acc).map it)]) := by
      generalize seenD (a ++ g :: b) = SD at *
      simp only [toldW]
      by_cases c : (day h s w).2 = g
      · rw [decide_eq_true c, c] at e2
        by_cases m : w ∈ acc
        · rw [decide_eq_true m] at e0
          simp [k_ft_eq, b_wishes_told_f1, e1, pD, e0, e2, e3, c, m]
        · rw [decide_eq_false m] at e0
          by_cases f : fitL h [(day h s w).1] b = []
          · rw [decide_eq_false (by simp [f])] at e5
            simp [k_ft_eq, b_wishes_told_f1, e1, pD, e0, e2, e3, e4, e5, c, m, f]
          · rw [decide_eq_true f] at e5
            simp [k_ft_eq, b_wishes_told_f1, e1, pD, e0, e2, e3, e4, e5, c, m, f, isLoc, evApp, hlen]
      · rw [decide_eq_false c] at e2
        simp [k_ft_eq, b_wishes_told_f1, e1, pD, e2, e3, c]
    rw [List.map_cons, forLoop_cons, key, RS.loop_nx, e]
    simp only [toldW]
theorem toldW_len (h : Hou) (g : Gv) (rest : List Gv) (s : Stg) : ∀ (ws acc : Rw), (toldW h g rest s ws acc).length ≤ acc.length + ws.length
  | [], acc => by simp [toldW]
  | w :: ws, acc => by
    rw [toldW]
    have := toldW_len h g rest s ws (if (day h s w).2 = g ∧ w ∉ acc ∧ fitL h [(day h s w).1] rest ≠ [] then acc ++ [w] else acc)
    rw [List.length_cons]
    split at this
    · rw [List.length_append, List.length_singleton] at this
      rename_i c
      rw [if_pos c]
      omega
    · rename_i c
      rw [if_neg c]
      omega
theorem wishN_len (n : Nat) : (wishN n).length ≤ 8 := by unfold wishN; split <;> decide
theorem told_s (hd : S_day_behind cf) (hc : S_can_follow cf) (ha : S_all_wishes cf) {h : Hou} (ho : h.Ok) {a : List Gv} {g : Gv} {b : List Gv} (hb : b.length ≤ 1000) (hu : stUnd st = true) : ∀ (lv : List Stg) (acc : Rw) (o4 o5 o6 o7 : Option D), (∀ s ∈ lv, SOk h s) → acc.length + 8 * lv.length ≤ 100000 →
    ∃ o4' o5' o6' o7', forLoop (k_ft cf sub fu (.name 4) b_wishes_told_f0) (lv.map stD) [some h.d, some (seenD (a ++ g :: b)), some (.int a.length), some (.loc st.length), o4, o5, o6, o7] (st ++ [.lst (acc.map it)]) =
      .nx [some h.d, some (seenD (a ++ g :: b)), some (.int a.length), some (.loc st.length), o4', o5', o6', o7'] (st ++ [.lst ((toldS h g b lv acc).map it)])
  | [], acc, o4, o5, o6, o7, _, _ => ⟨o4, o5, o6, o7, by simp [toldS]⟩
  | s :: lv, acc, o4, o5, o6, o7, hs, hl => by
    have so := hs s List.mem_cons_self
    rw [List.length_cons] at hl
    have h8 := wishN_len h.sh.length
    obtain ⟨p5, p6, p7, e1⟩ := told_w (st := st) hd hc ho (a := a) (g := g) so hb hu (wishN h.sh.length) acc o5 o6 o7 (wishN_ok ho) (by omega)
    have hl2 := toldW_len h g b s (wishN h.sh.length) acc
    obtain ⟨o4', o5', o6', o7', e2⟩ := told_s hd hc ha ho (a := a) hb hu lv (toldW h g b s (wishN h.sh.length) acc) (some (stD s)) p5 p6 p7 (fun t ht => hs t (List.mem_cons_of_mem _ ht)) (by omega)
    refine ⟨o4', o5', o6', o7', ?_⟩
    have e0 := ha h (st ++ [.lst (acc.map it)]) ho
    have key : k_ft cf sub fu (.name 4) b_wishes_told_f0 (stD s) [some h.d, some (seenD (a ++ g :: b)), some (.int a.length), some (.loc st.length), o4, o5, o6, o7] (st ++ [.lst (acc.map it)]) = .nx [some h.d, some (seenD (a ++ g :: b)), some (.int a.length), some (.loc st.length), some (stD s), p5, p6, p7] (st ++ [.lst ((toldW h g b s (wishN h.sh.length) acc).map it)]) := by
      generalize seenD (a ++ g :: b) = SD at *
      simp [k_ft_eq, b_wishes_told_f0, e0, e1]
    rw [List.map_cons, forLoop_cons, key, RS.loop_nx, e2]
    rfl
theorem sp_wishes_told (hi : S_is_from cf) (hh : S_need_house cf) (hn : S_need_seen cf) (hf : S_fitting cf) (hd : S_day_behind cf) (hc : S_can_follow cf) (ha : S_all_wishes cf) {h : Hou} {a : List Gv} {g : Gv} {b : List Gv} (ho : h.Ok) (go : GOk h (a ++ g :: b)) (hl : (a ++ g :: b).length ≤ 12) (hu : stUnd st = true) :
    evDef cf sub fu 8 b_wishes_told [h.d, seenD (a ++ g :: b), .int a.length] st = .ok (.lst (sortN ((told h a g b).map it))) (st ++ [.gone]) := by
  have la : a.length ≤ 12 ∧ b.length ≤ 12 := by rw [List.length_append, List.length_cons] at hl; omega
  have e1 := hh h.d st h.pl (Nat.le_trans h.dep (by decide)) (Hou.is ho)
  have e2 := hn h (seenD (a ++ g :: b)) st ho (seen_pl _) (Nat.le_trans (seen_dep _) (by decide))
  rw [seen_is go hl, if_pos rfl] at e2
  have e3 := hi (.int a.length) 0 (((a ++ g :: b).length : Int) - 1) st rfl
  have hfr : isFrom (.int a.length) 0 (((a ++ g :: b).length : Int) - 1) = true := by simp [isFrom]; omega
  rw [hfr] at e3
  have e4 := sl_to (st := st ++ [.lst []]) (a := a) (g := g) (b := b)
  have e5 := hf h a (st ++ [.lst []]) ho (by omega) (stUnd_push hu rfl)
  have e6 := levs_ix (h := h) (gs := a) (lv := [st0 h]) (st := st ++ [.lst []])
  have l1 := fitL_ok ho a (l0_ok ho)
  have hlen := Nat.le_trans l1.len (bound_le ho)
  obtain ⟨o4, o5, o6, o7, e7⟩ := told_s (st := st) hd hc ha ho (a := a) (g := g) (b := b) (by omega) hu (fitL h [st0 h] a) [] none none none none l1.ok (by simp; omega)
  have e8 := blt_sort_it (st := st ++ [.gone]) (told_sorts h a g b)
  have hlb : evBlt st .len [seenD (a ++ g :: b)] = some (.int ((a ++ g :: b).length : Int)) := by simp [evBlt, seqOf, deref, seenD]
  generalize ((a ++ g :: b).length : Int) = n at *
  have ht : toldS h g b (fitL h [st0 h] a) [] = told h a g b := rfl
  rw [ht] at e7
  generalize seenD (a ++ g :: b) = SD at *
  generalize hT : told h a g b = T at *
  generalize hF : fitL h [st0 h] a = F at *
  generalize (levs h [st0 h] a).map lvD = LV at *
  simp only [List.map_nil] at e7
  simp [evDef_fin, b_wishes_told, e1, e2, e3, hlb, e4, e5, e6]
  rw [e7]
  simp [evFrzv, e8]
end
end LawT
namespace LawT
open PySem EV

/-! ### all rows with such gifts -/
abbrev prD (q : Rw × Stg) : D := .tup [rowT q.1, stD q.2]
theorem prD_pl (q : Rw × Stg) : (prD q).pl = true := by
  have h1 := rowT_pl q.1
  have h2 := stD_pl q.2
  rw [prD, D.pl, D.pls, D.pls, D.pls, h1, h2]; rfl
theorem pl_prs (L : List (Rw × Stg)) : D.pls (L.map prD) = true := pls_of fun d hd => by obtain ⟨q, _, rfl⟩ := List.mem_map.mp hd; exact prD_pl q
theorem und_prs (n : Nat) (L : List (Rw × Stg)) : (O.lst (L.map prD)).und n = true := by rw [O.und]; exact unds_pls _ (pl_prs L)
def rowsWs (h : Hou) (g : Gv) (ws : Rw) (p : Rw × Stg) : List (Rw × Stg) := ws.filterMap fun w => if (day h p.2 w).2 = g then some (p.1 ++ [w], (day h p.2 w).1) else none
theorem rowsWs_len (h : Hou) (g : Gv) (ws : Rw) (p : Rw × Stg) : (rowsWs h g ws p).length ≤ ws.length := List.length_filterMap_le _ _
theorem rowsW_len (h : Hou) (g : Gv) (p : Rw × Stg) : (rowsW h g p).length ≤ 8 := Nat.le_trans (rowsWs_len h g (wishN h.sh.length) p) (wishN_len _)
theorem rowsG_len (h : Hou) (g : Gv) : ∀ L : List (Rw × Stg), (rowsG h g L).length ≤ L.length * 8
  | [] => by simp [rowsG]
  | p :: L => by
    have h1 := rowsG_len h g L
    have h2 := rowsW_len h g p
    unfold rowsG at h1 ⊢
    rw [List.flatMap_cons, List.length_append, List.length_cons]
    omega
theorem bin_row {row : Rw} {w : List Int} (hl : row.length ≤ 1000) : evBin .add (rowT row) (.tup [it w]) = some (rowT (row ++ [w])) := by
  have : row.length + 1 ≤ most := by unfold most; omega
  simp [evBin, rowT, this]
def PsOk (h : Hou) (n : Nat) (L : List (Rw × Stg)) : Prop := ∀ q ∈ L, SOk h q.2 ∧ q.1.length ≤ n
theorem rowsG_ok {h : Hou} (ho : h.Ok) (g : Gv) {n : Nat} {L : List (Rw × Stg)} (l : PsOk h n L) : PsOk h (n + 1) (rowsG h g L) := fun q hq => by
  obtain ⟨p, hp, w, hw, _, rfl⟩ := (rowsG_mem h g L q).mp hq
  refine ⟨day_ok ho (l p hp).1 (wishN_ok ho w hw), ?_⟩
  have := (l p hp).2
  simp only [List.length_append, List.length_singleton]
  omega
def S_law_fitting (cf : Call) : Prop := ∀ (h : Hou) gs st, h.Ok → gs.length ≤ 4 → stUnd st = true → cf 30 [h.d, seenD gs] st = .ok (.lst ((rows0 h gs).map prD)) st
section
variable {cf : Call} {st : Store}
theorem lfit_w (hd : S_law_day cf) {h : Hou} (ho : h.Ok) {g : Gv} {p : Rw × Stg} {x1 x2 : D} (so : SOk h p.2) (hpl : p.1.length ≤ 1000) (hu : stUnd st = true) : ∀ (ws : Rw) (acc : List (Rw × Stg)) (o7 o8 o9 : Option D), (∀ w ∈ ws, WOk h w) → acc.length + ws.length ≤ 100000 →
    ∃ o7' o8' o9', forLoop (k_ft cf sub fu (.name 7) b_law_fitting_f2) (ws.map it) [some h.d, some x1, some x2, some (givD g), some (.loc st.length), some (rowT p.1), some (stD p.2), o7, o8, o9] (st ++ [.lst (acc.map prD)]) =
      .nx [some h.d, some x1, some x2, some (givD g), some (.loc st.length), some (rowT p.1), some (stD p.2), o7', o8', o9'] (st ++ [.lst ((acc ++ rowsWs h g ws p).map prD)])
  | [], acc, o7, o8, o9, _, _ => ⟨o7, o8, o9, by simp [rowsWs]⟩
  | w :: ws, acc, o7, o8, o9, hw, hl => by
    rw [List.length_cons] at hl
    have e1 := hd h p.2 w (st ++ [.lst (acc.map prD)]) ho so (hw w List.mem_cons_self) (stUnd_push hu (und_prs _ acc))
    have l1 := rowsWs_len h g [w] p
    rw [List.length_singleton] at l1
    obtain ⟨o7', o8', o9', e⟩ := lfit_w hd ho so hpl hu ws (acc ++ rowsWs h g [w] p) (some (it w)) (some (stD (day h p.2 w).1)) (some (givD (day h p.2 w).2)) (fun v hv => hw v (List.mem_cons_of_mem _ hv)) (by rw [List.length_append]; omega)
    refine ⟨o7', o8', o9', ?_⟩
    have e2 := cmp_giv (st := st ++ [.lst (acc.map prD)]) (day h p.2 w).2 g
    have hlen : acc.length < most := by unfold most; omega
    have key : k_ft cf sub fu (.name 7) b_law_fitting_f2 (it w) [some h.d, some x1, some x2, some (givD g), some (.loc st.length), some (rowT p.1), some (stD p.2), o7, o8, o9] (st ++ [.lst (acc.map prD)]) = .nx [some h.d, some x1, some x2, some (givD g), some (.loc st.length), some (rowT p.1), some (stD p.2), some (it w), some (stD (day h p.2 w).1), some (givD (day h p.2 w).2)] (st ++ [.lst ((acc ++ rowsWs h g [w] p).map prD)]) := by
      have eb := bin_row (w := w) hpl
      by_cases c : (day h p.2 w).2 = g
      · have er : rowsWs h g [w] p = [(p.1 ++ [w], (day h p.2 w).1)] := by simp [rowsWs, c]
        have em : prD (p.1 ++ [w], (day h p.2 w).1) = .tup [rowT (p.1 ++ [w]), stD (day h p.2 w).1] := rfl
        rw [decide_eq_true c, c] at e2
        generalize rowT (p.1 ++ [w]) = RN at *
        generalize rowT p.1 = RO at *
        simp [k_ft_eq, b_law_fitting_f2, e1, pD, e2, c, er, em, eb, isLoc, evApp, hlen]
      · have er : rowsWs h g [w] p = [] := by simp [rowsWs, c]
        rw [decide_eq_false c] at e2
        simp [k_ft_eq, b_law_fitting_f2, e1, pD, e2, c, er]
    have ec : rowsWs h g (w :: ws) p = rowsWs h g [w] p ++ rowsWs h g ws p := by
      unfold rowsWs
      rw [← List.filterMap_append]
      rfl
    rw [List.map_cons, forLoop_cons, key, RS.loop_nx, e, ec, List.append_assoc]
theorem lfit_p (hd : S_law_day cf) (ha : S_law_wishes cf) {h : Hou} (ho : h.Ok) {g : Gv} {x1 x2 : D} (hu : stUnd st = true) {n : Nat} (hn : n ≤ 1000) : ∀ (L acc : List (Rw × Stg)) (o5 o6 o7 o8 o9 : Option D), PsOk h n L → acc.length + 8 * L.length ≤ 100000 →
    ∃ o5' o6' o7' o8' o9', forLoop (k_ft cf sub fu (.tup (.cons (.name 5) (.cons (.name 6) .nil))) b_law_fitting_f1) (L.map prD) [some h.d, some x1, some x2, some (givD g), some (.loc st.length), o5, o6, o7, o8, o9] (st ++ [.lst (acc.map prD)]) =
      .nx [some h.d, some x1, some x2, some (givD g), some (.loc st.length), o5', o6', o7', o8', o9'] (st ++ [.lst ((acc ++ rowsG h g L).map prD)])
  | [], acc, o5, o6, o7, o8, o9, _, _ => ⟨o5, o6, o7, o8, o9, by simp [rowsG]⟩
  | p :: L, acc, o5, o6, o7, o8, o9, hs, hl => by
    rw [List.length_cons] at hl
    have so := (hs p List.mem_cons_self).1
    have hpl := Nat.le_trans (hs p List.mem_cons_self).2 hn
    have h8 := wishN_len h.sh.length
    have hw8 := rowsW_len h g p
    obtain ⟨p7, p8, p9, e1⟩ := lfit_w (st := st) hd ho (g := g) (p := p) (x1 := x1) (x2 := x2) so hpl hu (wishN h.sh.length) acc o7 o8 o9 (wishN_ok ho) (by omega)
    obtain ⟨o5', o6', o7', o8', o9', e2⟩ := lfit_p hd ha ho (g := g) (x1 := x1) (x2 := x2) hu hn L (acc ++ rowsW h g p) (some (rowT p.1)) (some (stD p.2)) p7 p8 p9 (fun t ht => hs t (List.mem_cons_of_mem _ ht)) (by rw [List.length_append]; omega)
    refine ⟨o5', o6', o7', o8', o9', ?_⟩
    have e0 := ha h (st ++ [.lst (acc.map prD)]) ho
    have key : k_ft cf sub fu (.tup (.cons (.name 5) (.cons (.name 6) .nil))) b_law_fitting_f1 (prD p) [some h.d, some x1, some x2, some (givD g), some (.loc st.length), o5, o6, o7, o8, o9] (st ++ [.lst (acc.map prD)]) = .nx [some h.d, some x1, some x2, some (givD g), some (.loc st.length), some (rowT p.1), some (stD p.2), p7, p8, p9] (st ++ [.lst ((acc ++ rowsW h g p).map prD)]) := by
      have e1' : _ = RS.nx _ (st ++ [.lst ((acc ++ rowsW h g p).map prD)]) := e1
      have em : prD p = .tup [rowT p.1, stD p.2] := rfl
      rw [em]
      generalize rowT p.1 = RO at *
      generalize (acc ++ rowsW h g p).map prD = NA at *
      simp [k_ft_eq, b_law_fitting_f1, e0, e1']
    have ec : rowsG h g (p :: L) = rowsW h g p ++ rowsG h g L := by
      unfold rowsG
      rw [List.flatMap_cons]
    rw [List.map_cons, forLoop_cons, key, RS.loop_nx, e2, ec, List.append_assoc]
theorem lfit_g (hd : S_law_day cf) (ha : S_law_wishes cf) {h : Hou} (ho : h.Ok) {x1 : D} : ∀ (gs : List Gv) (n : Nat) (L : List (Rw × Stg)) (J : Store) (o3 o4 o5 o6 o7 o8 o9 : Option D), PsOk h n L → n + gs.length ≤ 1000 → L.length * 8 ^ gs.length ≤ 10000 → stUnd (st ++ J) = true →
    ∃ o3' o4' o5' o6' o7' o8' o9' J', forLoop (k_ft cf sub fu (.name 3) b_law_fitting_f0) (gs.map givD) [some h.d, some x1, some (.lst (L.map prD)), o3, o4, o5, o6, o7, o8, o9] (st ++ J) =
      .nx [some h.d, some x1, some (.lst ((rowsL h L gs).map prD)), o3', o4', o5', o6', o7', o8', o9'] (st ++ J')
  | [], n, L, J, o3, o4, o5, o6, o7, o8, o9, _, _, _, _ => ⟨o3, o4, o5, o6, o7, o8, o9, J, by simp [rowsL]⟩
  | g :: gs, n, L, J, o3, o4, o5, o6, o7, o8, o9, l, hnn, hn, hu => by
    have hnn' : n + 1 + gs.length ≤ 1000 := by rw [List.length_cons] at hnn; omega
    have hp : 0 < 8 ^ gs.length := Nat.pow_pos (by decide)
    have hn1 : L.length * 8 * 8 ^ gs.length ≤ 10000 := by rw [List.length_cons, Nat.pow_succ] at hn; rw [Nat.mul_assoc, Nat.mul_comm 8]; exact hn
    have hn2 : L.length * 8 ≤ 10000 := Nat.le_trans (Nat.le_mul_of_pos_right _ hp) hn1
    have hn3 : (rowsG h g L).length * 8 ^ gs.length ≤ 10000 := Nat.le_trans (Nat.mul_le_mul_right _ (rowsG_len h g L)) hn1
    obtain ⟨p5, p6, p7, p8, p9, e1⟩ := lfit_p (st := st ++ J) hd ha ho (g := g) (x1 := x1) (x2 := .lst (L.map prD)) hu (n := n) (by omega) L [] o5 o6 o7 o8 o9 l (by simp; omega)
    obtain ⟨o3', o4', o5', o6', o7', o8', o9', J', e2⟩ := lfit_g hd ha ho (x1 := x1) gs (n + 1) (rowsG h g L) (J ++ [.gone]) (some (givD g)) (some (.lst ((rowsG h g L).map prD))) p5 p6 p7 p8 p9 (rowsG_ok ho g l) hnn' hn3 (by rw [← List.append_assoc]; exact stUnd_push hu rfl)
    refine ⟨o3', o4', o5', o6', o7', o8', o9', J', ?_⟩
    have key : k_ft cf sub fu (.name 3) b_law_fitting_f0 (givD g) [some h.d, some x1, some (.lst (L.map prD)), o3, o4, o5, o6, o7, o8, o9] (st ++ J) = .nx [some h.d, some x1, some (.lst ((rowsG h g L).map prD)), some (givD g), some (.lst ((rowsG h g L).map prD)), p5, p6, p7, p8, p9] (st ++ (J ++ [.gone])) := by
      simp only [List.nil_append, List.length_append, List.append_assoc, List.map_nil] at e1
      generalize hL : L.map prD = LD at *
      generalize hN : (rowsG h g L).map prD = N at *
      simp [k_ft_eq, b_law_fitting_f0]
      rw [e1]
      have eg : (st ++ (J ++ [O.lst N]))[st.length + J.length]? = some (.lst N) := by simp
      have es : (st ++ (J ++ [O.lst N])).set (st.length + J.length) .gone = st ++ (J ++ [.gone]) := by simp
      simp [evFrzv, eg, es]
    rw [List.map_cons, forLoop_cons, key, RS.loop_nx, e2]
    rfl
theorem sp_law_fitting (h0 : S_law_first cf) (hd : S_law_day cf) (ha : S_law_wishes cf) {h : Hou} {gs : List Gv} (ho : h.Ok) (hn : gs.length ≤ 4) (hu : stUnd st = true) : ∃ J, evDef cf sub fu 10 b_law_fitting [h.d, seenD gs] st = .ok (.lst ((rows0 h gs).map prD)) (st ++ J) := by
  have hpw : [(([] : Rw), st0 h)].length * 8 ^ gs.length ≤ 10000 := by
    have := Nat.pow_le_pow_right (n := 8) (by decide) hn
    simp only [List.length_singleton, Nat.one_mul]
    exact Nat.le_trans this (by decide)
  obtain ⟨o3, o4, o5, o6, o7, o8, o9, J, e⟩ := lfit_g (st := st) hd ha ho (x1 := seenD gs) gs 0 [([], st0 h)] [] none none none none none none none (fun q hq => by rw [List.mem_singleton.mp hq]; exact ⟨st0_ok ho, Nat.le_refl _⟩) (by omega) hpw (by rw [List.append_nil]; exact hu)
  have e0 := h0 h st ho
  refine ⟨J, ?_⟩
  simp only [List.append_nil, List.map_cons, List.map_nil, prD, rowT] at e
  simp [evDef_fin, b_law_fitting, e0]
  rw [e]
  simp
end
end LawT
namespace LawT
open PySem EV

/-! ### what is told is right -/
theorem okD_sorted {L : List D} (hp : D.pls L = true) (n : Nat) (hn : n ≤ 50) (hd : ∀ d ∈ L, d.dep ≤ n) : okD (.lst (sortN L)) = true := by
  refine okD_of ?_ ?_
  · rw [D.pl]
    exact pls_of fun d hd => pls_mem hp ((sortN_perm _).mem_iff.mp hd)
  · rw [D.dep]
    have := deps_of (n := n) (ds := sortN L) fun d h => hd d ((sortN_perm _).mem_iff.mp h)
    omega
theorem map_nodup {α β : Type} {f : α → β} (hf : ∀ a b, f a = f b → a = b) : ∀ {l : List α}, l.Nodup → (l.map f).Nodup
  | [], _ => List.nodup_nil
  | a :: l, h => by
    obtain ⟨h1, h2⟩ := List.nodup_cons.mp h
    rw [List.map_cons]
    refine List.nodup_cons.mpr ⟨fun hm => ?_, map_nodup hf h2⟩
    obtain ⟨b, hb, e⟩ := List.mem_map.mp hm
    rw [← hf _ _ e] at h1
    exact h1 hb
theorem it_inj' (a b : List Int) (h : it a = it b) : a = b := by
  simp only [it, D.tup.injEq] at h
  exact it_inj h
theorem srn_ends {h : Hou} (ho : h.Ok) {gs : List Gv} (hl : (rows0 h gs).length < 64) : evSrn (.lst ((rows0 h gs).map fun q => stD q.2)) = some (.lst (sortN ((fitL h [st0 h] gs).map stD))) := by
  refine srn_full (fun d hd => ?_) (by rw [List.length_map]; exact hl) (fullN_sts _) (map_nodup (fun _ _ => stD_inj) (fitL_ok ho gs (l0_ok ho)).nd) fun x => ?_
  · obtain ⟨q, _, rfl⟩ := List.mem_map.mp hd
    exact keyOk_st q.2
  · rw [List.mem_map, List.mem_map]
    constructor
    · rintro ⟨s, hs, rfl⟩
      obtain ⟨q, hq, rfl⟩ := (ends_fit h gs s).mp hs
      exact ⟨q, hq, rfl⟩
    · rintro ⟨q, hq, rfl⟩
      exact ⟨q.2, (ends_fit h gs q.2).mpr ⟨q, hq, rfl⟩, rfl⟩
theorem srn_days {h : Hou} (ho : h.Ok) {a : List Gv} {g : Gv} {b : List Gv} (hl : (rows0 h (a ++ g :: b)).length < 64) : evSrn (.lst ((rows0 h (a ++ g :: b)).map fun q => it (q.1.getD a.length []))) = some (.lst (sortN ((told h a g b).map it))) := by
  have hA : ∀ d ∈ ((rows0 h (a ++ g :: b)).map fun q => it (q.1.getD a.length [])), keyOk true d = true := fun d hd => by
    obtain ⟨q, _, rfl⟩ := List.mem_map.mp hd
    exact keyOk_it _
  have hm : ∀ x, x ∈ (told h a g b).map it ↔ x ∈ ((rows0 h (a ++ g :: b)).map fun q => it (q.1.getD a.length [])) := fun x => by
    rw [List.mem_map, List.mem_map]
    constructor
    · rintro ⟨w, hw, rfl⟩
      obtain ⟨q, hq, rfl⟩ := (days_told h a g b w).mp hw
      exact ⟨q, hq, rfl⟩
    · rintro ⟨q, hq, rfl⟩
      exact ⟨_, (days_told h a g b _).mpr ⟨q, hq, rfl⟩, rfl⟩
  rcases told_sorts h a g b with hne | he
  · exact srn_full hA (by rw [List.length_map]; exact hl) (fullN_its hne) (map_nodup it_inj' (toldS_nd h g b _ [] List.nodup_nil)) hm
  · rw [he] at hm ⊢
    have e1 : ([[]] : Rw).map it = [D.tup []] := rfl
    rw [e1, sort_one]
    refine srn_one hA (by rw [List.length_map]; exact hl) fun x => ?_
    rw [← hm x, e1, List.mem_singleton]
def k_srn (x : D) (st : Store) : R D := ofOpt (evSrn x) st
@[simp] theorem k_srn_eq (x : D) (st : Store) : k_srn x st = ofOpt (evSrn x) st := rfl
@[simp] theorem evX_srn {cf : Call} {σ : Sl} {st : Store} (a : X) : evX cf (.srn a) σ st = (evX cf a σ st).bind k_srn := by rw [evX]; rfl
@[simp] theorem evX_tri {cf : Call} {σ : Sl} {st : Store} (keep : Bool) (c0 : D) (hs : List (Nat × Wd)) (x : X) : evX cf (.tri keep c0 hs x) σ st = triR keep c0 hs (evX cf x σ st) := by rw [evX]
@[simp] theorem triR_ok (keep : Bool) (c0 d : D) (hs : List (Nat × Wd)) (st : Store) : triR keep c0 hs (.ok d st) = .ok (if keep then d else c0) st := rfl
@[simp] theorem triR_exc (keep : Bool) (c0 : D) (hs : List (Nat × Wd)) (c : Nat) (fs : List D) (st : Store) : triR keep c0 hs (.exc c fs st) = triOf hs c fs st := rfl
def S_law_right (cf : Call) : Prop := ∀ (h : Hou) gs st, h.Ok → GOk h gs → gs.length ≤ 4 → (rows0 h gs).length < 64 → stUnd st = true → cf 31 [h.d, seenD gs] st = .ok (.bl true) st
section
variable {cf : Call} {st : Store}
theorem right_lc0 {x0 x1 x2 : D} (L : List (Rw × Stg)) {o5 : Option D} : lcLoop (k_turn cf x_law_right_0 (.tup (.cons (.name 3) (.cons (.name 4) .nil))) .none [some x0, some x1, some x2, none, none, o5]) (L.map prD) [] st = .ok (L.map fun q => stD q.2) st := by
  rw [lc_mapL (F := fun q : Rw × Stg => stD q.2)]
  · rfl
  · intro q hq
    simp [k_turn_eq, x_law_right_0]
theorem row_ix {row : Rw} {i : Nat} (hi : i < row.length) : evIdx st (rowT row) (.int i) = some (it (row.getD i [])) := by
  have e : ixOf (row.map it).length (i : Int) = some i := by
    unfold ixOf
    rw [List.length_map, if_pos (by omega), if_pos (by omega)]
    simp
  simp only [rowT, evIdx, seqOf, deref, e]
  simp [hi]
theorem right_lc1 {x0 x1 x2 : D} {i : Nat} (L : List (Rw × Stg)) (hL : ∀ q ∈ L, i < q.1.length) : lcLoop (k_turn cf x_law_right_1 (.tup (.cons (.name 3) (.cons (.name 4) .nil))) .none [some x0, some x1, some x2, none, none, some (.int i)]) (L.map prD) [] st = .ok (L.map fun q => it (q.1.getD i [])) st := by
  rw [lc_mapL (F := fun q : Rw × Stg => it (q.1.getD i []))]
  · rfl
  · intro q hq
    have e := row_ix (st := st) (hL q hq)
    have em : prD q = .tup [rowT q.1, stD q.2] := rfl
    rw [em]
    generalize rowT q.1 = RO at *
    simp [k_turn_eq, x_law_right_1, e]
theorem right_day (hw : S_wishes_told cf) {h : Hou} {a : List Gv} {g : Gv} {b : List Gv} (ho : h.Ok) (go : GOk h (a ++ g :: b)) (hn : (a ++ g :: b).length ≤ 4) (hl : (rows0 h (a ++ g :: b)).length < 64) (hu : stUnd st = true) {o5 : Option D} : k_ft cf sub fu (.name 5) b_law_right_f0 (.int a.length) [some h.d, some (seenD (a ++ g :: b)), some (.lst ((rows0 h (a ++ g :: b)).map prD)), none, none, o5] st = .nx [some h.d, some (seenD (a ++ g :: b)), some (.lst ((rows0 h (a ++ g :: b)).map prD)), none, none, some (.int a.length)] st := by
  have e1 := (hw h (seenD (a ++ g :: b)) (.int a.length) st ho (seen_pl _) (Nat.le_trans (seen_dep _) (by decide)) rfl hu).2.2 a g b rfl rfl go (by omega)
  have e2 := right_lc1 (cf := cf) (st := st) (x0 := h.d) (x1 := seenD (a ++ g :: b)) (x2 := .lst ((rows0 h (a ++ g :: b)).map prD)) (i := a.length) (rows0 h (a ++ g :: b)) fun q hq => by
    have := way_len ((rows0_way h _ q).mp hq)
    rw [this, List.length_append, List.length_cons]
    omega
  have e3 := srn_days ho hl
  have e4 : evCmp st .ne (.lst (sortN ((told h a g b).map it))) (.lst (sortN ((told h a g b).map it))) = some false := cmp_ne_same_l (okD_sorted (pl_its _) 1 (by decide) fun d hd => by obtain ⟨w, _, rfl⟩ := List.mem_map.mp hd; rw [dep_it]; exact Nat.le_refl _)
  generalize seenD (a ++ g :: b) = SD at *
  generalize (rows0 h (a ++ g :: b)).map prD = RD at *
  generalize sortN ((told h a g b).map it) = TD at *
  generalize ((rows0 h (a ++ g :: b)).map fun q => it (q.1.getD a.length [])) = AD at *
  simp [k_ft_eq, b_law_right_f0, e1, e2, e3, e4]
theorem sp_law_right (hf : S_law_fitting cf) (hs : S_standings_told cf) (hw : S_wishes_told cf) {h : Hou} {gs : List Gv} (ho : h.Ok) (go : GOk h gs) (hn : gs.length ≤ 4) (hl : (rows0 h gs).length < 64) (hu : stUnd st = true) : evDef cf sub fu 6 b_law_right [h.d, seenD gs] st = .ok (.bl true) st := by
  have e1 := hf h gs st ho hn hu
  have e2 := (hs h (seenD gs) st ho (seen_pl gs) (Nat.le_trans (seen_dep gs) (by decide)) hu).2 gs rfl go (by omega)
  have e3 := right_lc0 (cf := cf) (st := st) (x0 := h.d) (x1 := seenD gs) (x2 := .lst ((rows0 h gs).map prD)) (rows0 h gs) (o5 := none)
  have e4 := srn_ends ho hl
  have e5 : evCmp st .ne (.lst (sortN ((fitL h [st0 h] gs).map stD))) (.lst (sortN ((fitL h [st0 h] gs).map stD))) = some false := cmp_ne_same_l (okD_sorted (pl_sts _) 2 (by decide) fun d hd => by obtain ⟨s, _, rfl⟩ := List.mem_map.mp hd; exact stD_dep s)
  obtain ⟨σ', st1, e6, o5, rfl, rfl, _⟩ := for_inv (f := k_ft cf sub fu (.name 5) b_law_right_f0)
    (fun rest σ s => ∃ o5, σ = [some h.d, some (seenD gs), some (.lst ((rows0 h gs).map prD)), none, none, o5] ∧ s = st ∧ ∀ d ∈ rest, ∃ i : Nat, d = .int i ∧ i < gs.length)
    ((List.range gs.length).map fun (i : Nat) => D.int (i : Int)) [some h.d, some (seenD gs), some (.lst ((rows0 h gs).map prD)), none, none, none] st
    ⟨none, rfl, rfl, fun d hd => by
      obtain ⟨i, hi, rfl⟩ := List.mem_map.mp hd
      exact ⟨i, rfl, List.mem_range.mp hi⟩⟩ (by
      rintro d r σ s ⟨o5, rfl, rfl, q⟩
      obtain ⟨i, rfl, hi⟩ := q d List.mem_cons_self
      have cutg : ∃ a g b, gs = a ++ g :: b ∧ a.length = i := ⟨gs.take i, gs[i], gs.drop (i + 1), by rw [List.getElem_cons_drop, List.take_append_drop], by rw [List.length_take]; omega⟩
      obtain ⟨a, g, b, eg, ea⟩ := cutg
      subst eg ea
      exact ⟨_, _, right_day hw ho go hn hl hu, some (.int a.length), rfl, rfl, fun d hd => q d (List.mem_cons_of_mem _ hd)⟩)
  have hlb : evBlt st1 .len [seenD gs] = some (.int (gs.length : Int)) := by simp [evBlt, seqOf, deref, seenD]
  have hlen : (gs.length : Int) ≤ 1000000 := by omega
  have hz : -4611686018427387904 ≤ (gs.length : Int) := by omega
  have er : ((gs.length : Int)).toNat = gs.length := by omega
  generalize seenD gs = SD at *
  generalize (rows0 h gs).map prD = RD at *
  generalize sortN ((fitL h [st0 h] gs).map stD) = TD at *
  generalize ((rows0 h gs).map fun q => stD q.2) = AD at *
  simp [evDef_fin, b_law_right, e1, e2, e3, e4, e5, hlb, hlen, hz, er, most, e6]
end
end LawT
namespace LawT
open PySem EV

/-! ### few rows -/
theorem day_some {h : Hou} {s : Stg} {w : List Int} (so : SOk h s) (wo : WOk h w) {p : Int} (e : (day h s w).2 = some p) : p ∈ w := by
  unfold day at e
  by_cases hn : w = []
  · rw [if_pos hn] at e; cases e
  · rw [if_neg hn] at e
    have := giv_w so wo hn
    unfold giv at this
    rw [← Option.some.inj e]
    exact this
def mayB (g : Gv) (w : List Int) : Bool := match g with
  | none => decide (w = [])
  | some p => decide (p ∈ w)
theorem day_may {h : Hou} {s : Stg} {w : List Int} {g : Gv} (so : SOk h s) (wo : WOk h w) (e : (day h s w).2 = g) : mayB g w = true := by
  subst e
  cases c : (day h s w).2 with
  | none => exact decide_eq_true (day_none.mp c)
  | some p => exact decide_eq_true (day_some so wo c)
theorem fm_len {α : Type} (P : List Int → Prop) [DecidablePred P] (F : List Int → α) (Q : List Int → Bool) : ∀ ws : Rw, (∀ w ∈ ws, P w → Q w = true) → (ws.filterMap fun w => if P w then some (F w) else none).length ≤ (ws.filter Q).length
  | [], _ => by simp
  | w :: ws, q => by
    have ih := fm_len P F Q ws fun v hv => q v (List.mem_cons_of_mem _ hv)
    have hw := q w List.mem_cons_self
    rw [List.filterMap_cons, List.filter_cons]
    by_cases c : P w
    · rw [if_pos c, hw c]
      simp only [if_true, List.length_cons]
      omega
    · rw [if_neg c]
      simp only []
      split
      · rw [List.length_cons]; omega
      · exact ih
theorem may_two (g : Gv) : ((wishN 2).filter (mayB g)).length ≤ 2 := by
  have e : wishN 2 = [[], [0], [0, 1], [1]] := rfl
  rw [e]
  cases g with
  | none => decide
  | some p =>
    by_cases c0 : p = 0
    · subst c0; decide
    · by_cases c1 : p = 1
      · subst c1; decide
      · simp [mayB, c0, c1]
theorem rowsW_two {h : Hou} (ho : h.Ok) (h2 : h.sh.length = 2) {g : Gv} {p : Rw × Stg} (so : SOk h p.2) : (rowsW h g p).length ≤ 2 := by
  unfold rowsW
  refine Nat.le_trans (fm_len (fun w => (day h p.2 w).2 = g) (fun w => (p.1 ++ [w], (day h p.2 w).1)) (mayB g) _ fun w hw e => day_may so (wishN_ok ho w hw) e) ?_
  rw [h2]
  exact may_two g
theorem rowsG_two {h : Hou} (ho : h.Ok) (h2 : h.sh.length = 2) (g : Gv) {n : Nat} : ∀ {L : List (Rw × Stg)}, PsOk h n L → (rowsG h g L).length ≤ L.length * 2
  | [], _ => by simp [rowsG]
  | p :: L, l => by
    have h1 := rowsG_two ho h2 g (L := L) fun q hq => l q (List.mem_cons_of_mem _ hq)
    have h2' := rowsW_two ho h2 (g := g) (l p List.mem_cons_self).1
    unfold rowsG at h1 ⊢
    rw [List.flatMap_cons, List.length_append, List.length_cons]
    omega
theorem rowsL_two {h : Hou} (ho : h.Ok) (h2 : h.sh.length = 2) : ∀ (gs : List Gv) {n : Nat} {L : List (Rw × Stg)}, PsOk h n L → (rowsL h L gs).length ≤ L.length * 2 ^ gs.length
  | [], n, L, _ => by simp [rowsL]
  | g :: gs, n, L, l => by
    rw [rowsL, List.length_cons, Nat.pow_succ, Nat.mul_comm (2 ^ gs.length), ← Nat.mul_assoc]
    exact Nat.le_trans (rowsL_two ho h2 gs (rowsG_ok ho g l)) (Nat.mul_le_mul_right _ (rowsG_two ho h2 g l))
theorem rows0_two {h : Hou} (ho : h.Ok) (h2 : h.sh.length = 2) {gs : List Gv} (hl : gs.length ≤ 4) : (rows0 h gs).length < 64 := by
  have h1 := rowsL_two ho h2 gs (n := 0) (L := [([], st0 h)]) fun q hq => by rw [List.mem_singleton.mp hq]; exact ⟨st0_ok ho, Nat.le_refl _⟩
  have h3 := Nat.pow_le_pow_right (n := 2) (by decide) hl
  simp only [List.length_singleton, Nat.one_mul] at h1
  exact Nat.lt_of_le_of_lt (Nat.le_trans h1 h3) (by decide)
theorem led_gok {h : Hou} (ho : h.Ok) : ∀ {row : Rw} {s : Stg}, SOk h s → ROk h row → GOk h ((ledM h s row).map Prod.snd)
  | [], s, _, _ => fun g hg => by cases hg
  | w :: r, s, so, ro => fun g hg p e => by
    have wo := ro w List.mem_cons_self
    rw [ledM, List.map_cons, List.mem_cons] at hg
    rcases hg with hg | hg
    · rw [e] at hg
      exact wo.2 p (day_some so wo hg.symm)
    · exact led_gok ho (day_ok ho so wo) (fun v hv => ro v (List.mem_cons_of_mem _ hv)) g hg p e
theorem cut_last (L : List D) (x : D) : cut (L ++ [x]) none (some (-1)) = L := by
  have h3 : (max ((-1 : Int) + ((L ++ [x]).length : Int)) 0).toNat = L.length := by rw [List.length_append, List.length_singleton]; omega
  unfold cut
  simp only [cutIx, if_pos (show (-1 : Int) < 0 by decide), h3, List.drop_zero, Nat.sub_zero]
  exact List.take_left
theorem sl_last {st : Store} {a : List Gv} {g : Gv} : evSl st (seenD (a ++ [g])) none (some (-1)) = some (seenD a) := by
  have e := cut_last (a.map givD) (givD g)
  simp only [evSl, seenD, deref, List.map_append, List.map_cons, List.map_nil, e]
theorem bin_seen {a : List Gv} {g : Gv} (hl : a.length ≤ 1000) : evBin .add (seenD a) (.tup [givD g]) = some (seenD (a ++ [g])) := by
  have : a.length + 1 ≤ most := by unfold most; omega
  simp [evBin, seenD, this]
theorem okD_seen (gs : List Gv) : okD (seenD gs) = true := okD_of (seen_pl gs) (Nat.le_trans (seen_dep gs) (by decide))
theorem cmp_seen {st : Store} (gs : List Gv) : evCmp st .ne (seenD gs) (.tup []) = some (!decide (gs = [])) := by
  rw [cmp_ne_nil_t (okD_seen gs)]
  cases gs <;> simp
section
variable {cf : Call} {st : Store}
/-- one turn -/
theorem turn_t (hd : S_law_draw cf) (hc : S_law_choice cf) (hr : S_law_row cf) (hl : S_law_led cf) (hR : S_law_right cf) {l : Nat} {h : Hou} (ho : h.Ok) (h2 : h.sh.length = 2) {i : Int} (hs : Src st l) {o0 o1 o4 o5 o6 o9 o10 o11 o12 o13 o14 o15 : Option D} :
    ∃ (o5' o6' : Option D) (st' : Store), k_ft cf sub fu (.name 4) b_law_f1 (.int i) [o0, o1, some (.loc l), some h.d, o4, o5, o6, none, none, o9, o10, o11, o12, o13, o14, o15] st = .nx [o0, o1, some (.loc l), some h.d, some (.int i), o5', o6', none, none, o9, o10, o11, o12, o13, o14, o15] st' ∧ st'.length = st.length ∧ Src st' l := by
  obtain ⟨n, st1, e1, n0, n1, hl1, hs1⟩ := hd l 5 st hs (by decide) (by decide)
  obtain ⟨row, st2, e2, ⟨ro, rl⟩, hl2, hs2⟩ := hr l h n st1 hs1 ho n0 (by omega)
  have hrl : row.length ≤ 4 := by omega
  have e3 := hl h row st2 ho ro (by omega) (und_src hs2)
  have go := led_gok ho (st0_ok ho) ro
  have gl : ((ledM h (st0 h) row).map Prod.snd).length ≤ 4 := by rw [List.length_map, led_len]; exact hrl
  have e4 : ∀ o0 o1 o2 o3 o4 o5 o6 o9 o10 o11 o12 o13 o14 o15, lcLoop (k_turn cf x_law_0 (.tup (.cons (.name 7) (.cons (.name 8) .nil))) .none [o0, o1, o2, o3, o4, o5, o6, none, none, o9, o10, o11, o12, o13, o14, o15]) ((ledM h (st0 h) row).map pD) [] st2 = .ok (((ledM h (st0 h) row).map Prod.snd).map givD) st2 := fun o0 o1 o2 o3 o4 o5 o6 o9 o10 o11 o12 o13 o14 o15 => by
    rw [lc_mapL (F := fun q : Stg × Option Int => givD q.2)]
    · rw [List.map_map]; rfl
    · intro q hq
      simp [k_turn_eq, x_law_0, pD]
  generalize (ledM h (st0 h) row).map Prod.snd = gs at go gl e4
  generalize (ledM h (st0 h) row).map pD = LD at e3 e4
  have e5 := cmp_seen (st := st2) gs
  rcases List.eq_nil_or_concat gs with rfl | ⟨a, g, rfl⟩
  · have e6 := hR h [] st2 ho go gl (rows0_two ho h2 gl) (und_src hs2)
    refine ⟨some (rowT row), some (seenD []), st2, ?_, by omega, hs2⟩
    simp only [seenD, List.map_nil] at e4 e5 e6 ⊢
    generalize rowT row = RD at *
    simp [k_ft_eq, b_law_f1, e1, e2, e3, e4, e5, e6]
  · rw [List.concat_eq_append] at *
    obtain ⟨m, st3, e6, m0, m1, hl3, hs3⟩ := hd l 3 st2 hs2 (by decide) (by decide)
    have ne : ¬ (a ++ [g] = []) := by simp
    rw [decide_eq_false ne] at e5
    by_cases c : m = 0
    · subst c
      obtain ⟨x, st4, e7, hx, hl4, hs4⟩ := hc l [.non, .int 0, .int 1] st3 hs3 (by simp) (by simp)
      have hg' : ∃ g' : Gv, x = givD g' ∧ ∀ p, g' = some p → inn h p := by
        simp only [List.mem_cons, List.not_mem_nil, or_false] at hx
        unfold inn
        rw [h2]
        rcases hx with rfl | rfl | rfl
        · exact ⟨none, rfl, fun p e => by cases e⟩
        · exact ⟨some 0, rfl, fun p e => by cases e; decide⟩
        · exact ⟨some 1, rfl, fun p e => by cases e; decide⟩
      obtain ⟨g', rfl, hg'⟩ := hg'
      have al : a.length ≤ 3 := by rw [List.length_append, List.length_singleton] at gl; omega
      have go' : GOk h (a ++ [g']) := fun v hv p e => by
        rcases List.mem_append.mp hv with z | z
        · exact go v (List.mem_append_left _ z) p e
        · rw [List.mem_singleton.mp z] at e; exact hg' p e
      have gl' : (a ++ [g']).length ≤ 4 := by rw [List.length_append, List.length_singleton]; omega
      have e8 := hR h (a ++ [g']) st4 ho go' gl' (rows0_two ho h2 gl') (und_src hs4)
      have e9 := sl_last (st := st3) (a := a) (g := g)
      have e10 := bin_seen (a := a) (g := g') (by omega)
      refine ⟨some (rowT row), some (seenD (a ++ [g'])), st4, ?_, by omega, hs4⟩
      have ek : D.tup ((a ++ [g]).map givD) = seenD (a ++ [g]) := rfl
      generalize rowT row = RD at *
      simp only [k_ft_eq, b_law_f1]
      simp [-List.map_append, e1, e2, e3, e4]
      rw [ek]
      generalize seenD (a ++ [g]) = S1 at *
      generalize seenD (a ++ [g']) = S2 at *
      generalize seenD a = S3 at *
      simp [e5, e6, e7, e9, e10, e8]
    · have e8 := hR h (a ++ [g]) st3 ho go gl (rows0_two ho h2 gl) (und_src hs3)
      refine ⟨some (rowT row), some (seenD (a ++ [g])), st3, ?_, by omega, hs3⟩
      have ek : D.tup ((a ++ [g]).map givD) = seenD (a ++ [g]) := rfl
      generalize rowT row = RD at *
      simp only [k_ft_eq, b_law_f1]
      simp [-List.map_append, e1, e2, e3, e4]
      rw [ek]
      generalize seenD (a ++ [g]) = S1 at *
      simp [e5, e6, c, e8]
theorem c_seen (s : Store) : evCmp s .ne (.str "seen") (.str "seen") = some false := by kernel_rfl
theorem c_index (s : Store) : evCmp s .ne (.str "index") (.str "index") = some false := by kernel_rfl
theorem odd_f2 (hs : S_standings_told cf) (hw : S_wishes_told cf) {h : Hou} (ho : h.Ok) (hu : stUnd st = true) {o0 o1 o2 o4 o5 o6 o7 o8 o9 o11 o12 o13 o14 o15 : Option D} : ∀ (ds : List D) (o10 : Option D), (∀ d ∈ ds, d.pl = true ∧ d.dep ≤ 50 ∧ isSeen h.sh.length d = false) →
    ∃ o10', forLoop (k_ft cf sub fu (.name 10) b_law_f2) ds [o0, o1, o2, some h.d, o4, o5, o6, o7, o8, o9, o10, o11, o12, o13, o14, o15] st = .nx [o0, o1, o2, some h.d, o4, o5, o6, o7, o8, o9, o10', o11, o12, o13, o14, o15] st
  | [], o10, _ => ⟨o10, by simp⟩
  | d :: ds, o10, q => by
    obtain ⟨q1, q2, q3⟩ := q d List.mem_cons_self
    have e1 := (hs h d st ho q1 q2 hu).1 q3
    have e2 := (hw h d .non st ho q1 q2 rfl hu).1 q3
    obtain ⟨o10', e⟩ := odd_f2 hs hw ho hu (o0 := o0) (o1 := o1) (o2 := o2) (o4 := o4) (o5 := o5) (o6 := o6) (o7 := o7) (o8 := o8) (o9 := o9) (o11 := o11) (o12 := o12) (o13 := o13) (o14 := o14) (o15 := o15) ds (some d) fun x hx => q x (List.mem_cons_of_mem _ hx)
    refine ⟨o10', ?_⟩
    have key : k_ft cf sub fu (.name 10) b_law_f2 d [o0, o1, o2, some h.d, o4, o5, o6, o7, o8, o9, o10, o11, o12, o13, o14, o15] st = .nx [o0, o1, o2, some h.d, o4, o5, o6, o7, o8, o9, some d, o11, o12, o13, o14, o15] st := by
      simp [k_ft_eq, b_law_f2, e1, e2, triOf, triWd, c_seen]
    rw [forLoop_cons, key, RS.loop_nx, e]
theorem odd_f3 (hw : S_wishes_told cf) {h : Hou} (ho : h.Ok) (h2 : h.sh.length = 2) (hu : stUnd st = true) {o0 o1 o2 o4 o5 o6 o7 o8 o9 o11 o12 o13 o14 o15 : Option D} : ∀ (ds : List D) (o10 : Option D), (∀ d ∈ ds, d.pl = true ∧ isFrom d 0 1 = false) →
    ∃ o10', forLoop (k_ft cf sub fu (.name 10) b_law_f3) ds [o0, o1, o2, some h.d, o4, o5, o6, o7, o8, o9, o10, o11, o12, o13, o14, o15] st = .nx [o0, o1, o2, some h.d, o4, o5, o6, o7, o8, o9, o10', o11, o12, o13, o14, o15] st
  | [], o10, _ => ⟨o10, by simp⟩
  | d :: ds, o10, q => by
    obtain ⟨q1, q3⟩ := q d List.mem_cons_self
    have go : GOk h [some 0, some 1] := fun g hg p e => by
      unfold inn
      rw [h2]
      simp only [List.mem_cons, List.not_mem_nil, or_false] at hg
      rcases hg with rfl | rfl <;> cases e <;> decide
    have e2 : cf 19 [h.d, .tup [.int 0, .int 1], d] st = .exc 2 [] st := (hw h (seenD [some 0, some 1]) d st ho (seen_pl _) (Nat.le_trans (seen_dep _) (by decide)) q1 hu).2.1 [some 0, some 1] rfl go (by decide) q3
    obtain ⟨o10', e⟩ := odd_f3 hw ho h2 hu (o0 := o0) (o1 := o1) (o2 := o2) (o4 := o4) (o5 := o5) (o6 := o6) (o7 := o7) (o8 := o8) (o9 := o9) (o11 := o11) (o12 := o12) (o13 := o13) (o14 := o14) (o15 := o15) ds (some d) fun x hx => q x (List.mem_cons_of_mem _ hx)
    refine ⟨o10', ?_⟩
    have key : k_ft cf sub fu (.name 10) b_law_f3 d [o0, o1, o2, some h.d, o4, o5, o6, o7, o8, o9, o10, o11, o12, o13, o14, o15] st = .nx [o0, o1, o2, some h.d, o4, o5, o6, o7, o8, o9, some d, o11, o12, o13, o14, o15] st := by
      simp [k_ft_eq, b_law_f3, e2, triOf, triWd, c_index]
    rw [forLoop_cons, key, RS.loop_nx, e]
end
end LawT
namespace LawT
open PySem EV

def tup13 : D := .tup (List.replicate 13 (.int 0))
theorem bin_13 : evBin .mul (.tup [.int 0]) (.int 13) = some tup13 := by kernel_rfl
def badS : List D := [.non, .lst [], .tup [.int 2], .tup [.int (-1)], .tup [.bl true], .tup [.tup [.int 0]], .str "0", tup13, .tup [.int 0, .str "1"]]
theorem badS_ok : ∀ d ∈ badS, d.pl = true ∧ d.dep ≤ 50 ∧ isSeen 2 d = false := by decide +kernel
def badI : List D := [.non, .int (-1), .int 2, .bl true, .str "0"]
theorem badI_ok : ∀ d ∈ badI, d.pl = true ∧ isFrom d 0 1 = false := by decide +kernel
theorem sort_same {l m : List D} (e : l = m) (f : fullN m = true) (s : m.Pairwise fun a b => D.leN a b = true) : sortN l = m := by
  subst e
  exact (sorted_one f (List.Perm.refl _) s).symm
theorem sort_rev {l m : List D} (e : l = m.reverse) (f : fullN l = true) (s : m.Pairwise fun a b => D.leN a b = true) : sortN l = m := by
  subst e
  exact (sorted_one f (List.reverse_perm _).symm s).symm
def gokB (h : Hou) (gs : List Gv) : Bool := gs.all fun g => match g with
  | none => true
  | some p => decide (0 ≤ p) && decide (p < h.sh.length)
theorem gok_of {h : Hou} {gs : List Gv} (e : gokB h gs = true) : GOk h gs := fun g hg p ep => by
  subst ep
  have := List.all_eq_true.mp e (some p) hg
  simp only [Bool.and_eq_true, decide_eq_true_eq] at this
  exact this
theorem st_at {cf : Call} {st : Store} (hs : S_standings_told cf) (hu : stUnd st = true) (h : Hou) (gs : List Gv) {d v : D} {L : List D} (ho : h.Ok) (hg : gokB h gs = true) (hl : gs.length ≤ 12) (e : sortN ((fitL h [st0 h] gs).map stD) = L) (ed : h.d = d) (ev : seenD gs = v) : cf 17 [d, v] st = .ok (.lst L) st := by
  subst ed ev e
  exact (hs h (seenD gs) st ho (seen_pl gs) (Nat.le_trans (seen_dep gs) (by decide)) hu).2 gs rfl (gok_of hg) hl
theorem wt_at {cf : Call} {st : Store} (hw : S_wishes_told cf) (hu : stUnd st = true) (h : Hou) (a : List Gv) (g : Gv) (b : List Gv) {d v : D} {i : Int} {L : List D} (ho : h.Ok) (hg : gokB h (a ++ g :: b) = true) (hl : (a ++ g :: b).length ≤ 12) (e : sortN ((told h a g b).map it) = L) (ed : h.d = d) (ev : seenD (a ++ g :: b) = v) (ei : (a.length : Int) = i) : cf 19 [d, v, .int i] st = .ok (.lst L) st := by
  subst ed ev e ei
  exact (hw h (seenD (a ++ g :: b)) (.int a.length) st ho (seen_pl _) (Nat.le_trans (seen_dep _) (by decide)) rfl hu).2.2 a g b rfl rfl (gok_of hg) hl
theorem ri_at {cf : Call} {st : Store} (hr : S_law_right cf) (hu : stUnd st = true) (h : Hou) (gs : List Gv) {d v : D} (ho : h.Ok) (hg : gokB h gs = true) (hl : gs.length ≤ 4) (e : (rows0 h gs).length < 64) (ed : h.d = d) (ev : seenD gs = v) : cf 31 [d, v] st = .ok (.bl true) st := by
  subst ed ev
  exact hr h gs st ho (gok_of hg) hl e hu
section
variable {cf : Call} {st : Store}
theorem range5 : List.range 5 = [0, 1, 2, 3, 4] := by decide
theorem turn_k (h0 : S_law_source cf) (hd : S_law_draw cf) (hc : S_law_choice cf) (hh : S_law_house cf) (hro : S_law_row cf) (hle : S_law_led cf) (hR : S_law_right cf) (hs : S_standings_told cf) (hw : S_wishes_told cf) {ns : List Int} {z : D} (hz : Scr ns z) {k : Int} (hk : 0 ≤ k) (hk2 : k ≤ 1000) {o1 o2 o3 o4 o5 o6 o9 o10 : Option D} (hcl : Cln st) :
    ∃ o2' o3' o4' o5' o6' o9' o10' st', k_ft cf sub fu (.name 1) b_law_f0 (.int k) [some z, o1, o2, o3, o4, o5, o6, none, none, o9, o10, none, none, none, none, none] st = .nx [some z, some (.int k), o2', o3', o4', o5', o6', none, none, o9', o10', none, none, none, none, none] st' ∧ Cln st' := by
  obtain ⟨a, b, e0, a0, b0, b1⟩ := h0 ns z k st hz hk hk2
  have hs0 : Src (st ++ [.lst [.int a, .int b]]) st.length := ⟨hcl.push a b, a, b, by simp, a0, b0, b1⟩
  obtain ⟨hD, s1, e1, ⟨hHs, hfew⟩, hl1, hs1⟩ := hh st.length 2 (st ++ [.lst [.int a, .int b]]) hs0 (.inl rfl)
  obtain ⟨h, rfl, ho, _, _⟩ := hs_hou hHs
  have h2 : h.sh.length = 2 := by
    obtain ⟨x, y, r, e⟩ := hfew rfl
    simp only [Hou.d, it, D.tup.injEq, List.cons.injEq, and_true] at e
    have := congrArg List.length e.1
    simpa using this
  obtain ⟨σ', s2, e2, p4, p5, p6, rfl, hs2⟩ := for_inv (f := k_ft cf sub fu (.name 4) b_law_f1)
    (fun rest σ s => ∃ o4 o5 o6, σ = [some z, some (.int k), some (.loc st.length), some h.d, o4, o5, o6, none, none, o9, o10, none, none, none, none, none] ∧ Src s st.length ∧ ∀ d ∈ rest, ∃ i : Int, d = .int i)
    ([.int 0, .int 1, .int 2, .int 3, .int 4]) [some z, some (.int k), some (.loc st.length), some h.d, o4, o5, o6, none, none, o9, o10, none, none, none, none, none] s1
    ⟨o4, o5, o6, rfl, hs1, fun d hd => by
      simp only [List.mem_cons, List.not_mem_nil, or_false] at hd
      rcases hd with rfl | rfl | rfl | rfl | rfl <;> exact ⟨_, rfl⟩⟩ (by
      rintro d r σ s ⟨o4, o5, o6, rfl, hs, q⟩
      obtain ⟨i, rfl⟩ := q d List.mem_cons_self
      obtain ⟨q5, q6, st', e, _, hs'⟩ := turn_t (st := s) (i := i) (o0 := some z) (o1 := some (.int k)) (o4 := o4) (o5 := o5) (o6 := o6) (o9 := o9) (o10 := o10) (o11 := none) (o12 := none) (o13 := none) (o14 := none) (o15 := none) hd hc hro hle hR ho h2 hs
      exact ⟨_, st', e, some (.int i), q5, q6, rfl, hs', fun d hd => q d (List.mem_cons_of_mem _ hd)⟩)
  have hu := und_src hs2.1
  obtain ⟨q10, e3⟩ := odd_f2 (st := s2) hs hw ho hu (o0 := some z) (o1 := some (.int k)) (o2 := some (.loc st.length)) (o4 := p4) (o5 := p5) (o6 := p6) (o7 := none) (o8 := none) (o9 := some (.lst badS)) (o11 := none) (o12 := none) (o13 := none) (o14 := none) (o15 := none) badS o10 (by rw [h2]; exact badS_ok)
  obtain ⟨r10, e4⟩ := odd_f3 (st := s2) hw ho h2 hu (o0 := some z) (o1 := some (.int k)) (o2 := some (.loc st.length)) (o4 := p4) (o5 := p5) (o6 := p6) (o7 := none) (o8 := none) (o9 := some (.lst badS)) (o11 := none) (o12 := none) (o13 := none) (o14 := none) (o15 := none) badI q10 badI_ok
  unfold badS at e3 e4
  unfold badI at e4
  refine ⟨some (.loc st.length), some h.d, p4, p5, p6, some (.lst badS), r10, s2, ?_, hs2.1.1⟩
  rw [k_ft_eq]
  unfold badS
  simp [b_law_f0, e0, e1, range5, most, e2, bin_13, e3, e4]
theorem sp_law (h0 : S_law_source cf) (hd : S_law_draw cf) (hc : S_law_choice cf) (hh : S_law_house cf) (hro : S_law_row cf) (hle : S_law_led cf) (hR : S_law_right cf) (hs : S_standings_told cf) (hw : S_wishes_told cf) (ns : List Int) {z : D} (hz : Scr ns z) : ∃ st', evDef cf sub fu 16 b_law [z] [] = .ok (.bl true) st' := by
  have hmin : ∃ n : Int, (if 8 < (ns.length : Int) then 8 else (ns.length : Int)) = n ∧ 0 ≤ n ∧ n ≤ 8 := ⟨_, rfl, by split <;> omega, by split <;> omega⟩
  obtain ⟨n, hnn, n0, n1⟩ := hmin
  have hlen : evBlt [] .len [z] = some (.int (ns.length : Int)) := by rcases hz with rfl | rfl <;> simp
  obtain ⟨σ', st1, e, o1, o2, o3, o4, o5, o6, o9, o10, rfl, hcl, _⟩ := for_inv (f := k_ft cf sub fu (.name 1) b_law_f0)
    (fun rest σ s => ∃ o1 o2 o3 o4 o5 o6 o9 o10, σ = [some z, o1, o2, o3, o4, o5, o6, none, none, o9, o10, none, none, none, none, none] ∧ Cln s ∧ ∀ d ∈ rest, ∃ i : Int, d = .int i ∧ 0 ≤ i ∧ i ≤ 1000)
    ((List.range (1 + n).toNat).map fun (i : Nat) => D.int (i : Int)) [some z, none, none, none, none, none, none, none, none, none, none, none, none, none, none, none] []
    ⟨none, none, none, none, none, none, none, none, rfl, (fun _ h => by cases h), fun d hd => by
      obtain ⟨i, hi, rfl⟩ := List.mem_map.mp hd
      have := List.mem_range.mp hi
      exact ⟨i, rfl, by omega, by omega⟩⟩ (by
      rintro d r σ s ⟨o1, o2, o3, o4, o5, o6, o9, o10, rfl, hcl, q⟩
      obtain ⟨i, rfl, i0, i1⟩ := q d List.mem_cons_self
      obtain ⟨o2', o3', o4', o5', o6', o9', o10', st', e, hc'⟩ := turn_k (st := s) (o1 := o1) (o2 := o2) (o3 := o3) (o4 := o4) (o5 := o5) (o6 := o6) (o9 := o9) (o10 := o10) h0 hd hc hh hro hle hR hs hw hz (ns := ns) i0 i1 hcl
      exact ⟨_, st', e, some (.int i), o2', o3', o4', o5', o6', o9', o10', rfl, hc', fun d hd => q d (List.mem_cons_of_mem _ hd)⟩)
  have hm1 : 1 + n ≤ 1000000 := by omega
  have hm2 : -4611686018427387904 ≤ 1 + n := by omega
  have hu := hcl.und
  have q1 := st_at hs hu ⟨[1, 1], .turns, 0, 0⟩ [some 0] (d := .tup [.tup [.int 1, .int 1], .tup [.str "turns", .int 0, .int 0]]) (v := .tup [.int 0]) (L := [.tup [.tup [.int 1, .int 0], .tup []]]) (by decide +kernel) (by decide +kernel) (by decide) (sort_same (by kernel_rfl) (by decide +kernel) (by decide +kernel)) rfl rfl
  have q2 := st_at hs hu ⟨[1, 1], .points, 1, 0⟩ [some 0] (d := .tup [.tup [.int 1, .int 1], .tup [.str "points", .int 1, .int 0]]) (v := .tup [.int 0]) (L := [.tup [.tup [.int (-1), .int 1], .tup []], .tup [.tup [.int 0, .int 0], .tup []]]) (by decide +kernel) (by decide +kernel) (by decide) (sort_rev (by kernel_rfl) (by decide +kernel) (by decide +kernel)) rfl rfl
  have q3 := wt_at hw hu ⟨[1, 1], .points, 1, 0⟩ [] (some 0) [some 0] (d := .tup [.tup [.int 1, .int 1], .tup [.str "points", .int 1, .int 0]]) (v := .tup [.int 0, .int 0]) (i := 0) (L := [.tup [.int 0], .tup [.int 0, .int 1]]) (by decide +kernel) (by decide +kernel) (by decide) (sort_same (by kernel_rfl) (by decide +kernel) (by decide +kernel)) rfl rfl rfl
  have q4 := wt_at hw hu ⟨[1, 1], .turns, 0, 0⟩ [some 0] (some 0) [] (d := .tup [.tup [.int 1, .int 1], .tup [.str "turns", .int 0, .int 0]]) (v := .tup [.int 0, .int 0]) (i := 1) (L := [.tup [.int 0]]) (by decide +kernel) (by decide +kernel) (by decide) (sort_same (by kernel_rfl) (by decide +kernel) (by decide +kernel)) rfl rfl rfl
  have q5 := wt_at hw hu ⟨[1, 1], .first, 0, 1⟩ [some 0] (some 1) [some 0] (d := .tup [.tup [.int 1, .int 1], .tup [.str "first", .int 0, .int 1]]) (v := .tup [.int 0, .int 1, .int 0]) (i := 1) (L := [.tup [.int 0, .int 1], .tup [.int 1]]) (by decide +kernel) (by decide +kernel) (by decide) (sort_same (by kernel_rfl) (by decide +kernel) (by decide +kernel)) rfl rfl rfl
  have q6 := ri_at hR hu ⟨[1, 1], .first, 0, 1⟩ [some 0, some 0, some 1, some 1] (d := .tup [.tup [.int 1, .int 1], .tup [.str "first", .int 0, .int 1]]) (v := .tup [.int 0, .int 0, .int 1, .int 1]) (by decide +kernel) (by decide +kernel) (by decide) (by decide +kernel) rfl rfl
  have q7 := ri_at hR hu ⟨[1, 1], .points, 1, 0⟩ [some 1, some 0, some 0] (d := .tup [.tup [.int 1, .int 1], .tup [.str "points", .int 1, .int 0]]) (v := .tup [.int 1, .int 0, .int 0]) (by decide +kernel) (by decide +kernel) (by decide) (by decide +kernel) rfl rfl
  have q8 := wt_at hw hu ⟨[1, 1], .first, 0, 0⟩ [] (some 1) [some 1] (d := .tup [.tup [.int 1, .int 1], .tup [.str "first", .int 0, .int 0]]) (v := .tup [.int 1, .int 1]) (i := 0) (L := [.tup [.int 1]]) (by decide +kernel) (by decide +kernel) (by decide) (sort_same (by kernel_rfl) (by decide +kernel) (by decide +kernel)) rfl rfl rfl
  have q9 := st_at hs hu ⟨[1, 1, 1], .turns, 0, 0⟩ [some 0, none, some 1, some 2] (d := .tup [.tup [.int 1, .int 1, .int 1], .tup [.str "turns", .int 0, .int 0]]) (v := .tup [.int 0, .non, .int 1, .int 2]) (by decide +kernel) (by decide +kernel) (by decide) rfl rfl rfl
  have q10 := ri_at hR hu ⟨[1, 2, 3], .points, 3, 0⟩ [some 0, some 1, some 2] (d := .tup [.tup [.int 1, .int 2, .int 3], .tup [.str "points", .int 3, .int 0]]) (v := .tup [.int 0, .int 1, .int 2]) (by decide +kernel) (by decide +kernel) (by decide) (by decide +kernel) rfl rfl
  have q11 := ri_at hR hu ⟨[1, 2, 3], .points, 3, 0⟩ [some 2, some 2] (d := .tup [.tup [.int 1, .int 2, .int 3], .tup [.str "points", .int 3, .int 0]]) (v := .tup [.int 2, .int 2]) (by decide +kernel) (by decide +kernel) (by decide) (by decide +kernel) rfl rfl
  have q12 := st_at hs hu ⟨[1, 2, 3], .points, 3, 0⟩ [some 2] (d := .tup [.tup [.int 1, .int 2, .int 3], .tup [.str "points", .int 3, .int 0]]) (v := .tup [.int 2]) (by decide +kernel) (by decide +kernel) (by decide) rfl rfl rfl
  have l9 : (sortN ((fitL ⟨[1, 1, 1], .turns, 0, 0⟩ [st0 ⟨[1, 1, 1], .turns, 0, 0⟩] [some 0, none, some 1, some 2]).map stD)).length = 1 := by rw [(sortN_perm _).length_eq]; kernel_rfl
  have l12 : 3 < (sortN ((fitL ⟨[1, 2, 3], .points, 3, 0⟩ [st0 ⟨[1, 2, 3], .points, 3, 0⟩] [some 2]).map stD)).length := by rw [(sortN_perm _).length_eq]; decide +kernel
  generalize sortN ((fitL ⟨[1, 1, 1], .turns, 0, 0⟩ [st0 ⟨[1, 1, 1], .turns, 0, 0⟩] [some 0, none, some 1, some 2]).map stD) = L9 at q9 l9
  generalize sortN ((fitL ⟨[1, 2, 3], .points, 3, 0⟩ [st0 ⟨[1, 2, 3], .points, 3, 0⟩] [some 2]).map stD) = L12 at q12 l12
  have l12' : (3 : Int) < (L12.length : Int) := by omega
  have c1 : ∀ s, evCmp s .ne (.lst [.tup [.tup [.int 1, .int 0], .tup []]]) (.lst [.tup [.tup [.int 1, .int 0], .tup []]]) = some false := fun s => cmp_ne_same_l (by decide +kernel)
  have c2 : ∀ s, evCmp s .ne (.lst [.tup [.tup [.int (-1), .int 1], .tup []], .tup [.tup [.int 0, .int 0], .tup []]]) (.lst [.tup [.tup [.int (-1), .int 1], .tup []], .tup [.tup [.int 0, .int 0], .tup []]]) = some false := fun s => cmp_ne_same_l (by decide +kernel)
  have c3 : ∀ s, evCmp s .ne (.lst [.tup [.int 0], .tup [.int 0, .int 1]]) (.lst [.tup [.int 0], .tup [.int 0, .int 1]]) = some false := fun s => cmp_ne_same_l (by decide +kernel)
  have c4 : ∀ s, evCmp s .ne (.lst [.tup [.int 0]]) (.lst [.tup [.int 0]]) = some false := fun s => cmp_ne_same_l (by decide +kernel)
  have c5 : ∀ s, evCmp s .ne (.lst [.tup [.int 0, .int 1], .tup [.int 1]]) (.lst [.tup [.int 0, .int 1], .tup [.int 1]]) = some false := fun s => cmp_ne_same_l (by decide +kernel)
  have c8 : ∀ s, evCmp s .ne (.lst [.tup [.int 1]]) (.lst [.tup [.int 1]]) = some false := fun s => cmp_ne_same_l (by decide +kernel)
  refine ⟨st1, ?_⟩
  simp [evDef_fin, b_law, hlen, hnn, hm1, hm2, e, most, q1, q2, q3, q4, q5, q6, q7, q8, q9, q10, q11, q12, c1, c2, c3, c4, c5, c8, l9, l12']
end
end LawT
namespace LawT
open PySem EV
theorem lift_is_from {cf cf' : Call} (e : cf' 0 = cf 0) (h : S_is_from cf) : S_is_from cf' := by unfold S_is_from at h ⊢; rw [e]; exact h
theorem lift_is_tuple {cf cf' : Call} (e : cf' 1 = cf 1) (h : S_is_tuple cf) : S_is_tuple cf' := by unfold S_is_tuple at h ⊢; rw [e]; exact h
theorem lift_is_rule {cf cf' : Call} (e : cf' 2 = cf 2) (h : S_is_rule cf) : S_is_rule cf' := by unfold S_is_rule at h ⊢; rw [e]; exact h
theorem lift_has_house {cf cf' : Call} (e : cf' 3 = cf 3) (h : S_has_house cf) : S_has_house cf' := by unfold S_has_house at h ⊢; rw [e]; exact h
theorem lift_need_house {cf cf' : Call} (e : cf' 4 = cf 4) (h : S_need_house cf) : S_need_house cf' := by unfold S_need_house at h ⊢; rw [e]; exact h
theorem lift_all_wishes {cf cf' : Call} (e : cf' 5 = cf 5) (h : S_all_wishes cf) : S_all_wishes cf' := by unfold S_all_wishes at h ⊢; rw [e]; exact h
theorem lift_first_standing {cf cf' : Call} (e : cf' 6 = cf 6) (h : S_first_standing cf) : S_first_standing cf' := by unfold S_first_standing at h ⊢; rw [e]; exact h
theorem lift_who_may {cf cf' : Call} (e : cf' 7 = cf 7) (h : S_who_may cf) : S_who_may cf' := by unfold S_who_may at h ⊢; rw [e]; exact h
theorem lift_with_dues {cf cf' : Call} (e : cf' 8 = cf 8) (h : S_with_dues cf) : S_with_dues cf' := by unfold S_with_dues at h ⊢; rw [e]; exact h
theorem lift_sum_of {cf cf' : Call} (e : cf' 9 = cf 9) (h : S_sum_of cf) : S_sum_of cf' := by unfold S_sum_of at h ⊢; rw [e]; exact h
theorem lift_cut_off {cf cf' : Call} (e : cf' 10 = cf 10) (h : S_cut_off cf) : S_cut_off cf' := by unfold S_cut_off at h ⊢; rw [e]; exact h
theorem lift_picked {cf cf' : Call} (e : cf' 11 = cf 11) (h : S_picked cf) : S_picked cf' := by unfold S_picked at h ⊢; rw [e]; exact h
theorem lift_book_behind {cf cf' : Call} (e : cf' 12 = cf 12) (h : S_book_behind cf) : S_book_behind cf' := by unfold S_book_behind at h ⊢; rw [e]; exact h
theorem lift_run_behind {cf cf' : Call} (e : cf' 13 = cf 13) (h : S_run_behind cf) : S_run_behind cf' := by unfold S_run_behind at h ⊢; rw [e]; exact h
theorem lift_day_behind {cf cf' : Call} (e : cf' 14 = cf 14) (h : S_day_behind cf) : S_day_behind cf' := by unfold S_day_behind at h ⊢; rw [e]; exact h
theorem lift_need_seen {cf cf' : Call} (e : cf' 15 = cf 15) (h : S_need_seen cf) : S_need_seen cf' := by unfold S_need_seen at h ⊢; rw [e]; exact h
theorem lift_fitting {cf cf' : Call} (e : cf' 16 = cf 16) (h : S_fitting cf) : S_fitting cf' := by unfold S_fitting at h ⊢; rw [e]; exact h
theorem lift_standings_told {cf cf' : Call} (e : cf' 17 = cf 17) (h : S_standings_told cf) : S_standings_told cf' := by unfold S_standings_told at h ⊢; rw [e]; exact h
theorem lift_can_follow {cf cf' : Call} (e : cf' 18 = cf 18) (h : S_can_follow cf) : S_can_follow cf' := by unfold S_can_follow at h ⊢; rw [e]; exact h
theorem lift_wishes_told {cf cf' : Call} (e : cf' 19 = cf 19) (h : S_wishes_told cf) : S_wishes_told cf' := by unfold S_wishes_told at h ⊢; rw [e]; exact h
theorem lift_law_source {cf cf' : Call} (e : cf' 20 = cf 20) (h : S_law_source cf) : S_law_source cf' := by unfold S_law_source at h ⊢; rw [e]; exact h
theorem lift_law_draw {cf cf' : Call} (e : cf' 21 = cf 21) (h : S_law_draw cf) : S_law_draw cf' := by unfold S_law_draw at h ⊢; rw [e]; exact h
theorem lift_law_choice {cf cf' : Call} (e : cf' 22 = cf 22) (h : S_law_choice cf) : S_law_choice cf' := by unfold S_law_choice at h ⊢; rw [e]; exact h
theorem lift_law_house {cf cf' : Call} (e : cf' 23 = cf 23) (h : S_law_house cf) : S_law_house cf' := by unfold S_law_house at h ⊢; rw [e]; exact h
theorem lift_law_wishes {cf cf' : Call} (e : cf' 24 = cf 24) (h : S_law_wishes cf) : S_law_wishes cf' := by unfold S_law_wishes at h ⊢; rw [e]; exact h
theorem lift_law_row {cf cf' : Call} (e : cf' 25 = cf 25) (h : S_law_row cf) : S_law_row cf' := by unfold S_law_row at h ⊢; rw [e]; exact h
theorem lift_law_first {cf cf' : Call} (e : cf' 26 = cf 26) (h : S_law_first cf) : S_law_first cf' := by unfold S_law_first at h ⊢; rw [e]; exact h
theorem lift_law_whom {cf cf' : Call} (e : cf' 27 = cf 27) (h : S_law_whom cf) : S_law_whom cf' := by unfold S_law_whom at h ⊢; rw [e]; exact h
theorem lift_law_day {cf cf' : Call} (e : cf' 28 = cf 28) (h : S_law_day cf) : S_law_day cf' := by unfold S_law_day at h ⊢; rw [e]; exact h
theorem lift_law_led {cf cf' : Call} (e : cf' 29 = cf 29) (h : S_law_led cf) : S_law_led cf' := by unfold S_law_led at h ⊢; rw [e]; exact h
theorem lift_law_fitting {cf cf' : Call} (e : cf' 30 = cf 30) (h : S_law_fitting cf) : S_law_fitting cf' := by unfold S_law_fitting at h ⊢; rw [e]; exact h
theorem lift_law_right {cf cf' : Call} (e : cf' 31 = cf 31) (h : S_law_right cf) : S_law_right cf' := by unfold S_law_right at h ⊢; rw [e]; exact h
theorem t_is_from : S_is_from (cc tl_1) := fun v lo hi st hv => pure_top rfl (sp_is_from hv)
theorem t_is_tuple : S_is_tuple (cc tl_2) := fun v lo hi st hv => pure_top rfl (sp_is_tuple hv)
theorem t_is_rule : S_is_rule (cc tl_3) := fun v st hv hd => pure_top rfl (sp_is_rule (lift_is_from (cfL_app (r := tl_1) (by decide) (tl_2.take 1)) t_is_from) (lift_is_tuple (cfL_app (r := tl_2) (by decide) (tl_2.take 0)) t_is_tuple) hv hd)
theorem t_has_house : S_has_house (cc tl_4) := fun v st hv hd => pure_top rfl (sp_has_house (lift_is_from (cfL_app (r := tl_1) (by decide) (tl_3.take 2)) t_is_from) (lift_is_tuple (cfL_app (r := tl_2) (by decide) (tl_3.take 1)) t_is_tuple) (lift_is_rule (cfL_app (r := tl_3) (by decide) (tl_3.take 0)) t_is_rule) hv hd)
theorem t_need_house : S_need_house (cc tl_5) := fun v st hv hd hh => pure_top rfl (sp_need_house (lift_has_house (cfL_app (r := tl_4) (by decide) (tl_4.take 0)) t_has_house) hv hd hh)
theorem t_all_wishes : S_all_wishes (cc tl_6) := fun h st ho => pure_top rfl (sp_all_wishes ho)
theorem t_first_standing : S_first_standing (cc tl_7) := fun h st ho => pure_top rfl (sp_first_standing ho)
theorem t_who_may : S_who_may (cc tl_8) := fun h run w st => pure_top rfl sp_who_may
theorem t_with_dues : S_with_dues (cc tl_9) := fun h pts w st hl => pure_top rfl (sp_with_dues hl)
theorem t_sum_of : S_sum_of (cc tl_10) := fun h w st hw => pure_top rfl (sp_sum_of hw)
theorem t_cut_off : S_cut_off (cc tl_11) := fun n m st => pure_top rfl sp_cut_off
theorem t_picked : S_picked (cc tl_12) := fun h book may w st h1 h2 h3 h4 => pure_top rfl (sp_picked (lift_with_dues (cfL_app (r := tl_9) (by decide) (tl_11.take 2)) t_with_dues) h1 h2 h3 h4)
theorem t_book_behind : S_book_behind (cc tl_13) := fun h book w g st h1 h2 h3 => pure_top rfl (sp_book_behind (lift_with_dues (cfL_app (r := tl_9) (by decide) (tl_12.take 3)) t_with_dues) (lift_sum_of (cfL_app (r := tl_10) (by decide) (tl_12.take 2)) t_sum_of) (lift_cut_off (cfL_app (r := tl_11) (by decide) (tl_12.take 1)) t_cut_off) h1 h2 h3)
theorem t_run_behind : S_run_behind (cc tl_14) := fun h run g st => pure_top rfl sp_run_behind
theorem t_day_behind : S_day_behind (cc tl_15) := fun h s w st ho so wo => pure_top rfl (sp_day_behind (lift_who_may (cfL_app (r := tl_8) (by decide) (tl_14.take 6)) t_who_may) (lift_picked (cfL_app (r := tl_12) (by decide) (tl_14.take 2)) t_picked) (lift_book_behind (cfL_app (r := tl_13) (by decide) (tl_14.take 1)) t_book_behind) (lift_run_behind (cfL_app (r := tl_14) (by decide) (tl_14.take 0)) t_run_behind) ho so wo)
theorem t_need_seen : S_need_seen (cc tl_16) := fun h v st ho hv hd => ite_top rfl (sp_need_seen (lift_is_from (cfL_app (r := tl_1) (by decide) (tl_15.take 14)) t_is_from) (lift_is_tuple (cfL_app (r := tl_2) (by decide) (tl_15.take 13)) t_is_tuple) ho hv hd)
theorem t_fitting : S_fitting (cc tl_17) := fun h gs st ho hn hu => let ⟨J, e⟩ := sp_fitting (lift_first_standing (cfL_app (r := tl_7) (by decide) (tl_16.take 9)) t_first_standing) (lift_day_behind (cfL_app (r := tl_15) (by decide) (tl_16.take 1)) t_day_behind) (lift_all_wishes (cfL_app (r := tl_6) (by decide) (tl_16.take 10)) t_all_wishes) ho hn; junk_top rfl e rfl (und_pl _ (by rw [D.pl]; exact pls_of fun d hd => by obtain ⟨lv, _, rfl⟩ := List.mem_map.mp hd; rw [lvD, D.pl]; exact pl_sts lv)) hu
theorem t_standings_told : S_standings_told (cc tl_18) := fun h v st ho hv hd hu => ⟨fun hb => exc_top rfl (sp_standings_told_bad (lift_need_house (cfL_app (r := tl_5) (by decide) (tl_17.take 12)) t_need_house) (lift_need_seen (cfL_app (r := tl_16) (by decide) (tl_17.take 1)) t_need_seen) ho hv hd hb), fun gs e go hl => by subst e; exact pure_top rfl (sp_standings_told (lift_need_house (cfL_app (r := tl_5) (by decide) (tl_17.take 12)) t_need_house) (lift_need_seen (cfL_app (r := tl_16) (by decide) (tl_17.take 1)) t_need_seen) (lift_fitting (cfL_app (r := tl_17) (by decide) (tl_17.take 0)) t_fitting) ho go hl hu)⟩
theorem t_can_follow : S_can_follow (cc tl_19) := fun h s gs st ho so hn hu => let ⟨J, e⟩ := sp_can_follow (lift_day_behind (cfL_app (r := tl_15) (by decide) (tl_18.take 3)) t_day_behind) (lift_all_wishes (cfL_app (r := tl_6) (by decide) (tl_18.take 12)) t_all_wishes) ho so; junk_top rfl e rfl rfl hu
theorem t_wishes_told : S_wishes_told (cc tl_20) := fun h v dv st ho hv hd hp hu => ⟨fun hb => exc_top rfl (sp_wishes_bad (lift_need_house (cfL_app (r := tl_5) (by decide) (tl_19.take 14)) t_need_house) (lift_need_seen (cfL_app (r := tl_16) (by decide) (tl_19.take 3)) t_need_seen) ho hv hd hb), fun gs e go hl hb => by subst e; exact exc_top rfl (sp_wishes_index (lift_is_from (cfL_app (r := tl_1) (by decide) (tl_19.take 18)) t_is_from) (lift_need_house (cfL_app (r := tl_5) (by decide) (tl_19.take 14)) t_need_house) (lift_need_seen (cfL_app (r := tl_16) (by decide) (tl_19.take 3)) t_need_seen) ho go hl hp hb), fun a g b e e2 go hl => by subst e e2; exact junk_top rfl (sp_wishes_told (lift_is_from (cfL_app (r := tl_1) (by decide) (tl_19.take 18)) t_is_from) (lift_need_house (cfL_app (r := tl_5) (by decide) (tl_19.take 14)) t_need_house) (lift_need_seen (cfL_app (r := tl_16) (by decide) (tl_19.take 3)) t_need_seen) (lift_fitting (cfL_app (r := tl_17) (by decide) (tl_19.take 2)) t_fitting) (lift_day_behind (cfL_app (r := tl_15) (by decide) (tl_19.take 4)) t_day_behind) (lift_can_follow (cfL_app (r := tl_19) (by decide) (tl_19.take 0)) t_can_follow) (lift_all_wishes (cfL_app (r := tl_6) (by decide) (tl_19.take 13)) t_all_wishes) ho go hl hu) rfl (und_pl _ (by rw [D.pl]; exact pls_of fun d hd => by obtain ⟨w, _, rfl⟩ := List.mem_map.mp ((sortN_perm _).mem_iff.mp hd); exact pl_it w)) hu⟩
theorem t_law_source : S_law_source (cc tl_21) := fun ns z k st hz h1 h2 => let ⟨a, b, e, q⟩ := sp_law_source hz h1 h2; ⟨a, b, loc_top rfl e, q⟩
theorem t_law_draw : S_law_draw (cc tl_22) := fun l many st h h1 h2 => let ⟨r, st', e, q1, q2, q3, q4⟩ := sp_law_draw h h1 h2; ⟨r, st', st_top rfl e q3, q1, q2, q3, q4⟩
theorem t_law_choice : S_law_choice (cc tl_23) := fun l ds st h h1 h2 => let ⟨r, st', e, q1, q3, q4⟩ := sp_law_choice (lift_law_draw (cfL_app (r := tl_22) (by decide) (tl_22.take 0)) t_law_draw) h h1 h2; ⟨r, st', st_top rfl e q3, q1, q3, q4⟩
theorem t_law_house : S_law_house (cc tl_24) := fun l mp st h hm => let ⟨r, st', e, q1, q3, q4⟩ := sp_law_house (lift_law_draw (cfL_app (r := tl_22) (by decide) (tl_23.take 1)) t_law_draw) (lift_law_choice (cfL_app (r := tl_23) (by decide) (tl_23.take 0)) t_law_choice) h hm; ⟨r, st', st_top rfl e q3, q1, q3, q4⟩
theorem t_law_wishes : S_law_wishes (cc tl_25) := fun h st ho => pure_top rfl (sp_law_wishes ho)
theorem t_law_row : S_law_row (cc tl_26) := fun l h n st hs ho h0 h1 => let ⟨r, st', e, q1, q3, q4⟩ := sp_law_row (lift_law_choice (cfL_app (r := tl_23) (by decide) (tl_25.take 2)) t_law_choice) (lift_law_wishes (cfL_app (r := tl_25) (by decide) (tl_25.take 0)) t_law_wishes) hs ho h0 h1; ⟨r, st', st_top rfl e q3, q1, q3, q4⟩
theorem t_law_first : S_law_first (cc tl_27) := fun h st ho => pure_top rfl (sp_law_first ho)
theorem t_law_whom : S_law_whom (cc tl_28) := fun h book w may st ho h1 h2 h3 h4 h5 h6 h7 hu => let ⟨junk, e⟩ := sp_law_whom ho h1 h2 h3 h4 h5 h6 h7; junk_top rfl e rfl (und_pl _ (by simp only [D.pl, D.pls, Bool.true_and, Bool.and_true]; exact pls_ints _)) hu
theorem t_law_day : S_law_day (cc tl_29) := fun h s w st ho so wo hu => pure_top rfl (sp_law_day (lift_law_whom (cfL_app (r := tl_28) (by decide) (tl_28.take 0)) t_law_whom) ho so wo hu)
theorem t_law_led : S_law_led (cc tl_30) := fun h row st ho ro hl hu => junk_top rfl (sp_law_led (lift_law_first (cfL_app (r := tl_27) (by decide) (tl_29.take 2)) t_law_first) (lift_law_day (cfL_app (r := tl_29) (by decide) (tl_29.take 0)) t_law_day) ho ro hl hu) rfl (led_und h row _ _) hu
theorem t_law_fitting : S_law_fitting (cc tl_31) := fun h gs st ho hn hu => let ⟨J, e⟩ := sp_law_fitting (lift_law_first (cfL_app (r := tl_27) (by decide) (tl_30.take 3)) t_law_first) (lift_law_day (cfL_app (r := tl_29) (by decide) (tl_30.take 1)) t_law_day) (lift_law_wishes (cfL_app (r := tl_25) (by decide) (tl_30.take 5)) t_law_wishes) ho hn hu; junk_top rfl e rfl (und_pl _ (by rw [D.pl]; exact pl_prs _)) hu
theorem t_law_right : S_law_right (cc tl_32) := fun h gs st ho go hn hl hu => pure_top rfl (sp_law_right (lift_law_fitting (cfL_app (r := tl_31) (by decide) (tl_31.take 0)) t_law_fitting) (lift_standings_told (cfL_app (r := tl_18) (by decide) (tl_31.take 13)) t_standings_told) (lift_wishes_told (cfL_app (r := tl_20) (by decide) (tl_31.take 11)) t_wishes_told) ho go hn hl hu)
theorem law_true (ns : List Int) (h : ns.length ≤ 63) (z : D) (hz : z = .rol (ns.map .int) ∨ z = .lst (ns.map .int)) : cc tl_33 32 [z] [] = .ok (.bl true) [] := by
  obtain ⟨st', e⟩ := sp_law (lift_law_source (cfL_app (r := tl_21) (by decide) (tl_32.take 11)) t_law_source) (lift_law_draw (cfL_app (r := tl_22) (by decide) (tl_32.take 10)) t_law_draw) (lift_law_choice (cfL_app (r := tl_23) (by decide) (tl_32.take 9)) t_law_choice) (lift_law_house (cfL_app (r := tl_24) (by decide) (tl_32.take 8)) t_law_house) (lift_law_row (cfL_app (r := tl_26) (by decide) (tl_32.take 6)) t_law_row) (lift_law_led (cfL_app (r := tl_30) (by decide) (tl_32.take 2)) t_law_led) (lift_law_right (cfL_app (r := tl_32) (by decide) (tl_32.take 0)) t_law_right) (lift_standings_told (cfL_app (r := tl_18) (by decide) (tl_32.take 14)) t_standings_told) (lift_wishes_told (cfL_app (r := tl_20) (by decide) (tl_32.take 12)) t_wishes_told) ns hz
  show cfL sub fu (_ :: tl_32) tl_32.length _ _ = _
  rw [cfL_top]
  rw [show evDef (cfL sub fu tl_32) sub fu 16 b_law [z] [] = _ from e]
  simp [trimR, D.und, stUnd]
end LawT
open PySem PySem.W PyProof.Rows
set_option maxHeartbeats 0 in
theorem PySem.Challenge.cw_falsewish_k12_gifts_that_were_seen_holds : PySem.Challenge.rw_falsewish_k12_gifts_that_were_seen.Holds := by
  w_on; o_law; k_head; (case hw => w_witness2)
  k_fill
  refine EV.walk_ofL (l := PySem.Challenge.rw_falsewish_k12_gifts_that_were_seen) (n := 63) (k := 99) (x := "script") (CX := fun w => L2.CX PySem.Challenge.rw_falsewish_k12_gifts_that_were_seen.prog w) rfl (by decide) rfl ⟨rfl, by decide, by decide⟩ (fun w h Y => PySem.W.km_in_of Y) ?F (fun _ _ _ _ _ h => by obtain ⟨_, _, _, _, _, _, _, _, _, _, _, _, z⟩ := h; exact z.elim)
  case F =>
    intro w mg fa h Y KX G hmg
    refine' LawT.all_mk LawT.law_true KX G hmg ?a0 ?l0 ?c0 ?k0 ?a1 ?l1 ?c1 ?k1 ?a2 ?l2 ?c2 ?k2 ?a3 ?l3 ?c3 ?k3 ?a4 ?l4 ?c4 ?k4 ?a5 ?l5 ?c5 ?k5 ?a6 ?l6 ?c6 ?k6 ?a7 ?l7 ?c7 ?k7 ?a8 ?l8 ?c8 ?k8 ?a9 ?l9 ?c9 ?k9 ?a10 ?l10 ?c10 ?k10 ?a11 ?l11 ?c11 ?k11 ?a12 ?l12 ?c12 ?k12 ?a13 ?l13 ?c13 ?k13 ?a14 ?l14 ?c14 ?k14 ?a15 ?l15 ?c15 ?k15 ?a16 ?l16 ?c16 ?k16 ?a17 ?l17 ?c17 ?k17 ?a18 ?l18 ?c18 ?k18 ?a19 ?l19 ?c19 ?k19 ?a20 ?l20 ?c20 ?k20 ?a21 ?l21 ?c21 ?k21 ?a22 ?l22 ?c22 ?k22 ?a23 ?l23 ?c23 ?k23 ?a24 ?l24 ?c24 ?k24 ?a25 ?l25 ?c25 ?k25 ?a26 ?l26 ?c26 ?k26 ?a27 ?l27 ?c27 ?k27 ?a28 ?l28 ?c28 ?k28 ?a29 ?l29 ?c29 ?k29 ?a30 ?l30 ?c30 ?k30 ?a31 ?l31 ?c31 ?k31 ?a32 ?l32 ?c32 ?k32 ?a33 ?l33 ?c33 ?k33 ?ga0 ?gk0 ?gb0 ?gi0 ?gt0 ?gx0 ?ga1 ?gk1 ?gb1 ?gi1 ?gt1 ?gx1 ?ga2 ?gk2 ?gb2 ?gi2 ?gt2 ?gx2 ?gs0_0 ?gs0_1 ?gs0_2 ?gs1_0 ?gs1_1 ?gs1_2 ?gs2_0 ?gs2_1 ?gs2_2 ?z_len ?z_abs ?z_int ?z_sum ?z_min ?z_max ?z_all ?z_tuple ?z_list ?z_sorted ?z_set ?z_isinstance ?z_range ?z_enumerate ?z_zip ?z_str ?z_bool ?ua0 ?ul0 ?uz0 ?uc0 ?ua1 ?uc1 ?lr0 ?lq0 ?lh0 ?nt
    (case a0 => k_is)
    (case l0 => k_is)
    (case c0 => k_is)
    (case k0 => k_is)
    (case a1 => k_is)
    (case l1 => k_is)
    (case c1 => k_is)
    (case k1 => k_is)
    (case a2 => k_is)
    (case l2 => k_is)
    (case c2 => k_is)
    (case k2 => k_is)
    (case a3 => k_is)
    (case l3 => k_is)
    (case c3 => k_is)
    (case k3 => k_is)
    (case a4 => k_is)
    (case l4 => k_is)
    (case c4 => k_is)
    (case k4 => k_is)
    (case a5 => k_is)
    (case l5 => k_is)
    (case c5 => k_is)
    (case k5 => k_is)
    (case a6 => k_is)
    (case l6 => k_is)
    (case c6 => k_is)
    (case k6 => k_is)
    (case a7 => k_is)
    (case l7 => k_is)
    (case c7 => k_is)
    (case k7 => k_is)
    (case a8 => k_is)
    (case l8 => k_is)
    (case c8 => k_is)
    (case k8 => k_is)
    (case a9 => k_is)
    (case l9 => k_is)
    (case c9 => k_is)
    (case k9 => k_is)
    (case a10 => k_is)
    (case l10 => k_is)
    (case c10 => k_is)
    (case k10 => k_is)
    (case a11 => k_is)
    (case l11 => k_is)
    (case c11 => k_is)
    (case k11 => k_is)
    (case a12 => k_is)
    (case l12 => k_is)
    (case c12 => k_is)
    (case k12 => k_is)
    (case a13 => k_is)
    (case l13 => k_is)
    (case c13 => k_is)
    (case k13 => k_is)
    (case a14 => k_is)
    (case l14 => k_is)
    (case c14 => k_is)
    (case k14 => k_is)
    (case a15 => k_is)
    (case l15 => k_is)
    (case c15 => k_is)
    (case k15 => k_is)
    (case a16 => k_is)
    (case l16 => k_is)
    (case c16 => k_is)
    (case k16 => k_is)
    (case a17 => k_is)
    (case l17 => k_is)
    (case c17 => k_is)
    (case k17 => k_is)
    (case a18 => k_is)
    (case l18 => k_is)
    (case c18 => k_is)
    (case k18 => k_is)
    (case a19 => k_is)
    (case l19 => k_is)
    (case c19 => k_is)
    (case k19 => k_is)
    (case a20 => k_is)
    (case l20 => k_is)
    (case c20 => k_is)
    (case k20 => k_is)
    (case a21 => k_is)
    (case l21 => k_is)
    (case c21 => k_is)
    (case k21 => k_is)
    (case a22 => k_is)
    (case l22 => k_is)
    (case c22 => k_is)
    (case k22 => k_is)
    (case a23 => k_is)
    (case l23 => k_is)
    (case c23 => k_is)
    (case k23 => k_is)
    (case a24 => k_is)
    (case l24 => k_is)
    (case c24 => k_is)
    (case k24 => k_is)
    (case a25 => k_is)
    (case l25 => k_is)
    (case c25 => k_is)
    (case k25 => k_is)
    (case a26 => k_is)
    (case l26 => k_is)
    (case c26 => k_is)
    (case k26 => k_is)
    (case a27 => k_is)
    (case l27 => k_is)
    (case c27 => k_is)
    (case k27 => k_is)
    (case a28 => k_is)
    (case l28 => k_is)
    (case c28 => k_is)
    (case k28 => k_is)
    (case a29 => k_is)
    (case l29 => k_is)
    (case c29 => k_is)
    (case k29 => k_is)
    (case a30 => k_is)
    (case l30 => k_is)
    (case c30 => k_is)
    (case k30 => k_is)
    (case a31 => k_is)
    (case l31 => k_is)
    (case c31 => k_is)
    (case k31 => k_is)
    (case a32 => k_is)
    (case l32 => k_is)
    (case c32 => k_is)
    (case k32 => k_is)
    (case a33 => k_is)
    (case l33 => k_is)
    (case c33 => k_is)
    (case k33 => k_is)
    (case ga0 => k_is)
    (case gk0 => k_is)
    (case gb0 => k_is)
    (case gi0 => k_is)
    (case gt0 => k_is)
    (case gx0 => k_exc)
    (case ga1 => k_is)
    (case gk1 => k_is)
    (case gb1 => k_is)
    (case gi1 => k_is)
    (case gt1 => k_is)
    (case gx1 => k_exc)
    (case ga2 => k_is)
    (case gk2 => k_is)
    (case gb2 => k_is)
    (case gi2 => k_is)
    (case gt2 => k_is)
    (case gx2 => k_exc)
    (case gs0_0 => k_is)
    (case gs0_1 => k_is)
    (case gs0_2 => k_is)
    (case gs1_0 => k_is)
    (case gs1_1 => k_is)
    (case gs1_2 => k_is)
    (case gs2_0 => k_is)
    (case gs2_1 => k_is)
    (case gs2_2 => k_is)
    (case z_len => k_is)
    (case z_abs => k_is)
    (case z_int => k_is)
    (case z_sum => k_is)
    (case z_min => k_is)
    (case z_max => k_is)
    (case z_all => k_is)
    (case z_tuple => k_is)
    (case z_list => k_is)
    (case z_sorted => k_is)
    (case z_set => k_is)
    (case z_isinstance => k_is)
    (case z_range => k_is)
    (case z_enumerate => k_is)
    (case z_zip => k_is)
    (case z_str => k_is)
    (case z_bool => k_is)
    (case ua0 => k_is)
    (case ul0 => k_is)
    (case uz0 => decide +kernel)
    (case uc0 => decide +kernel)
    (case ua1 => k_is)
    (case uc1 => decide +kernel)
    (case lr0 => exact PySem.W.km_tabs_of Y _ (.head _))
    (case lq0 => exact rfl)
    (case lh0 => kernel_rfl)
    (case nt => kernel_rfl)
