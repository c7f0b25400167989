import PyProof.Rows.All
import PySem.Syntax
import PyProof.P3Statements
import Wide.All
import OpenK.AllK
import Wide.FinOn
import PyProof.EqAt
import PyProof.EqKinds
import PyProof.TupleCall
import HandS.ForMost
import HandS.Exc
import HandS.ExcOwn
import HandS.TryOnly
import HandS.TryMany
import HandS.WordsExc
import HandS.Walk
import HandS.Conv
import HandS.TupAny
import HandS.TupMul
import HandS.Deep
import HandS.Zip
import HandS.IsInst
import HandS.CallSlots
import HandS.Flow
import HandS.Style
import HandS.SortInts
import KE.KSortedM
import KE.GoesEnum
import KE.GoesMore
import KE.GoesZip
import HandS.SortRule
import HandS.NamedTupSort
import HandS.SetFor
import HandS.Strs
import PySem.Challenge.RW_falsewish_k03_whole_balances_of_rows
set_option Elab.async false
set_option linter.all false
set_option maxRecDepth 100000
set_option maxHeartbeats 4000000
/-! EvA: data, a store, a small language (the program's own trees, resolved), and its evaluator. -/
namespace EV
open PySem

/-- data: immutable things by value (tuples, frozen lists and dicts), mutable objects by place, defs by number -/
inductive D where
  | non | bl (b : Bool) | int (i : Int) | str (x : Str)
  | tup (ds : List D) | lst (ds : List D) | dct (ks vs : List D)
  | rol (ds : List D) | loc (l : Nat) | fn (k : Nat)
  deriving Inhabited

/-- what stands at a place -/
inductive O where
  | lst (ds : List D) | dct (ks vs : List D) | gone
  deriving Inhabited
abbrev Store := List O
abbrev Sl := List (Option D)

mutual
def D.py : D → PyData
  | .non => .none
  | .bl b => .bool b
  | .int i => .int i
  | .str x => .str x
  | .tup ds => .tuple (D.pys ds)
  | .lst ds => .list (D.pys ds)
  | .rol ds => .list (D.pys ds)
  | .dct _ _ => .none
  | .loc _ => .none
  | .fn _ => .none
def D.pys : List D → List PyData
  | [] => []
  | d :: ds => d.py :: D.pys ds
end
/-- plain data (no place, no def, no dict; texts of code points) -/
def okStr (x : Str) : Bool := x.cps.all (· < 0x110000)
mutual
def D.good : D → Bool
  | .non | .bl _ | .int _ => true
  | .str x => okStr x
  | .tup ds => D.goods ds
  | .lst ds => D.goods ds
  | .rol ds => D.goods ds
  | .dct _ _ | .loc _ | .fn _ => false
def D.goods : List D → Bool
  | [] => true
  | d :: ds => d.good && D.goods ds
end
mutual
def D.dep : D → Nat
  | .tup ds => D.deps ds + 1
  | .lst ds => D.deps ds + 1
  | .rol ds => D.deps ds + 1
  | _ => 0
def D.deps : List D → Nat
  | [] => 0
  | d :: ds => max d.dep (D.deps ds)
end
def okD (d : D) : Bool := d.good && decide (d.dep ≤ 60)
def eqv (a b : D) : Bool := PyData.eqv a.py b.py

/-- results of an expression -/
inductive R (α : Type) where
  | ok (a : α) (st : Store)
  | exc (c : Nat) (fs : List D) (st : Store)
  | fail
@[inline] def R.bind {α β : Type} (r : R α) (f : α → Store → R β) : R β :=
  match r with
  | .ok a st => f a st
  | .exc c fs st => .exc c fs st
  | .fail => .fail
/-- no error may leave -/
@[inline] def R.noX {α : Type} (r : R α) : R α := match r with
  | .exc _ _ _ => .fail
  | r => r
@[simp] theorem R.bind_ok {α β : Type} (a : α) (st : Store) (f : α → Store → R β) : (R.ok a st).bind f = f a st := id rfl
@[simp] theorem R.bind_exc {α β : Type} (c : Nat) (fs : List D) (st : Store) (f : α → Store → R β) : (R.exc c fs st : R α).bind f = .exc c fs st := rfl
@[simp] theorem R.bind_fail {α β : Type} (f : α → Store → R β) : (R.fail : R α).bind f = .fail := rfl

/-- results of a statement: slots and store -/
inductive RS where
  | nx (σ : Sl) (st : Store)
  | rt (d : D) (st : Store)
  | bk (σ : Sl) (st : Store)
  | ct (σ : Sl) (st : Store)
  | exc (c : Nat) (fs : List D) (σ : Sl) (st : Store)
  | fail
/-- an expression, then a statement -/
def R.thn {α : Type} (r : R α) (σ : Sl) (f : α → Store → RS) : RS :=
  match r with
  | .ok a st => f a st
  | .exc c fs st => .exc c fs σ st
  | .fail => .fail
@[simp] theorem R.thn_ok {α : Type} (a : α) (σ : Sl) (st : Store) (f : α → Store → RS) : (R.ok a st).thn σ f = f a st := id rfl
@[simp] theorem R.thn_exc {α : Type} (c : Nat) (fs : List D) (σ : Sl) (st : Store) (f : α → Store → RS) : (R.exc c fs st : R α).thn σ f = .exc c fs σ st := rfl
@[simp] theorem R.thn_fail {α : Type} (σ : Sl) (f : α → Store → RS) : (R.fail : R α).thn σ f = .fail := rfl
def RS.noX (r : RS) : RS := match r with
  | .exc _ _ _ _ => .fail
  | r => r
def RS.then (r : RS) (f : Sl → Store → RS) : RS :=
  match r with
  | .nx σ st => f σ st
  | r => r
@[simp] theorem RS.then_nx (σ : Sl) (st : Store) (f : Sl → Store → RS) : (RS.nx σ st).then f = f σ st := rfl
@[simp] theorem RS.then_rt (d : D) (st : Store) (f : Sl → Store → RS) : (RS.rt d st).then f = .rt d st := rfl
@[simp] theorem RS.then_bk (σ : Sl) (st : Store) (f : Sl → Store → RS) : (RS.bk σ st).then f = .bk σ st := rfl
@[simp] theorem RS.then_ct (σ : Sl) (st : Store) (f : Sl → Store → RS) : (RS.ct σ st).then f = .ct σ st := rfl
@[simp] theorem RS.then_exc (c : Nat) (fs : List D) (σ : Sl) (st : Store) (f : Sl → Store → RS) : (RS.exc c fs σ st).then f = .exc c fs σ st := rfl
@[simp] theorem RS.then_fail (f : Sl → Store → RS) : RS.fail.then f = .fail := rfl

/-! ### operations -/
inductive Bop where
  | add | sub | mul | fdiv | mod | pow
  deriving DecidableEq, Repr
inductive Cop where
  | eq | ne | lt | le | gt | ge | isN | notN | isIn | notIn
  deriving DecidableEq, Repr
inductive Tyc where
  | int | bool | str | tuple
  deriving DecidableEq, Repr
inductive Blt where
  | len | abs | int | sum | min1 | max1 | min2 | max2 | all | tuple | list | sorted | sortedT | sortedSet | tupRange | str
  deriving DecidableEq, Repr
inductive Mth where
  | index | get2 | pop
  deriving DecidableEq, Repr

/-- the most that a list or a tuple may hold -/
def most : Nat := 1000000
/-- a list's items through the store -/
def deref (st : Store) : D → D
  | .loc l => match st[l]? with
    | some (.lst ds) => .lst ds
    | some (.dct ks vs) => .dct ks vs
    | _ => .loc l
  | .rol ds => .lst ds
  | d => d
def seqOf (st : Store) (d : D) : Option (List D) := match deref st d with
  | .tup ds => some ds
  | .lst ds => some ds
  | _ => none

def smallI (i : Int) : Bool := decide (-(2 ^ 64) < i ∧ i < 2 ^ 64)
def evBin (op : Bop) (a b : D) : Option D := match op, a, b with
  | .add, .int i, .int j => some (.int (i + j))
  | .sub, .int i, .int j => some (.int (i - j))
  | .mul, .int i, .int j => if smallI i || smallI j then some (.int (i * j)) else none
  | .fdiv, .int i, .int j => if decide (j ≠ 0 ∧ j.natAbs < 1073741824) then some (.int (i.fdiv j)) else none
  | .mod, .int i, .int j => if decide (j ≠ 0) then some (.int (i.fmod j)) else none
  | .pow, .int i, .int j => if decide (0 ≤ j ∧ j ≤ 1000 ∧ i.natAbs < 2 ^ 64) then some (.int (i ^ j.toNat)) else none
  | .add, .tup xs, .tup ys => if decide (xs.length + ys.length ≤ most) then some (.tup (xs ++ ys)) else none
  | .add, .lst xs, .lst ys => if decide (xs.length + ys.length ≤ most) then some (.lst (xs ++ ys)) else none
  | .mul, .tup xs, .int k => if decide (xs.length ≠ 0 ∧ 2 ≤ k ∧ k ≤ 1000 ∧ xs.length ≤ 1000) then some (.tup (List.replicate k.toNat xs).flatten) else none
  | .mul, .lst xs, .int k => if decide (k.natAbs ≤ most ∧ xs.length * k.toNat ≤ most) then some (.lst (List.replicate k.toNat xs).flatten) else none
  | .add, .str x, .str y => if decide (x.length + y.length ≤ most) then some (.str (x ++ y)) else none
  | _, _, _ => none

/-- all items ints -/
def intsOf : List D → Option (List Int)
  | [] => some []
  | .int i :: ds => (intsOf ds).map (i :: ·)
  | _ => none
def lexLt : List Int → List Int → Bool
  | [], [] => false
  | [], _ :: _ => true
  | _ :: _, [] => false
  | x :: xs, y :: ys => if x = y then lexLt xs ys else decide (x < y)
def evIn (st : Store) (a b : D) : Option Bool :=
  match seqOf st b with
  | some ds => if okD a && okD (.lst ds) then some (ds.any fun z => eqv z a) else none
  | none => none
def isNon : D → Bool
  | .non => true
  | _ => false
def evCmp (st : Store) (op : Cop) (a b : D) : Option Bool := match op with
  | .eq => if okD (deref st a) && okD (deref st b) then some (eqv (deref st a) (deref st b)) else none
  | .ne => if okD (deref st a) && okD (deref st b) then some (!eqv (deref st a) (deref st b)) else none
  | .lt => match a, b with
    | .int i, .int j => some (decide (i < j))
    | .tup xs, .tup ys => match intsOf xs, intsOf ys with
      | some ns, some ms => some (lexLt ns ms)
      | _, _ => none
    | _, _ => none
  | .le => match a, b with
    | .int i, .int j => some (decide (i ≤ j))
    | _, _ => none
  | .gt => match a, b with
    | .int i, .int j => some (decide (j < i))
    | _, _ => none
  | .ge => match a, b with
    | .int i, .int j => some (decide (j ≤ i))
    | _, _ => none
  | .isN => match b with
    | .non => some (isNon a)
    | _ => none
  | .notN => match b with
    | .non => some (!isNon a)
    | _ => none
  | .isIn => evIn st a b
  | .notIn => (evIn st a b).map (!·)

/-- an index, of any sign -/
def ixOf (n : Nat) (i : Int) : Option Nat := if 0 ≤ i then (if i < n then some i.toNat else none) else if -(n : Int) ≤ i then some (i + n).toNat else none
def evIdx (st : Store) (a i : D) : Option D :=
  match seqOf st a, i with
  | some ds, .int k => (ixOf ds.length k).bind fun j => ds[j]?
  | _, _ => none
def cutIx (n d : Nat) : Option Int → Nat
  | none => d
  | some v => if v < 0 then (max (v + n) 0).toNat else min v.toNat n
def cut (ds : List D) (lo hi : Option Int) : List D := (ds.drop (cutIx ds.length 0 lo)).take (cutIx ds.length ds.length hi - cutIx ds.length 0 lo)
def evSl (st : Store) (a : D) (lo hi : Option Int) : Option D := match deref st a with
  | .tup ds => some (.tup (cut ds lo hi))
  | .lst ds => some (.lst (cut ds lo hi))
  | _ => none

def boolsOf : List D → Option (List Bool)
  | [] => some []
  | .bl b :: ds => (boolsOf ds).map (b :: ·)
  | _ => none
def insI (x : Int) : List Int → List Int
  | [] => [x]
  | y :: ys => if x ≤ y then x :: y :: ys else y :: insI x ys
def sortI (l : List Int) : List Int := l.foldr insI []
/-- rows of ints -/
def rowsOf : List D → Option (List (List Int))
  | [] => some []
  | .tup ds :: es => (intsOf ds).bind fun ns => (rowsOf es).map (ns :: ·)
  | _ => none
def insL (x : List Int) : List (List Int) → List (List Int)
  | [] => [x]
  | y :: ys => if lexLt y x then y :: insL x ys else x :: y :: ys
def sortL (l : List (List Int)) : List (List Int) := l.foldr insL []
def rowD (ns : List Int) : D := .tup (ns.map .int)
/-- the first row is the empty one (or there is but one) -/
def firstNil : List (List Int) → Bool
  | [] => true
  | x :: _ => x.isEmpty
/-- all of two numbers -/
def twos (l : List (List Int)) : Bool := l.all fun r => r.length == 2
def nubI : List Int → List Int
  | [] => []
  | x :: xs => if xs.contains x then nubI xs else x :: nubI xs
def evSrs (d : D) : Option D := match d with
  | .tup ds => (intsOf ds).bind fun ns => if decide (ns.length < 64) then some (.lst ((sortI (nubI ns)).map .int)) else none
  | _ => none
def evBlt (st : Store) (f : Blt) (as : List D) : Option D := match f, as with
  | .len, [a] => (seqOf st a).map fun ds => .int ds.length
  | .abs, [.int i] => some (.int (if i < 0 then -i else i))
  | .int, [.int i] => some (.int i)
  | .int, [.bl b] => some (.int (if b then 1 else 0))
  | .sum, [.lst ds] => (intsOf ds).map fun ns => .int ns.sum
  | .min2, [.int i, .int j] => some (.int (if j < i then j else i))
  | .max2, [.int i, .int j] => some (.int (if j > i then j else i))
  | .min1, [.lst ds] => (intsOf ds).bind fun ns => match ns with
    | [] => none
    | n :: r => some (.int (r.foldl (fun m x => if x < m then x else m) n))
  | .max1, [.lst ds] => (intsOf ds).bind fun ns => match ns with
    | [] => none
    | n :: r => some (.int (r.foldl (fun m x => if x > m then x else m) n))
  | .all, [.lst ds] => (boolsOf ds).map fun bs => .bl (bs.all id)
  | .tuple, [a] => (seqOf st a).map .tup
  | .list, [a] => (seqOf st a).map .lst
  | .sorted, [.lst ds] => (intsOf ds).map fun ns => .lst ((sortI ns).map .int)
  | .sortedT, [.lst ds] => (rowsOf ds).bind fun ns => if firstNil ns || twos ns then some (.lst ((sortL ns).map rowD)) else none
  | .tupRange, [.int n] => if decide (n ≤ most ∧ -(2 ^ 62) ≤ n) then some (.tup ((List.range n.toNat).map fun (i : Nat) => .int (i : Int))) else none
  | _, _ => none
/-- tuple(range(n)) -/
def evTrg (d : D) : Option D := match d with
  | .int n => if decide (n ≤ most ∧ -(2 ^ 62) ≤ n) then some (.tup ((List.range n.toNat).map fun (i : Nat) => .int (i : Int))) else none
  | _ => none
/-- {k1: x, k2: y}.get(k, z) -/
def evDgt (k1 k2 : Str) (x y k z : D) : Option D := match k with
  | .str s => some (if s = k1 then x else if s = k2 then y else z)
  | _ => none
def evIsi (d : D) (t : Tyc) : Option Bool := match d, t with
  | .int _, t => some (t == .int)
  | .bl _, t => some (t == .int || t == .bool)
  | .str _, t => some (t == .str)
  | .tup _, t => some (t == .tuple)
  | .non, _ => some false
  | .lst _, _ => some false
  | _, _ => none

/-! ### the trees -/
mutual
inductive Tg where
  | name (i : Nat)
  | tup (ts : Tgs)
inductive Tgs where
  | nil
  | cons (t : Tg) (ts : Tgs)
end
mutual
inductive X where
  | var (i : Nat)
  | con (d : D)
  | gfn (k : Nat)
  | bin (op : Bop) (a b : X)
  | neg (a : X)
  | not (a : X)
  | bop (isAnd : Bool) (xs : Xs)
  | cmp (op : Cop) (a b : X)
  | chn (op op' : Cop) (a b c : X)
  | ife (c a b : X)
  | tup (xs : Xs)
  | lst (mu : Bool) (xs : Xs)
  | idx (a i : X)
  | sl (a : X) (lo hi : Xo)
  | call (k : Nat) (args : Xs)
  | callv (i : Nat) (ks : List Nat) (args : Xs)
  | blt (f : Blt) (args : Xs)
  | isi (a : X) (t : Tyc)
  | mth (m : Mth) (o : X) (args : Xs)
  | lc (mu : Bool) (elt : X) (tg : Tg) (src : Sr) (cond : Xo) (own : List Nat)
  | frz (a : X)
  | srs (a : X)
  | trg (a : X)
  | dgt (k1 k2 : Str) (a b k d : X)
  | catm (a b : X)
inductive Xs where
  | nil
  | cons (x : X) (xs : Xs)
inductive Xo where
  | none
  | some (x : X)
inductive Sr where
  | val (a : X)
  | rng (a : X)
  | rng2 (a b : X)
  | enm (a : X)
  | zip (a b : X)
end

mutual
/-- a target takes a value -/
def evTg : Tg → D → Sl → Option Sl
  | .name i, d, σ => if i < σ.length then some (σ.set i (some d)) else none
  | .tup ts, d, σ => match d with
    | .tup ds => evTgs ts ds σ
    | _ => none
def evTgs : Tgs → List D → Sl → Option Sl
  | .nil, [], σ => some σ
  | .cons t ts, d :: ds, σ => (evTg t d σ).bind fun σ' => evTgs ts ds σ'
  | _, _, _ => none
end
mutual
def Tg.slots : Tg → List Nat
  | .name i => [i]
  | .tup ts => Tgs.slots ts
def Tgs.slots : Tgs → List Nat
  | .nil => []
  | .cons t ts => t.slots ++ Tgs.slots ts
end
def wipeE (σ : Sl) : List Nat → Sl
  | [] => σ
  | v :: vs => (wipeE σ vs).set v none

/-- a comprehension's turns: f gives none where the test fails -/
def lcLoop (f : D → Store → R (Option D)) : List D → List D → Store → R (List D)
  | [], acc, st => .ok acc.reverse st
  | d :: ds, acc, st => (f d st).noX.bind fun o st1 => lcLoop f ds (match o with | some x => x :: acc | none => acc) st1

def ofOpt {α : Type} (o : Option α) (st : Store) : R α := match o with
  | some a => .ok a st
  | none => .fail
@[simp] theorem ofOpt_some {α : Type} (a : α) (st : Store) : ofOpt (some a) st = .ok a st := rfl
@[simp] theorem ofOpt_none {α : Type} (st : Store) : (ofOpt none st : R α) = .fail := rfl

abbrev Call := Nat → List D → Store → R D
/-- a + b, a list that may change -/
def evCatm (x y : D) (st : Store) : R D := match x, y with
  | .lst xs, .lst ys => if decide (xs.length + ys.length ≤ most) then .ok (.loc st.length) (st ++ [.lst (xs ++ ys)]) else .fail
  | _, _ => .fail

mutual
def evX (cf : Call) : X → Sl → Store → R D
  | .var i, σ, st => match σ[i]? with
    | some (some d) => .ok d st
    | _ => .fail
  | .con d, _, st => .ok d st
  | .gfn k, _, st => .ok (.fn k) st
  | .bin op a b, σ, st => (evX cf a σ st).bind fun x st1 => (evX cf b σ st1).bind fun y st2 => ofOpt (evBin op x y) st2
  | .neg a, σ, st => (evX cf a σ st).bind fun x st1 => match x with
    | .int i => .ok (.int (-i)) st1
    | _ => .fail
  | .not a, σ, st => (evX cf a σ st).bind fun x st1 => match x with
    | .bl b => .ok (.bl (!b)) st1
    | _ => .fail
  | .bop isAnd xs, σ, st => evBop cf isAnd xs σ st
  | .cmp op a b, σ, st => (evX cf a σ st).bind fun x st1 => (evX cf b σ st1).bind fun y st2 => ofOpt ((evCmp st2 op x y).map .bl) st2
  | .chn op op' a b c, σ, st => (evX cf a σ st).bind fun x st1 => (evX cf b σ st1).bind fun y st2 =>
    match evCmp st2 op x y with
    | none => .fail
    | some false => .ok (.bl false) st2
    | some true => (evX cf c σ st2).bind fun z st3 => ofOpt ((evCmp st3 op' y z).map .bl) st3
  | .ife c a b, σ, st => (evX cf c σ st).bind fun x st1 => match x with
    | .bl true => evX cf a σ st1
    | .bl false => evX cf b σ st1
    | _ => .fail
  | .tup xs, σ, st => (evXs cf xs σ st).bind fun ds st1 => .ok (.tup ds) st1
  | .lst mu xs, σ, st => (evXs cf xs σ st).bind fun ds st1 => if mu then .ok (.loc st1.length) (st1 ++ [.lst ds]) else .ok (.lst ds) st1
  | .idx a i, σ, st => (evX cf a σ st).bind fun x st1 => (evX cf i σ st1).bind fun y st2 => ofOpt (evIdx st2 x y) st2
  | .sl a lo hi, σ, st => (evX cf a σ st).bind fun x st1 => (evXo cf lo σ st1).bind fun l st2 => (evXo cf hi σ st2).bind fun h st3 => ofOpt (evSl st3 x l h) st3
  | .call k args, σ, st => (evXs cf args σ st).bind fun ds st1 => cf k ds st1
  | .callv i ks args, σ, st => match σ[i]? with
    | some (some (.fn k)) => if ks.contains k then (evXs cf args σ st).bind fun ds st1 => cf k ds st1 else .fail
    | _ => .fail
  | .blt f args, σ, st => (evXs cf args σ st).bind fun ds st1 => ofOpt (evBlt st1 f ds) st1
  | .isi a t, σ, st => (evX cf a σ st).bind fun x st1 => ofOpt ((evIsi x t).map .bl) st1
  | .mth _ _ _, _, _ => .fail
  | .lc mu elt tg src cond own, σ, st => (evSr cf src σ st).bind fun items st1 =>
    (lcLoop (fun d s => match evTg tg d (wipeE σ own) with
      | none => .fail
      | some σ1 => (evXc cf cond σ1 s).bind fun b s1 => if b then (evX cf elt σ1 s1).bind fun x s2 => .ok (some x) s2 else .ok none s1) items [] st1).bind fun ds st2 =>
    if mu then .ok (.loc st2.length) (st2 ++ [.lst ds]) else .ok (.lst ds) st2
  | .frz a, σ, st => (evX cf a σ st).bind fun x st1 => match x with
    | .loc l => match st1[l]? with
      | some (.lst ds) => .ok (.lst ds) (st1.set l .gone)
      | _ => .fail
    | _ => .fail
  | .srs a, σ, st => (evX cf a σ st).bind fun x st1 => ofOpt (evSrs x) st1
  | .trg a, σ, st => (evX cf a σ st).bind fun x st1 => ofOpt (evTrg x) st1
  | .dgt k1 k2 a b k d, σ, st => (evX cf a σ st).bind fun x st1 => (evX cf b σ st1).bind fun y st2 => (evX cf k σ st2).bind fun u st3 => (evX cf d σ st3).bind fun z st4 => ofOpt (evDgt k1 k2 x y u z) st4
  | .catm a b, σ, st => (evX cf a σ st).bind fun x st1 => (evX cf b σ st1).bind fun y st2 => evCatm x y st2
def evXs (cf : Call) : Xs → Sl → Store → R (List D)
  | .nil, _, st => .ok [] st
  | .cons x xs, σ, st => (evX cf x σ st).bind fun d st1 => (evXs cf xs σ st1).bind fun ds st2 => .ok (d :: ds) st2
def evBop (cf : Call) (isAnd : Bool) : Xs → Sl → Store → R D
  | .nil, _, _ => .fail
  | .cons x .nil, σ, st => evX cf x σ st
  | .cons x xs, σ, st => (evX cf x σ st).bind fun d st1 => match d with
    | .bl b => if b = isAnd then evBop cf isAnd xs σ st1 else .ok (.bl b) st1
    | _ => .fail
def evXo (cf : Call) : Xo → Sl → Store → R (Option Int)
  | .none, _, st => .ok none st
  | .some x, σ, st => (evX cf x σ st).bind fun d st1 => match d with
    | .int i => .ok (some i) st1
    | _ => .fail
/-- a comprehension's test -/
def evXc (cf : Call) : Xo → Sl → Store → R Bool
  | .none, _, st => .ok true st
  | .some x, σ, st => (evX cf x σ st).bind fun d st1 => match d with
    | .bl b => .ok b st1
    | _ => .fail
/-- the items of what is walked -/
def evSr (cf : Call) : Sr → Sl → Store → R (List D)
  | .val a, σ, st => (evX cf a σ st).bind fun x st1 => match x with
    | .tup ds => .ok ds st1
    | .lst ds => .ok ds st1
    | .rol ds => .ok ds st1
    | _ => .fail
  | .rng a, σ, st => (evX cf a σ st).bind fun x st1 => match x with
    | .int n => if decide (n ≤ most ∧ -(2 ^ 62) ≤ n) then .ok ((List.range n.toNat).map fun (i : Nat) => .int (i : Int)) st1 else .fail
    | _ => .fail
  | .rng2 a b, σ, st => (evX cf a σ st).bind fun x st1 => (evX cf b σ st1).bind fun y st2 => match x, y with
    | .int lo, .int hi => if decide (-(2 ^ 62) ≤ lo ∧ lo < 2 ^ 62 ∧ -(2 ^ 62) ≤ hi ∧ hi < 2 ^ 62 ∧ hi - lo ≤ most) then .ok ((List.range (hi - lo).toNat).map fun (i : Nat) => .int (lo + (i : Int))) st2 else .fail
    | _, _ => .fail
  | .enm a, σ, st => (evX cf a σ st).bind fun x st1 => match x with
    | .tup ds => .ok (ds.mapIdx fun i d => .tup [.int i, d]) st1
    | .lst ds => .ok (ds.mapIdx fun i d => .tup [.int i, d]) st1
    | _ => .fail
  | .zip a b, σ, st => (evX cf a σ st).bind fun x st1 => (evX cf b σ st1).bind fun y st2 => match x, y with
    | .tup xs, .tup ys => .ok (List.zipWith (fun p q => .tup [p, q]) xs ys) st2
    | .lst xs, .lst ys => .ok (List.zipWith (fun p q => .tup [p, q]) xs ys) st2
    | .tup xs, .lst ys => .ok (List.zipWith (fun p q => .tup [p, q]) xs ys) st2
    | .lst xs, .tup ys => .ok (List.zipWith (fun p q => .tup [p, q]) xs ys) st2
    | _, _ => .fail
end

/-! ### statements -/
mutual
inductive S where
  | asg (tg : Tg) (e : X)
  | sto (o i e : X)
  | app (o e : X)
  | ex (e : X)
  | ret (e : X)
  | retN
  | ite (c : X) (a b : Ss)
  | for (tg : Tg) (src : Sr) (body : Ss)
  | whl (c : X) (body : Ss)
  | rse (c : Nat)
  | rseA (c : Nat) (e : X)
  | tryc (body : Ss) (hs : Hs)
  | frzv (i : Nat)
  | nev
inductive Ss where
  | nil
  | cons (s : S) (ss : Ss)
inductive Hs where
  | nil
  | cons (c : Nat) (body : Ss) (hs : Hs)
end
def forLoop (f : D → Sl → Store → RS) : List D → Sl → Store → RS
  | [], σ, st => .nx σ st
  | d :: ds, σ, st => match f d σ st with
    | .nx σ1 st1 => forLoop f ds σ1 st1
    | .ct σ1 st1 => forLoop f ds σ1 st1
    | .bk σ1 st1 => .nx σ1 st1
    | r => r
def whlLoop (c : Sl → Store → R D) (f : Sl → Store → RS) : Nat → Sl → Store → RS
  | 0, _, _ => .fail
  | n + 1, σ, st => match c σ st with
    | .ok (.bl true) st1 => match f σ st1 with
      | .nx σ2 st2 => whlLoop c f n σ2 st2
      | .ct σ2 st2 => whlLoop c f n σ2 st2
      | .bk σ2 st2 => .nx σ2 st2
      | r => r
    | .ok (.bl false) st1 => .nx σ st1
    | .exc c fs st1 => .exc c fs σ st1
    | _ => .fail
def evAsg (tg : Tg) (d : D) (σ : Sl) (st : Store) : RS := match evTg tg d σ with
  | some σ1 => .nx σ1 st
  | none => .fail
def evSto (o i d : D) (σ : Sl) (st : Store) : RS := match o, i with
  | .loc l, .int k => match st[l]? with
    | some (.lst ds) => match ixOf ds.length k with
      | some j => .nx σ (st.set l (.lst (ds.set j d)))
      | none => .fail
    | _ => .fail
  | _, _ => .fail
/-- a list that may change -/
def isLoc (st : Store) (o : D) : Bool := match o with
  | .loc l => match st[l]? with
    | some (.lst _) => true
    | _ => false
  | _ => false
def evApp (o d : D) (σ : Sl) (st : Store) : RS := match o with
  | .loc l => match st[l]? with
    | some (.lst ds) => if decide (ds.length < most) then .nx σ (st.set l (.lst (ds ++ [d]))) else .fail
    | _ => .fail
  | _ => .fail
def evFrzv (i : Nat) (σ : Sl) (st : Store) : RS := match σ[i]? with
  | some (some (.loc l)) => match st[l]? with
    | some (.lst ds) => .nx (σ.set i (some (.lst ds))) (st.set l .gone)
    | _ => .fail
  | _ => .fail
/-! sub c d: class c is d, or below it -/
mutual
def evS (cf : Call) (sub : Nat → Nat → Bool) (fu : Nat) : S → Sl → Store → RS
  | .asg tg e, σ, st => (evX cf e σ st).thn σ fun d st1 => evAsg tg d σ st1
  | .sto o i e, σ, st => (evX cf e σ st).thn σ fun d st1 => (evX cf o σ st1).thn σ fun x st2 => (evX cf i σ st2).thn σ fun y st3 => evSto x y d σ st3
  | .app o e, σ, st => (evX cf o σ st).thn σ fun x st1 => if isLoc st1 x then (evX cf e σ st1).thn σ fun d st2 => evApp x d σ st2 else .fail
  | .ex e, σ, st => (evX cf e σ st).thn σ fun _ st1 => .nx σ st1
  | .ret e, σ, st => (evX cf e σ st).thn σ fun d st1 => .rt d st1
  | .retN, _, st => .rt .non st
  | .ite c a b, σ, st => (evX cf c σ st).thn σ fun d st1 => match d with
    | .bl true => evSs cf sub fu a σ st1
    | .bl false => evSs cf sub fu b σ st1
    | _ => .fail
  | .for tg src body, σ, st => (evSr cf src σ st).thn σ fun items st1 =>
    forLoop (fun d σ1 s => match evTg tg d σ1 with
      | some σ2 => evSs cf sub fu body σ2 s
      | none => .fail) items σ st1
  | .whl c body, σ, st => whlLoop (evX cf c) (evSs cf sub fu body) fu σ st
  | .rse c, σ, st => .exc c [] σ st
  | .rseA c e, σ, st => (evX cf e σ st).thn σ fun d st1 => .exc c [d] σ st1
  | .tryc body hs, σ, st => match evSs cf sub fu body σ st with
    | .exc c fs σ1 st1 => evHs cf sub fu hs c fs σ1 st1
    | r => r
  | .frzv i, σ, st => evFrzv i σ st
  | .nev, _, _ => .fail
def evSs (cf : Call) (sub : Nat → Nat → Bool) (fu : Nat) : Ss → Sl → Store → RS
  | .nil, σ, st => .nx σ st
  | .cons s ss, σ, st => (evS cf sub fu s σ st).then fun σ1 st1 => evSs cf sub fu ss σ1 st1
def evHs (cf : Call) (sub : Nat → Nat → Bool) (fu : Nat) : Hs → Nat → List D → Sl → Store → RS
  | .nil, c, fs, σ, st => .exc c fs σ st
  | .cons k body hs, c, fs, σ, st => if sub c k then (evSs cf sub fu body σ st).noX else evHs cf sub fu hs c fs σ st
end
/-- a def's body at its arguments: n slots in all -/
def evDef (cf : Call) (sub : Nat → Nat → Bool) (fu : Nat) (n : Nat) (body : Ss) (as : List D) (st : Store) : R D :=
  match evSs cf sub fu body (as.map some ++ List.replicate (n - as.length) none) st with
  | .nx _ st1 => .ok .non st1
  | .rt d st1 => .ok d st1
  | .exc c fs _ st1 => .exc c fs st1
  | _ => .fail
end EV
/-! EvB: how the data lies in the abstract heap; readings of the evaluator's results. -/
namespace EV
open PySem PySem.Spec PyProof.Rows L2

/-- where defs and classes stand; the name of an own error's attribute -/
structure G where
  fa : Nat → Addr
  ca : Nat → Addr
  xa : Nat → Str
  /-- lists that are being made, out of reach -/
  hid : List Addr := []
def G.h (g : G) (l : List Addr) : G := { g with hid := l }

def O.live : O → Prop
  | .gone => False
  | _ => True
def Live (μ : List Addr) (st : Store) (a : Addr) : Prop := ∃ (l : Nat) (o : O), μ[l]? = some a ∧ st[l]? = some o ∧ o.live

/-- a list of the module's own -/
def LstK (K : PySem.W.Frag) (a : Addr) (xs : List V) : Prop :=
  ∃ (o : Obj) (its : Array Value) (n : Nat), K.lookup a = some o ∧ o.cls = .type "list" ∧ o.dict = none ∧ o.data = .seq its n ∧ its.size ≤ sizeLine ∧ Vals xs its.toList
mutual
inductive Rep (K : PySem.W.Frag) (g : G) (μ : List Addr) (st : Store) (H : Hp) : D → V → Prop
  | non : Rep K g μ st H .non .non
  | bl (b : Bool) : Rep K g μ st H (.bl b) (.bl b)
  | int (i : Int) : Rep K g μ st H (.int i) (.int i)
  | str (x : Str) : Rep K g μ st H (.str x) (.str x)
  | tup {a : Addr} {xs : List V} {ds : List D} : SqT K H a xs → ds.length ≤ most → Reps K g μ st H ds xs → Rep K g μ st H (.tup ds) (.ref a)
  | lst {a : Addr} {xs : List V} {ds : List D} : Rd H a (.lst xs) → ¬ Live μ st a → a ∉ g.hid → ds.length ≤ most → Reps K g μ st H ds xs → Rep K g μ st H (.lst ds) (.ref a)
  | lstK {a : Addr} {xs : List V} {ds : List D} : LstK K a xs → ds.length ≤ most → Reps K g μ st H ds xs → Rep K g μ st H (.rol ds) (.ref a)
  | rol {a : Addr} {xs : List V} {ds : List D} {o : Obj} : H a = some (.frz o (.lst xs)) → ds.length ≤ most → Reps K g μ st H ds xs → Rep K g μ st H (.rol ds) (.ref a)
  | loc {l : Nat} {a : Addr} : μ[l]? = some a → Rep K g μ st H (.loc l) (.ref a)
  | fn (k : Nat) : Rep K g μ st H (.fn k) (.ref (g.fa k))
inductive Reps (K : PySem.W.Frag) (g : G) (μ : List Addr) (st : Store) (H : Hp) : List D → List V → Prop
  | nil : Reps K g μ st H [] []
  | cons {d : D} {v : V} {ds : List D} {vs : List V} : Rep K g μ st H d v → Reps K g μ st H ds vs → Reps K g μ st H (d :: ds) (v :: vs)
end
def ORep (K : PySem.W.Frag) (g : G) (μ : List Addr) (st : Store) (H : Hp) (a : Addr) : O → Prop
  | .lst ds => ∃ xs, H a = some (.lst xs) ∧ ds.length ≤ most ∧ Reps K g μ st H ds xs
  | .dct _ _ => False
  | .gone => True
structure Rel (K : PySem.W.Frag) (g : G) (μ : List Addr) (st : Store) (H : Hp) : Prop where
  len : μ.length = st.length
  nd : μ.Nodup
  there : ∀ a ∈ μ, ∃ o, H a = some o
  obj : ∀ (l : Nat) o a, st[l]? = some o → μ[l]? = some a → ORep K g μ st H a o
  hid : ∀ a ∈ g.hid, a ∉ μ ∧ ∃ xs, H a = some (.lst xs)
structure Ext (μ : List Addr) (st : Store) (H : Hp) (μ' : List Addr) (st' : Store) (H' : Hp) : Prop where
  len : μ.length = st.length
  pre : ∃ more, μ' = μ ++ more ∧ ∀ a ∈ more, H a = none
  keep : ∀ a o, H a = some o → ¬ Live μ st a → H' a = some o
  gone : ∀ l : Nat, st[l]? = some .gone → st'[l]? = some .gone
  here : ∀ a o, H a = some o → ∃ o', H' a = some o'
section
variable {K : PySem.W.Frag} {g : G} {μ μ' μ1 : List Addr} {st st' st1 : Store} {H H' H1 : Hp} {d : D} {v : V} {ds es : List D} {vs us : List V} {a : Addr}
theorem Reps.length : ∀ {ds : List D} {vs : List V}, Reps K g μ st H ds vs → ds.length = vs.length
  | _, _, .nil => rfl
  | _, _, .cons _ t => by rw [List.length_cons, List.length_cons, Reps.length t]
theorem Reps.get : ∀ {ds : List D} {vs : List V} {i : Nat} {d : D}, Reps K g μ st H ds vs → ds[i]? = some d → ∃ v, vs[i]? = some v ∧ Rep K g μ st H d v
  | _, _, _, _, .nil, e => by simp at e
  | _, _, 0, _, .cons r _, e => by simp at e; subst e; exact ⟨_, rfl, r⟩
  | _, _, i + 1, d, .cons _ t, e => by
    obtain ⟨u, h1, h2⟩ := Reps.get (i := i) (d := d) t (by simpa using e)
    exact ⟨u, by simpa using h1, h2⟩
theorem Reps.getV : ∀ {ds : List D} {vs : List V} {i : Nat} {v : V}, Reps K g μ st H ds vs → vs[i]? = some v → ∃ d, ds[i]? = some d ∧ Rep K g μ st H d v
  | _, _, _, _, .nil, e => by simp at e
  | _, _, 0, _, .cons r _, e => by simp at e; subst e; exact ⟨_, rfl, r⟩
  | _, _, i + 1, d, .cons _ t, e => by
    obtain ⟨u, h1, h2⟩ := Reps.getV (i := i) (v := d) t (by simpa using e)
    exact ⟨u, by simpa using h1, h2⟩
theorem Reps.append : ∀ {ds es : List D} {vs us : List V}, Reps K g μ st H ds vs → Reps K g μ st H es us → Reps K g μ st H (ds ++ es) (vs ++ us)
  | _, _, _, _, .nil, s => s
  | _, _, _, _, .cons r t, s => .cons r (Reps.append t s)
theorem Reps.take : ∀ {ds : List D} {vs : List V} (n : Nat), Reps K g μ st H ds vs → Reps K g μ st H (ds.take n) (vs.take n)
  | _, _, 0, _ => .nil
  | _, _, _ + 1, .nil => .nil
  | _, _, n + 1, .cons r t => .cons r (Reps.take n t)
theorem Reps.drop : ∀ {ds : List D} {vs : List V} (n : Nat), Reps K g μ st H ds vs → Reps K g μ st H (ds.drop n) (vs.drop n)
  | _, _, 0, r => r
  | _, _, _ + 1, .nil => .nil
  | _, _, n + 1, .cons r t => Reps.drop n t
theorem Reps.set (r : Rep K g μ st H d v) : ∀ {ds : List D} {vs : List V} (i : Nat), Reps K g μ st H ds vs → Reps K g μ st H (ds.set i d) (vs.set i v)
  | _, _, _, .nil => .nil
  | _, _, 0, .cons _ t => .cons r t
  | _, _, i + 1, .cons q t => .cons q (Reps.set r i t)
theorem Reps.one (r : Rep K g μ st H d v) : Reps K g μ st H [d] [v] := .cons r .nil
theorem Reps.rep (h : Reps K g μ st H ds vs) : ∀ k : Nat, Reps K g μ st H (List.replicate k ds).flatten (List.replicate k vs).flatten
  | 0 => .nil
  | k + 1 => by rw [List.replicate_succ, List.replicate_succ, List.flatten_cons, List.flatten_cons]; exact h.append (Reps.rep h k)
theorem Reps.intsR : ∀ {ds : List D} {vs : List V} {ns : List Int}, Reps K g μ st H ds vs → intsOf ds = some ns → vs = ns.map V.int
  | _, _, _, .nil, e => by simp [intsOf] at e; subst e; rfl
  | _, _, ns, .cons r t, e => by
    cases r <;> simp [intsOf] at e
    obtain ⟨m, h1, h2⟩ := e
    subst h2
    rw [List.map_cons, Reps.intsR t h1]
theorem Reps.ofInts : ∀ ns : List Int, Reps K g μ st H (ns.map D.int) (ns.map V.int)
  | [] => .nil
  | n :: ns => .cons (.int n) (Reps.ofInts ns)
theorem intsOf_len : ∀ {ds : List D} {ns : List Int}, intsOf ds = some ns → ns.length = ds.length
  | [], ns, e => by simp [intsOf] at e; subst e; rfl
  | d :: ds, ns, e => by
    cases d <;> simp [intsOf] at e
    obtain ⟨m, h1, h2⟩ := e
    subst h2
    rw [List.length_cons, List.length_cons, intsOf_len h1]

theorem Ext.refl (h : μ.length = st.length) : Ext μ st H μ st H := ⟨h, ⟨[], by simp, by simp⟩, fun _ _ h _ => h, fun _ h => h, fun _ o h => ⟨o, h⟩⟩
theorem Ext.live (E : Ext μ st H μ' st' H') {o : HO} (h : H a = some o) (n : ¬ Live μ st a) : ¬ Live μ' st' a := by
  rintro ⟨l, ob, h1, h2, h3⟩
  obtain ⟨more, e, f⟩ := E.pre
  rw [e] at h1
  by_cases hl : l < μ.length
  · rw [List.getElem?_append_left hl] at h1
    have hs : l < st.length := by rw [← E.len]; exact hl
    obtain ⟨ob0, e0⟩ : ∃ ob0, st[l]? = some ob0 := ⟨_, List.getElem?_eq_getElem hs⟩
    by_cases hz : ob0.live
    · exact n ⟨l, ob0, h1, e0, hz⟩
    · have : ob0 = .gone := by cases ob0 <;> simp [O.live] at hz ⊢
      subst this
      rw [E.gone l e0] at h2
      cases h2
      exact h3
  · rw [List.getElem?_append_right (by omega)] at h1
    have := f a (List.mem_of_getElem? h1)
    rw [h] at this; cases this
theorem Ext.trans (E : Ext μ st H μ1 st1 H1) (F : Ext μ1 st1 H1 μ' st' H') : Ext μ st H μ' st' H' := by
  refine ⟨E.len, ?_, fun a o h n => F.keep a o (E.keep a o h n) (E.live h n), fun l h => F.gone l (E.gone l h), fun a o h => ?_⟩
  · obtain ⟨m1, e1, f1⟩ := E.pre
    obtain ⟨m2, e2, f2⟩ := F.pre
    refine ⟨m1 ++ m2, by rw [e2, e1, List.append_assoc], fun a ha => ?_⟩
    rcases List.mem_append.mp ha with h | h
    · exact f1 a h
    · cases q : H a with
      | none => rfl
      | some o =>
        obtain ⟨o', z⟩ := E.here a o q
        rw [f2 a h] at z; cases z
  · obtain ⟨o1, h1⟩ := E.here a o h
    exact F.here a o1 h1

theorem Rel.notLive (R : Rel K g μ st H) {o : HO} (h : H a = some o) (hl : ∀ xs, o ≠ .lst xs) : ¬ Live μ st a := by
  rintro ⟨l, ob, h1, h2, h3⟩
  have := R.obj l ob a h2 h1
  cases ob with
  | lst ds =>
    obtain ⟨xs, e, _⟩ := this
    rw [h] at e; cases e
    exact hl xs rfl
  | dct _ _ => exact this
  | gone => exact h3
theorem Rel.notLiveN (R : Rel K g μ st H) (h : H a = none) : ¬ Live μ st a := by
  rintro ⟨l, ob, h1, h2, h3⟩
  obtain ⟨o, e⟩ := R.there a (List.mem_of_getElem? h1)
  rw [h] at e; cases e
theorem Ext.pre' (E : Ext μ st H μ' st' H') {l : Nat} (h : μ[l]? = some a) : μ'[l]? = some a := by
  obtain ⟨more, e, _⟩ := E.pre
  rw [e, List.getElem?_append_left (List.getElem?_eq_some_iff.mp h).1]; exact h
theorem Ext.seqT (E : Ext μ st H μ' st' H') (R : Rel K g μ st H) {xs : List V} (h : SqT K H a xs) : SqT K H' a xs := by
  rcases h with (h | ⟨o, h⟩) | h
  · exact .inl (.inl (E.keep _ _ h (R.notLive h (by intro _ z; cases z))))
  · exact .inl (.inr ⟨o, E.keep _ _ h (R.notLive h (by intro _ z; cases z))⟩)
  · exact .inr h
theorem Ext.rd (E : Ext μ st H μ' st' H') {u : HO} (h : Rd H a u) (n : ¬ Live μ st a) : Rd H' a u ∧ ¬ Live μ' st' a := by
  rcases h with h | ⟨o, h⟩
  · exact ⟨.inl (E.keep _ _ h n), E.live h n⟩
  · exact ⟨.inr ⟨o, E.keep _ _ h n⟩, E.live h n⟩
mutual
theorem Rep.ext (R : Rel K g μ st H) (E : Ext μ st H μ' st' H') : ∀ {d : D} {v : V}, Rep K g μ st H d v → Rep K g μ' st' H' d v
  | _, _, .non => .non
  | _, _, .bl b => .bl b
  | _, _, .int i => .int i
  | _, _, .str x => .str x
  | _, _, .tup h l r => .tup (E.seqT R h) l (Reps.ext R E r)
  | _, _, .lst h n nh l r => .lst (E.rd h n).1 (E.rd h n).2 nh l (Reps.ext R E r)
  | _, _, .lstK h l r => .lstK h l (Reps.ext R E r)
  | _, _, .rol h l r => .rol (E.keep _ _ h (R.notLive h (by intro _ z; cases z))) l (Reps.ext R E r)
  | _, _, .loc h => .loc (E.pre' h)
  | _, _, .fn k => .fn k
theorem Reps.ext (R : Rel K g μ st H) (E : Ext μ st H μ' st' H') : ∀ {ds : List D} {vs : List V}, Reps K g μ st H ds vs → Reps K g μ' st' H' ds vs
  | _, _, .nil => .nil
  | _, _, .cons r t => .cons (Rep.ext R E r) (Reps.ext R E t)
end
theorem ORep.ext (R : Rel K g μ st H) (E : Ext μ st H μ' st' H') {o : O} (h : ORep K g μ st H a o) (e : H' a = H a) : ORep K g μ' st' H' a o := by
  cases o with
  | lst ds => obtain ⟨xs, h1, h2, h3⟩ := h; exact ⟨xs, e.trans h1, h2, h3.ext R E⟩
  | dct _ _ => exact h
  | gone => trivial
/-- the lists that are read -/
theorem Rep.seqL (r : Rep K g μ st H (.lst ds) v) : ∃ a xs, v = .ref a ∧ SqL K H a xs ∧ ds.length ≤ most ∧ Reps K g μ st H ds xs := by
  cases r with
  | lst h n _ l r => exact ⟨_, _, rfl, .inl h, l, r⟩
theorem Rep.rdL (r : Rep K g μ st H (.lst ds) v) : ∃ a xs, v = .ref a ∧ Rd H a (.lst xs) ∧ ds.length ≤ most ∧ Reps K g μ st H ds xs := by
  cases r with
  | lst h n _ l r => exact ⟨_, _, rfl, h, l, r⟩
theorem Rep.rolL (r : Rep K g μ st H (.rol ds) v) : ∃ a xs, v = .ref a ∧ SqL K H a xs ∧ ds.length ≤ most ∧ Reps K g μ st H ds xs := by
  cases r with
  | lstK h l r => exact ⟨_, _, rfl, .inr h, l, r⟩
  | rol h l r => exact ⟨_, _, rfl, .inl (.inr ⟨_, h⟩), l, r⟩
theorem Rep.seqT (r : Rep K g μ st H (.tup ds) v) : ∃ a xs, v = .ref a ∧ SqT K H a xs ∧ ds.length ≤ most ∧ Reps K g μ st H ds xs := by
  cases r with
  | tup h l r => exact ⟨_, _, rfl, h, l, r⟩
theorem Rep.locL (R : Rel K g μ st H) {l : Nat} (r : Rep K g μ st H (.loc l) v) (e : st[l]? = some (.lst ds)) : ∃ a xs, v = .ref a ∧ μ[l]? = some a ∧ H a = some (.lst xs) ∧ ds.length ≤ most ∧ Reps K g μ st H ds xs := by
  cases r with
  | loc h =>
    obtain ⟨xs, h1, h2, h3⟩ := R.obj _ _ _ e h
    exact ⟨_, xs, rfl, h, h1, h2, h3⟩
/-- what a sequence is, through the store -/
theorem Rep.seqOf (R : Rel K g μ st H) (r : Rep K g μ st H d v) (e : seqOf st d = some ds) : ∃ a xs, v = .ref a ∧ (SqL K H a xs ∨ SqT K H a xs) ∧ ds.length ≤ most ∧ Reps K g μ st H ds xs := by
  unfold EV.seqOf deref at e
  cases d with
  | tup es =>
    simp at e; subst e
    obtain ⟨a, xs, h1, h2, h3⟩ := r.seqT
    exact ⟨a, xs, h1, .inr h2, h3⟩
  | lst es =>
    simp at e; subst e
    obtain ⟨a, xs, h1, h2, h3⟩ := r.seqL
    exact ⟨a, xs, h1, .inl h2, h3⟩
  | loc l =>
    simp only at e
    cases q : st[l]? with
    | none => rw [q] at e; simp at e
    | some o =>
      rw [q] at e
      cases o with
      | lst es =>
        simp at e; subst e
        obtain ⟨a, xs, h1, _, h2, h3⟩ := r.locL R q
        exact ⟨a, xs, h1, .inl (SqL.of h2), h3⟩
      | dct _ _ => simp at e
      | gone => simp at e
  | rol es =>
    simp at e; subst e
    obtain ⟨a, xs, h1, h2, h3⟩ := r.rolL
    exact ⟨a, xs, h1, .inl h2, h3⟩
  | non => simp at e
  | bl _ => simp at e
  | int _ => simp at e
  | str _ => simp at e
  | dct _ _ => simp at e
  | fn _ => simp at e
/-! ### plain data is data of the kit -/
mutual
theorem Rep.dp : ∀ {d : D} {v : V}, Rep K g μ st H d v → d.good = true → Dp K H v d.py
  | _, _, .non, _ => by rw [D.py]; exact .non
  | _, _, .bl b, _ => by rw [D.py]; exact .bl b
  | _, _, .int i, _ => by rw [D.py]; exact .int i
  | _, _, .str x, _ => by rw [D.py]; exact .str x
  | _, _, .tup h _ r, e => by rw [D.py]; rw [D.good] at e; exact .tup h (Reps.dp r e)
  | _, _, .lst h _ _ _ r, e => by rw [D.py]; rw [D.good] at e; exact .lst (.inl h) (Reps.dp r e)
  | _, _, .lstK h _ r, e => by rw [D.py]; rw [D.good] at e; exact .lst (.inr h) (Reps.dp r e)
  | _, _, .rol h _ r, e => by rw [D.py]; rw [D.good] at e; exact .lst (.inl (.inr ⟨_, h⟩)) (Reps.dp r e)
  | _, _, .loc _, e => by rw [D.good] at e; cases e
  | _, _, .fn _, e => by rw [D.good] at e; cases e
theorem Reps.dp : ∀ {ds : List D} {vs : List V}, Reps K g μ st H ds vs → D.goods ds = true → DpAll K H vs (D.pys ds)
  | _, _, .nil, _ => by rw [D.pys]; exact .nil
  | _, _, .cons r t, e => by
    rw [D.goods, Bool.and_eq_true] at e
    rw [D.pys]; exact .cons (Rep.dp r e.1) (Reps.dp t e.2)
end
end
mutual
theorem good_lay : ∀ d : D, d.good = true → d.py.canLay0 = true
  | .non, _ => by simp [D.py, PyData.canLay0]
  | .bl b, _ => by simp [D.py, PyData.canLay0]
  | .int i, _ => by simp [D.py, PyData.canLay0]
  | .str x, h => by rw [D.good] at h; rw [D.py, PyData.canLay0]; exact h
  | .tup ds, h => by rw [D.good] at h; rw [D.py, PyData.canLay0]; exact goods_lay ds h
  | .lst ds, h => by rw [D.good] at h; rw [D.py, PyData.canLay0]; exact goods_lay ds h
  | .rol ds, h => by rw [D.good] at h; rw [D.py, PyData.canLay0]; exact goods_lay ds h
  | .dct _ _, h => by rw [D.good] at h; cases h
  | .loc _, h => by rw [D.good] at h; cases h
  | .fn _, h => by rw [D.good] at h; cases h
theorem goods_lay : ∀ ds : List D, D.goods ds = true → PyData.canLayAll0 (D.pys ds) = true
  | [], _ => by simp [D.pys, PyData.canLayAll0]
  | d :: ds, h => by
    rw [D.goods, Bool.and_eq_true] at h
    rw [D.pys, PyData.canLayAll0, good_lay d h.1, goods_lay ds h.2]; rfl
end
mutual
theorem dep_py : ∀ d : D, d.py.depth ≤ d.dep
  | .non => by simp [D.py, PyData.depth]
  | .bl b => by simp [D.py, PyData.depth]
  | .int i => by simp [D.py, PyData.depth]
  | .str x => by simp [D.py, PyData.depth]
  | .tup ds => by rw [D.py, PyData.depth, D.dep]; have := deps_py ds; omega
  | .lst ds => by rw [D.py, PyData.depth, D.dep]; have := deps_py ds; omega
  | .rol ds => by rw [D.py, PyData.depth, D.dep]; have := deps_py ds; omega
  | .dct _ _ => by simp [D.py, PyData.depth]
  | .loc _ => by simp [D.py, PyData.depth]
  | .fn _ => by simp [D.py, PyData.depth]
theorem deps_py : ∀ ds : List D, PyData.depthAll (D.pys ds) ≤ D.deps ds
  | [] => by simp [D.pys, PyData.depthAll]
  | d :: ds => by
    rw [D.pys, PyData.depthAll, D.deps]
    have h1 := dep_py d
    have h2 := deps_py ds
    omega
end
theorem okD_shaped {d : D} (h : okD d = true) : d.good = true ∧ SeqAt.shaped d.py = true := by
  unfold okD at h
  rw [Bool.and_eq_true, decide_eq_true_eq] at h
  refine ⟨h.1, ?_⟩
  unfold SeqAt.shaped
  rw [good_lay d h.1, Bool.true_and, decide_eq_true_eq]
  have := dep_py d
  omega

/-! ### what is left behind: readings -/
section
variable {K : PySem.W.Frag} {g : G} {μ μ' μ1 : List Addr} {st st' st1 : Store} {H H' H1 : Hp} {α β γ δ : Type}
/-- an error's class, own attribute -/
def XRep (K : PySem.W.Frag) (g : G) (μ : List Addr) (st : Store) (H : Hp) (c : Nat) (fs : List D) (cls : Value) (dd : Option Addr) : Prop :=
  cls = .ref (g.ca c) ∧ match fs with
    | [] => dd = none
    | [d] => ∃ dx v, dd = some dx ∧ H dx = some (.xd [(g.xa c, v)]) ∧ Rep K g μ st H d v
    | _ => False
/-- what is wanted of a result -/
def Post (K : PySem.W.Frag) (g : G) (RA : List Addr → Store → Hp → α → β → Prop) (μ : List Addr) (st : Store) (H : Hp) (r : R α) (Q : β → Hp → Prop) (W : Value → Option Addr → Hp → Prop) : Prop :=
  match r with
  | .ok a st' => ∀ μ' H' v, Ext μ st H μ' st' H' → Rel K g μ' st' H' → RA μ' st' H' a v → Q v H'
  | .exc c fs st' => ∀ μ' H' cls dd, Ext μ st H μ' st' H' → Rel K g μ' st' H' → XRep K g μ' st' H' c fs cls dd → W cls dd H'
  | .fail => False
theorem Post.rebase {RA : List Addr → Store → Hp → α → β → Prop} {r : R α} {Q : β → Hp → Prop} {W : Value → Option Addr → Hp → Prop} (h : Post K g RA μ st H r Q W) (E : Ext μ st H μ1 st1 H1) : Post K g RA μ1 st1 H1 r Q W := by
  cases r with
  | ok a st' => intro μ' H' v E' R' r'; exact h μ' H' v (E.trans E') R' r'
  | exc c fs st' => intro μ' H' cls dd E' R' x; exact h μ' H' cls dd (E.trans E') R' x
  | fail => exact h
theorem Post.seq {RA : List Addr → Store → Hp → α → β → Prop} {RB : List Addr → Store → Hp → γ → δ → Prop} {r : R α} {f : α → Store → R γ} {Q : δ → Hp → Prop} {Q1 : β → Hp → Prop} {W : Value → Option Addr → Hp → Prop}
    (h : Post K g RB μ st H (r.bind f) Q W) (k : ∀ a st1 μ1 H1 v1, Ext μ st H μ1 st1 H1 → Rel K g μ1 st1 H1 → RA μ1 st1 H1 a v1 → Post K g RB μ1 st1 H1 (f a st1) Q W → Q1 v1 H1) : Post K g RA μ st H r Q1 W := by
  cases r with
  | ok a st' => intro μ' H' v E' R' r'; exact k a st' μ' H' v E' R' r' (Post.rebase h E')
  | exc c fs st' => exact h
  | fail => exact h
theorem Post.imp {RA : List Addr → Store → Hp → α → β → Prop} {r : R α} {Q Q' : β → Hp → Prop} {W W' : Value → Option Addr → Hp → Prop} (h : Post K g RA μ st H r Q W) (hq : ∀ v H, Q v H → Q' v H) (hw : ∀ c d H, W c d H → W' c d H) : Post K g RA μ st H r Q' W' := by
  cases r with
  | ok a st' => intro μ' H' v E' R' r'; exact hq _ _ (h μ' H' v E' R' r')
  | exc c fs st' => intro μ' H' cls dd E' R' x; exact hw _ _ _ (h μ' H' cls dd E' R' x)
  | fail => exact h
theorem Post.ofOpt {RA : List Addr → Store → Hp → α → β → Prop} {o : Option α} {Q : β → Hp → Prop} {W : Value → Option Addr → Hp → Prop} (h : Post K g RA μ st H (ofOpt o st1) Q W) : ∃ a, o = some a ∧ Post K g RA μ st H (.ok a st1) Q W := by
  cases o with
  | none => exact h.elim
  | some a => exact ⟨a, rfl, h⟩
/-- nothing changes -/
theorem Post.here {RA : List Addr → Store → Hp → α → β → Prop} {a : α} {v : β} {Q : β → Hp → Prop} {W : Value → Option Addr → Hp → Prop} (h : Post K g RA μ st H (.ok a st) Q W) (R : Rel K g μ st H) (r : RA μ st H a v) : Q v H :=
  h μ H v (Ext.refl R.len) R r
/-- slots -/
def SlRep (K : PySem.W.Frag) (g : G) (μ : List Addr) (st : Store) (H : Hp) (e : Sl) (σ : L2.St) : Prop :=
  e.length = σ.length ∧ ∀ (i : Nat) d, e[i]? = some (some d) → ∃ v, σ[i]? = some (some v) ∧ Rep K g μ st H d v
theorem SlRep.ext {e : Sl} {σ : L2.St} (S : SlRep K g μ st H e σ) (R : Rel K g μ st H) (E : Ext μ st H μ' st' H') : SlRep K g μ' st' H' e σ :=
  ⟨S.1, fun i d h => let ⟨v, h1, h2⟩ := S.2 i d h; ⟨v, h1, h2.ext R E⟩⟩
theorem SlRep.set {e : Sl} {σ : L2.St} {d : D} {v : V} (S : SlRep K g μ st H e σ) (r : Rep K g μ st H d v) (i : Nat) : SlRep K g μ st H (e.set i (some d)) (σ.set i (some v)) := by
  refine ⟨by rw [List.length_set, List.length_set]; exact S.1, fun j d' h => ?_⟩
  by_cases hj : i = j
  · subst hj
    have hl : i < e.length := by
      by_cases hl : i < e.length
      · exact hl
      · rw [List.set_eq_of_length_le (by omega)] at h
        have := (List.getElem?_eq_some_iff.mp h).1
        omega
    rw [List.getElem?_set_self hl] at h
    cases h
    exact ⟨v, List.getElem?_set_self (by rw [← S.1]; exact hl), r⟩
  · rw [List.getElem?_set_ne hj] at h ⊢
    exact S.2 j d' h
theorem SlRep.none {e : Sl} {σ : L2.St} {o : Option V} (S : SlRep K g μ st H e σ) (i : Nat) : SlRep K g μ st H (e.set i none) (σ.set i o) := by
  refine ⟨by rw [List.length_set, List.length_set]; exact S.1, fun j d' h => ?_⟩
  by_cases hj : i = j
  · subst hj
    by_cases hl : i < e.length
    · rw [List.getElem?_set_self hl] at h; cases h
    · rw [List.set_eq_of_length_le (by omega)] at h
      have := (List.getElem?_eq_some_iff.mp h).1
      omega
  · rw [List.getElem?_set_ne hj] at h ⊢
    exact S.2 j d' h
theorem SlRep.wipe {e : Sl} {σ : L2.St} (S : SlRep K g μ st H e σ) : ∀ vs : List Nat, SlRep K g μ st H (wipeE e vs) (wipe σ vs)
  | [] => S
  | v :: vs => by rw [wipeE, L2.wipe]; exact (SlRep.wipe S vs).none v

/-! ### new things -/
theorem Rel.upd_free (R : Rel K g μ st H) {p : Addr} {o : HO} (n : H p = none) : Rel K g μ st (upd H p o) ∧ Ext μ st H μ st (upd H p o) := by
  have E : Ext μ st H μ st (upd H p o) := ⟨R.len, ⟨[], by simp, by simp⟩, fun a u h _ => by rw [upd_ne (ne_of_none h n)]; exact h, fun _ h => h, fun a u h => ⟨u, by rw [upd_ne (ne_of_none h n)]; exact h⟩⟩
  refine ⟨⟨R.len, R.nd, fun a ha => ?_, fun l ob a h1 h2 => ?_, fun a ha => ?_⟩, E⟩
  · obtain ⟨u, e⟩ := R.there a ha
    exact ⟨u, by rw [upd_ne (ne_of_none e n)]; exact e⟩
  · obtain ⟨u, e⟩ := R.there a (List.mem_of_getElem? h2)
    exact (R.obj l ob a h1 h2).ext R E (by rw [upd_ne (ne_of_none e n)])
  · obtain ⟨h1, xs, h2⟩ := R.hid a ha
    exact ⟨h1, xs, by rw [upd_ne (ne_of_none h2 n)]; exact h2⟩
theorem Rel.notHid (R : Rel K g μ st H) {p : Addr} (n : H p = none) : p ∉ g.hid := fun h => by
  obtain ⟨_, xs, e⟩ := R.hid p h
  rw [n] at e; cases e
/-- a new tuple -/
theorem new_tup (R : Rel K g μ st H) {p : Addr} {ds : List D} {xs : List V} (n : H p = none) (l : ds.length ≤ most) (r : Reps K g μ st H ds xs) :
    Ext μ st H μ st (upd H p (.tup xs)) ∧ Rel K g μ st (upd H p (.tup xs)) ∧ Rep K g μ st (upd H p (.tup xs)) (.tup ds) (.ref p) := by
  obtain ⟨R', E⟩ := R.upd_free (o := .tup xs) n
  exact ⟨E, R', .tup (SqT.of upd_same) l (r.ext R E)⟩
/-- a new frozen list -/
theorem new_lst (R : Rel K g μ st H) {p : Addr} {ds : List D} {xs : List V} (n : H p = none) (l : ds.length ≤ most) (r : Reps K g μ st H ds xs) :
    Ext μ st H μ st (upd H p (.lst xs)) ∧ Rel K g μ st (upd H p (.lst xs)) ∧ Rep K g μ st (upd H p (.lst xs)) (.lst ds) (.ref p) := by
  obtain ⟨R', E⟩ := R.upd_free (o := .lst xs) n
  exact ⟨E, R', .lst (.inl upd_same) (R.notLiveN n) (R.notHid n) l (r.ext R E)⟩
/-- a new list that may change -/
theorem new_loc (R : Rel K g μ st H) {p : Addr} {ds : List D} {xs : List V} (n : H p = none) (l : ds.length ≤ most) (r : Reps K g μ st H ds xs) :
    Ext μ st H (μ ++ [p]) (st ++ [.lst ds]) (upd H p (.lst xs)) ∧ Rel K g (μ ++ [p]) (st ++ [.lst ds]) (upd H p (.lst xs)) ∧ Rep K g (μ ++ [p]) (st ++ [.lst ds]) (upd H p (.lst xs)) (.loc st.length) (.ref p) := by
  have E : Ext μ st H (μ ++ [p]) (st ++ [.lst ds]) (upd H p (.lst xs)) := by
    refine ⟨R.len, ⟨[p], rfl, fun a ha => by rw [List.mem_singleton.mp ha]; exact n⟩, fun a u h _ => by rw [upd_ne (ne_of_none h n)]; exact h, fun i h => ?_, fun a u h => ⟨u, by rw [upd_ne (ne_of_none h n)]; exact h⟩⟩
    rw [List.getElem?_append_left (List.getElem?_eq_some_iff.mp h).1]; exact h
  refine ⟨E, ⟨by simp [R.len], ?_, fun a ha => ?_, fun i ob a h1 h2 => ?_, fun a ha => ?_⟩, .loc (by rw [← R.len]; simp)⟩
  · refine List.nodup_append.mpr ⟨R.nd, by simp, fun a ha b hb e => ?_⟩
    rw [List.mem_singleton.mp hb] at e
    subst e
    obtain ⟨u, z⟩ := R.there a ha
    rw [n] at z; cases z
  · rcases List.mem_append.mp ha with h | h
    · obtain ⟨u, e⟩ := R.there a h
      exact ⟨u, by rw [upd_ne (ne_of_none e n)]; exact e⟩
    · rw [List.mem_singleton.mp h]; exact ⟨_, upd_same⟩
  · by_cases hl : i < st.length
    · rw [List.getElem?_append_left hl] at h1
      rw [List.getElem?_append_left (by rw [R.len]; exact hl)] at h2
      obtain ⟨u, e⟩ := R.there a (List.mem_of_getElem? h2)
      exact (R.obj i ob a h1 h2).ext R E (by rw [upd_ne (ne_of_none e n)])
    · rw [List.getElem?_append_right (by omega)] at h1
      rw [List.getElem?_append_right (by rw [R.len]; omega)] at h2
      have hi : i - st.length = 0 := by
        have := (List.getElem?_eq_some_iff.mp h1).1
        simp at this
        omega
      rw [R.len, hi] at h2
      rw [hi] at h1
      simp at h1 h2
      subst h1 h2
      exact ⟨xs, upd_same, l, r.ext R E⟩
  · obtain ⟨h1, ys, h2⟩ := R.hid a ha
    refine ⟨fun z => ?_, ys, by rw [upd_ne (ne_of_none h2 n)]; exact h2⟩
    rcases List.mem_append.mp z with z | z
    · exact h1 z
    · exact ne_of_none h2 n (List.mem_singleton.mp z)
/-- a list that may change is changed -/
theorem put_loc (R : Rel K g μ st H) {l : Nat} {a : Addr} {o : O} {ds : List D} {xs : List V} {u : HO} (h1 : μ[l]? = some a) (h2 : st[l]? = some o) (hv : o.live) (hz : ds.length ≤ most) (r : Reps K g μ st H ds xs) :
    Ext μ st H μ (st.set l (.lst ds)) (upd H a (.lst xs)) ∧ Rel K g μ (st.set l (.lst ds)) (upd H a (.lst xs)) := by
  have hl : l < st.length := (List.getElem?_eq_some_iff.mp h2).1
  have lv : Live μ st a := ⟨l, o, h1, h2, hv⟩
  have E : Ext μ st H μ (st.set l (.lst ds)) (upd H a (.lst xs)) := by
    refine ⟨R.len, ⟨[], by simp, by simp⟩, fun b u h n => ?_, fun i h => ?_, fun b u h => ?_⟩
    · rw [upd_ne (by rintro rfl; exact n lv)]; exact h
    · by_cases hi : l = i
      · subst hi; rw [h2] at h; cases h; exact hv.elim
      · rw [List.getElem?_set_ne hi]; exact h
    · by_cases hb : b = a
      · subst hb; exact ⟨_, upd_same⟩
      · exact ⟨u, by rw [upd_ne hb]; exact h⟩
  refine ⟨E, ⟨by rw [List.length_set]; exact R.len, R.nd, fun b hb => ?_, fun i ob b e1 e2 => ?_, fun b hb => ?_⟩⟩
  · obtain ⟨u, e⟩ := R.there b hb
    exact E.here b u e
  · by_cases hi : l = i
    · subst hi
      rw [h1] at e2; cases e2
      rw [List.getElem?_set_self hl] at e1
      cases e1
      exact ⟨xs, upd_same, hz, r.ext R E⟩
    · rw [List.getElem?_set_ne hi] at e1
      have hb : b ≠ a := by
        rintro rfl
        obtain ⟨q1, z1⟩ := List.getElem?_eq_some_iff.mp h1
        obtain ⟨q2, z2⟩ := List.getElem?_eq_some_iff.mp e2
        exact hi ((List.getElem_inj R.nd).mp (z1.trans z2.symm))
      exact (R.obj i ob b e1 e2).ext R E (by rw [upd_ne hb])
  · obtain ⟨h3, ys, h4⟩ := R.hid b hb
    exact ⟨h3, ys, by rw [upd_ne (by rintro rfl; exact h3 (List.mem_of_getElem? h1))]; exact h4⟩
/-- a list that may change is frozen -/
theorem frz_loc (R : Rel K g μ st H) {l : Nat} {a : Addr} {ds : List D} (h1 : μ[l]? = some a) (h2 : st[l]? = some (.lst ds)) :
    Ext μ st H μ (st.set l .gone) H ∧ Rel K g μ (st.set l .gone) H ∧ Rep K g μ (st.set l .gone) H (.lst ds) (.ref a) := by
  have hl : l < st.length := (List.getElem?_eq_some_iff.mp h2).1
  have E : Ext μ st H μ (st.set l .gone) H := by
    refine ⟨R.len, ⟨[], by simp, by simp⟩, fun b u h n => h, fun i h => ?_, fun b u h => ⟨u, h⟩⟩
    by_cases hi : l = i
    · subst hi; exact List.getElem?_set_self hl
    · rw [List.getElem?_set_ne hi]; exact h
  have R' : Rel K g μ (st.set l .gone) H := by
    refine ⟨by rw [List.length_set]; exact R.len, R.nd, R.there, fun i ob b e1 e2 => ?_, R.hid⟩
    by_cases hi : l = i
    · subst hi
      rw [List.getElem?_set_self hl] at e1
      cases e1
      trivial
    · rw [List.getElem?_set_ne hi] at e1
      exact (R.obj i ob b e1 e2).ext R E rfl
  obtain ⟨xs, q1, q2, q3⟩ := R.obj l _ a h2 h1
  refine ⟨E, R', .lst (.inl q1) ?_ (fun z => (R.hid a z).1 (List.mem_of_getElem? h1)) q2 (q3.ext R E)⟩
  rintro ⟨i, ob, e1, e2, e3⟩
  have hi : l = i := by
    obtain ⟨q1, z1⟩ := List.getElem?_eq_some_iff.mp h1
    obtain ⟨q2, z2⟩ := List.getElem?_eq_some_iff.mp e1
    exact (List.getElem_inj R.nd).mp (z1.trans z2.symm)
  subst hi
  rw [List.getElem?_set_self hl] at e2
  cases e2
  exact e3
/-! ### a list in the making, out of reach -/
mutual
theorem Rep.hide {L : Addr} {xs : List V} (n : H L = none) : ∀ {d : D} {v : V}, Rep K g μ st H d v → Rep K (g.h (L :: g.hid)) μ st (upd H L (.lst xs)) d v
  | _, _, .non => .non
  | _, _, .bl b => .bl b
  | _, _, .int i => .int i
  | _, _, .str x => .str x
  | _, _, .tup h l r => .tup (by
      rcases h with (h | ⟨o, h⟩) | h
      · exact .inl (.inl (by rw [upd_ne (ne_of_none h n)]; exact h))
      · exact .inl (.inr ⟨o, by rw [upd_ne (ne_of_none h n)]; exact h⟩)
      · exact .inr h) l (Reps.hide n r)
  | _, _, .lst h nl nh l r => .lst (by
      rcases h with h | ⟨o, h⟩
      · exact .inl (by rw [upd_ne (ne_of_none h n)]; exact h)
      · exact .inr ⟨o, by rw [upd_ne (ne_of_none h n)]; exact h⟩) nl (by
      show _ ∉ L :: g.hid
      rw [List.mem_cons, not_or]
      refine ⟨?_, nh⟩
      rcases h with h | ⟨o, h⟩
      · exact ne_of_none h n
      · exact ne_of_none h n) l (Reps.hide n r)
  | _, _, .lstK h l r => .lstK h l (Reps.hide n r)
  | _, _, .rol h l r => .rol (by rw [upd_ne (ne_of_none h n)]; exact h) l (Reps.hide n r)
  | _, _, .loc h => .loc h
  | _, _, .fn k => .fn k
theorem Reps.hide {L : Addr} {xs : List V} (n : H L = none) : ∀ {ds : List D} {vs : List V}, Reps K g μ st H ds vs → Reps K (g.h (L :: g.hid)) μ st (upd H L (.lst xs)) ds vs
  | _, _, .nil => .nil
  | _, _, .cons r t => .cons (Rep.hide n r) (Reps.hide n t)
end
theorem Rel.hide (R : Rel K g μ st H) {L : Addr} {xs : List V} (n : H L = none) : Rel K (g.h (L :: g.hid)) μ st (upd H L (.lst xs)) := by
  refine ⟨R.len, R.nd, fun a ha => ?_, fun l ob a h1 h2 => ?_, fun a ha => ?_⟩
  · obtain ⟨u, e⟩ := R.there a ha
    exact ⟨u, by rw [upd_ne (ne_of_none e n)]; exact e⟩
  · obtain ⟨u, e⟩ := R.there a (List.mem_of_getElem? h2)
    have := R.obj l ob a h1 h2
    cases ob with
    | lst ds =>
      obtain ⟨ys, q1, q2, q3⟩ := this
      exact ⟨ys, by rw [upd_ne (ne_of_none e n)]; exact q1, q2, q3.hide n⟩
    | dct _ _ => exact this
    | gone => trivial
  · rcases List.mem_cons.mp (show a ∈ L :: g.hid from ha) with z | z
    · subst z
      refine ⟨fun hm => ?_, xs, upd_same⟩
      obtain ⟨u, e⟩ := R.there a hm
      rw [n] at e; cases e
    · obtain ⟨h1, ys, h2⟩ := R.hid a z
      exact ⟨h1, ys, by rw [upd_ne (ne_of_none h2 n)]; exact h2⟩
/-! more lists are in the making -/
mutual
theorem Rep.extH {l : List Addr} (R : Rel K g μ st H) (E : Ext μ st H μ' st' H') (hl : ∀ a ∈ l, a ∈ g.hid ∨ H a = none) : ∀ {d : D} {v : V}, Rep K g μ st H d v → Rep K (g.h l) μ' st' H' d v
  | _, _, .non => .non
  | _, _, .bl b => .bl b
  | _, _, .int i => .int i
  | _, _, .str x => .str x
  | _, _, .tup h l r => .tup (E.seqT R h) l (Reps.extH R E hl r)
  | _, _, .lst h n nh l r => .lst (E.rd h n).1 (E.rd h n).2 (fun z => by
      rcases hl _ z with q | q
      · exact nh q
      · rcases h with h | ⟨o, h⟩
        · rw [q] at h; cases h
        · rw [q] at h; cases h) l (Reps.extH R E hl r)
  | _, _, .lstK h l r => .lstK h l (Reps.extH R E hl r)
  | _, _, .rol h l r => .rol (E.keep _ _ h (R.notLive h (by intro _ z; cases z))) l (Reps.extH R E hl r)
  | _, _, .loc h => .loc (E.pre' h)
  | _, _, .fn k => .fn (g := g.h _) k
theorem Reps.extH {l : List Addr} (R : Rel K g μ st H) (E : Ext μ st H μ' st' H') (hl : ∀ a ∈ l, a ∈ g.hid ∨ H a = none) : ∀ {ds : List D} {vs : List V}, Reps K g μ st H ds vs → Reps K (g.h l) μ' st' H' ds vs
  | _, _, .nil => .nil
  | _, _, .cons r t => .cons (Rep.extH R E hl r) (Reps.extH R E hl t)
end
/-! it is written to -/
mutual
theorem Rep.grow {L : Addr} {xs ys : List V} (hd : L ∈ g.hid) (n : H L = some (.lst ys)) : ∀ {d : D} {v : V}, Rep K g μ st H d v → Rep K g μ st (upd H L (.lst xs)) d v
  | _, _, .non => .non
  | _, _, .bl b => .bl b
  | _, _, .int i => .int i
  | _, _, .str x => .str x
  | _, _, .tup h l r => .tup (by
      rcases h with (h | ⟨o, h⟩) | h
      · exact .inl (.inl (by rw [upd_ne (ne_of h n (by intro z; cases z))]; exact h))
      · exact .inl (.inr ⟨o, by rw [upd_ne (ne_of h n (by intro z; cases z))]; exact h⟩)
      · exact .inr h) l (Reps.grow hd n r)
  | _, _, .lst (a := a) h nl nh l r => .lst (by
      have ne : a ≠ L := fun z => nh (by rw [z]; exact hd)
      rcases h with h | ⟨o, h⟩
      · exact .inl (by rw [upd_ne ne]; exact h)
      · exact .inr ⟨o, by rw [upd_ne ne]; exact h⟩) nl nh l (Reps.grow hd n r)
  | _, _, .lstK h l r => .lstK h l (Reps.grow hd n r)
  | _, _, .rol h l r => .rol (by rw [upd_ne (ne_of h n (by intro z; cases z))]; exact h) l (Reps.grow hd n r)
  | _, _, .loc h => .loc h
  | _, _, .fn k => .fn k
theorem Reps.grow {L : Addr} {xs ys : List V} (hd : L ∈ g.hid) (n : H L = some (.lst ys)) : ∀ {ds : List D} {vs : List V}, Reps K g μ st H ds vs → Reps K g μ st (upd H L (.lst xs)) ds vs
  | _, _, .nil => .nil
  | _, _, .cons r t => .cons (Rep.grow hd n r) (Reps.grow hd n t)
end
theorem Rel.grow (R : Rel K g μ st H) {L : Addr} {xs ys : List V} (hd : L ∈ g.hid) (n : H L = some (.lst ys)) : Rel K g μ st (upd H L (.lst xs)) := by
  have hm : ∀ a ∈ μ, a ≠ L := fun a ha z => (R.hid L hd).1 (z ▸ ha)
  refine ⟨R.len, R.nd, fun a ha => ?_, fun l ob a h1 h2 => ?_, fun a ha => ?_⟩
  · obtain ⟨u, e⟩ := R.there a ha
    exact ⟨u, by rw [upd_ne (hm a ha)]; exact e⟩
  · have := R.obj l ob a h1 h2
    cases ob with
    | lst ds =>
      obtain ⟨ys, q1, q2, q3⟩ := this
      exact ⟨ys, by rw [upd_ne (hm a (List.mem_of_getElem? h2))]; exact q1, q2, q3.grow hd n⟩
    | dct _ _ => exact this
    | gone => trivial
  · obtain ⟨h1, zs, h2⟩ := R.hid a ha
    refine ⟨h1, ?_⟩
    by_cases z : a = L
    · subst z; exact ⟨xs, upd_same⟩
    · exact ⟨zs, by rw [upd_ne z]; exact h2⟩
/-! it is shown again -/
mutual
theorem Rep.show {L : Addr} {l : List Addr} : ∀ {d : D} {v : V}, Rep K (g.h (L :: l)) μ st H d v → Rep K (g.h l) μ st H d v
  | _, _, .non => .non
  | _, _, .bl b => .bl b
  | _, _, .int i => .int i
  | _, _, .str x => .str x
  | _, _, .tup h l r => .tup h l (Reps.show r)
  | _, _, .lst h nl nh l r => .lst h nl (fun z => nh (List.mem_cons_of_mem _ z)) l (Reps.show r)
  | _, _, .lstK h l r => .lstK h l (Reps.show r)
  | _, _, .rol h l r => .rol h l (Reps.show r)
  | _, _, .loc h => .loc h
  | _, _, .fn k => .fn (g := g.h l) k
theorem Reps.show {L : Addr} {l : List Addr} : ∀ {ds : List D} {vs : List V}, Reps K (g.h (L :: l)) μ st H ds vs → Reps K (g.h l) μ st H ds vs
  | _, _, .nil => .nil
  | _, _, .cons r t => .cons (Rep.show r) (Reps.show t)
end
theorem Rel.show {L : Addr} {l : List Addr} (R : Rel K (g.h (L :: l)) μ st H) : Rel K (g.h l) μ st H := by
  refine ⟨R.len, R.nd, R.there, fun i ob a h1 h2 => ?_, fun a ha => R.hid a (List.mem_cons_of_mem _ ha)⟩
  have := R.obj i ob a h1 h2
  cases ob with
  | lst ds =>
    obtain ⟨ys, q1, q2, q3⟩ := this
    exact ⟨ys, q1, q2, q3.show⟩
  | dct _ _ => exact this
  | gone => trivial
theorem Live.adopt {L : Addr} {o : O} (h : Live (μ ++ [L]) (st ++ [o]) a) (len : μ.length = st.length) (ne : a ≠ L) : Live μ st a := by
  obtain ⟨l, ob, h1, h2, h3⟩ := h
  by_cases hl : l < μ.length
  · rw [List.getElem?_append_left hl] at h1
    rw [List.getElem?_append_left (by omega)] at h2
    exact ⟨l, ob, h1, h2, h3⟩
  · rw [List.getElem?_append_right (by omega)] at h1
    exact absurd (List.mem_singleton.mp (List.mem_of_getElem? h1)) ne
mutual
theorem Rep.adopt {L : Addr} {l : List Addr} {o : O} (len : μ.length = st.length) : ∀ {d : D} {v : V}, Rep K (g.h (L :: l)) μ st H d v → Rep K (g.h l) (μ ++ [L]) (st ++ [o]) H d v
  | _, _, .non => .non
  | _, _, .bl b => .bl b
  | _, _, .int i => .int i
  | _, _, .str x => .str x
  | _, _, .tup h l r => .tup h l (Reps.adopt len r)
  | _, _, .lst h nl nh l r => .lst h (fun z => nl (z.adopt len fun e => nh (e ▸ List.mem_cons_self))) (fun z => nh (List.mem_cons_of_mem _ z)) l (Reps.adopt len r)
  | _, _, .lstK h l r => .lstK h l (Reps.adopt len r)
  | _, _, .rol h l r => .rol h l (Reps.adopt len r)
  | _, _, .loc h => .loc (by rw [List.getElem?_append_left (List.getElem?_eq_some_iff.mp h).1]; exact h)
  | _, _, .fn k => .fn (g := g.h l) k
theorem Reps.adopt {L : Addr} {l : List Addr} {o : O} (len : μ.length = st.length) : ∀ {ds : List D} {vs : List V}, Reps K (g.h (L :: l)) μ st H ds vs → Reps K (g.h l) (μ ++ [L]) (st ++ [o]) H ds vs
  | _, _, .nil => .nil
  | _, _, .cons r t => .cons (Rep.adopt len r) (Reps.adopt len t)
end
/-- the list in the making may change from here on -/
theorem Rel.adopt {L : Addr} {l : List Addr} {ds : List D} {xs : List V} (R : Rel K (g.h (L :: l)) μ st H) (n : H L = some (.lst xs)) (hz : ds.length ≤ most) (r : Reps K (g.h (L :: l)) μ st H ds xs) (nl : L ∉ l) :
    Rel K (g.h l) (μ ++ [L]) (st ++ [.lst ds]) H ∧ Rep K (g.h l) (μ ++ [L]) (st ++ [.lst ds]) H (.loc st.length) (.ref L) := by
  obtain ⟨nm, _⟩ := R.hid L List.mem_cons_self
  refine ⟨⟨by simp [R.len], List.nodup_append.mpr ⟨R.nd, by simp, fun a ha b hb e => nm (by rw [List.mem_singleton.mp hb] at e; exact e ▸ ha)⟩, fun a ha => ?_, fun i ob a h1 h2 => ?_, fun a ha => ?_⟩, .loc (by rw [← R.len]; simp)⟩
  · rcases List.mem_append.mp ha with h | h
    · exact R.there a h
    · rw [List.mem_singleton.mp h]; exact ⟨_, n⟩
  · by_cases hl : i < st.length
    · rw [List.getElem?_append_left hl] at h1
      rw [List.getElem?_append_left (by rw [R.len]; exact hl)] at h2
      have := R.obj i ob a h1 h2
      cases ob with
      | lst es =>
        obtain ⟨ys, q1, q2, q3⟩ := this
        exact ⟨ys, q1, q2, q3.adopt R.len⟩
      | dct _ _ => exact this
      | gone => trivial
    · rw [List.getElem?_append_right (by omega)] at h1
      rw [List.getElem?_append_right (by rw [R.len]; omega)] at h2
      have hi : i - st.length = 0 := by
        have := (List.getElem?_eq_some_iff.mp h1).1
        simp at this
        omega
      rw [R.len, hi] at h2
      rw [hi] at h1
      simp at h1 h2
      subst h1 h2
      exact ⟨xs, n, hz, r.adopt R.len⟩
  · obtain ⟨h1, zs, h2⟩ := R.hid a (List.mem_cons_of_mem _ ha)
    refine ⟨fun z => ?_, zs, h2⟩
    rcases List.mem_append.mp z with z | z
    · exact h1 z
    · exact nl (List.mem_singleton.mp z ▸ ha)
end
end EV
/-! EvC: the operators, the calls of built-ins, by values. -/
namespace EV
open PySem PySem.Spec PyProof.Rows L2

theorem most_line : most ≤ sizeLine := by rw [sizeLine_eq]; decide
theorem _root_.L2.PE.imp {X : Cx} {e : Expr} {t t' : TE} (h : PE X e t) (w : ∀ σ H Q, t' σ H Q → t σ H Q) : PE X e t' := ⟨fun pins s σ H Q I q => h.run pins s σ H Q I (w σ H Q q)⟩
theorem _root_.L2.PT.imp {X : Cx} {e : Expr} {t t' : TT} (h : PT X e t) (w : ∀ σ H Q, t' σ H Q → t σ H Q) : PT X e t' := ⟨fun pins s σ H Q I q => h.run pins s σ H Q I (w σ H Q q)⟩
theorem _root_.L2.PW.imp {X : Cx} {e : Expr} {t t' : TT} (h : PW X e t) (w : ∀ σ H Q, t' σ H Q → t σ H Q) : PW X e t' := ⟨fun wh pins s σ H Q I q => h.run wh pins s σ H Q I (w σ H Q q)⟩
theorem _root_.L2.PA.imp {X : Cx} {es : List Expr} {t t' : TA} (h : PA X es t) (w : ∀ σ H Q, t' σ H Q → t σ H Q) : PA X es t' := ⟨fun pos pins s σ H Q I q => h.run pos pins s σ H Q I (w σ H Q q)⟩
theorem _root_.L2.PS.imp {X : Cx} {st : Stmt} {t t' : TS} (h : PS X st t) (w : ∀ D σ H, t' D σ H → t D σ H) : PS X st t' := ⟨fun pins s σ H D I q => h.run pins s σ H D I (w D σ H q)⟩
theorem _root_.L2.PSs.imp {X : Cx} {st : List Stmt} {t t' : TS} (h : PSs X st t) (w : ∀ D σ H, t' D σ H → t D σ H) : PSs X st t' := ⟨fun pins s σ H D I q => h.run pins s σ H D I (w D σ H q)⟩
theorem _root_.L2.PO.imp {X : Cx} {e : Option Expr} {t t' : TO} (h : PO X e t) (w : ∀ σ H Q, t' σ H Q → t σ H Q) : PO X e t' := ⟨fun pins s σ H Q I q => h.run pins s σ H Q I (w σ H Q q)⟩
theorem _root_.L2.PI.imp {X : Cx} {tg e : Expr} {t t' : TI} (h : PI X tg e t) (w : ∀ σ H Q, t' σ H Q → t σ H Q) : PI X tg e t' := ⟨fun pins s σ H Q I q => h.run pins s σ H Q I (w σ H Q q)⟩
theorem _root_.L2.PG.imp {X : Cx} {e : Expr} {t t' : TG} (h : PG X e t) (w : ∀ v σ H Q, t' v σ H Q → t v σ H Q) : PG X e t' := ⟨fun pins s σ H v u Q I r q => h.run pins s σ H v u Q I r (w v σ H Q q)⟩
theorem _root_.L2.PGs.imp {X : Cx} {e : List Expr} {t t' : TGs} (h : PGs X e t) (w : ∀ v σ H Q, t' v σ H Q → t v σ H Q) : PGs X e t' := ⟨fun pins s σ H v u Q I r q => h.run pins s σ H v u Q I r (w v σ H Q q)⟩

def opOf : Bop → Operator
  | .add => .Add | .sub => .Sub | .mul => .Mult | .fdiv => .FloorDiv | .mod => .Mod | .pow => .Pow
def copOf : Cop → CmpOp
  | .eq => .Eq | .ne => .NotEq | .lt => .Lt | .le => .LtE | .gt => .Gt | .ge => .GtE | .isN => .Is | .notN => .IsNot | .isIn => .In | .notIn => .NotIn

section
variable {K : PySem.W.Frag} {g : G}
/-- a two-place operation on data -/
def rOp2 (K : PySem.W.Frag) (g : G) (f : Store → D → D → Option D) : R2 := fun x y H Q => ∃ gl μ st a b d, Rel K (g.h gl) μ st H ∧ Rep K (g.h gl) μ st H a x ∧ Rep K (g.h gl) μ st H b y ∧ f st a b = some d ∧ Post K (g.h gl) (Rep K (g.h gl)) μ st H (.ok d st) Q (fun _ _ _ => False)
end
section
variable {X : Cx} {g : G} {A : Around}

/-! ### lists: + and * -/
def rCatR : R2 := fun x y H Q => ∃ l b xs zs, x = .ref l ∧ y = .ref b ∧ Rd H l (.lst xs) ∧ Rd H b (.lst zs) ∧ xs.length + zs.length ≤ sizeLine ∧ ∀ p, H p = none → Q (.ref p) (upd H p (.lst (xs ++ zs)))
theorem rdM {pins : List (Addr × Obj)} {σ : L2.St} {H : Hp} {s : Shared} {l : Addr} {xs : List V} (I : Inv X pins σ H s) (h : Rd H l (.lst xs)) : xs.length ≤ sizeLine ∧ ∃ (its : List Value) (n : Nat), Vals xs its ∧ xs.length = its.length ∧ s.heap.get? l = some { cls := .type "list", data := .seq its.toArray n } := by
  obtain ⟨z, its, n, r, e⟩ := h.ok I.hok
  exact ⟨z, its, n, r, r.length, e⟩
theorem op_catR : OpR X (binaryOp .Add) rCatR := by
  intro pins s σ H x y v u Q I rx ry h
  obtain ⟨l, b, xs, zs, rfl, rfl, hH, hB, hz, q⟩ := h
  cases rx
  cases ry
  obtain ⟨z, its, n, r, hl, e⟩ := rdM I hH
  obtain ⟨z2, its2, n2, r2, hl2, e2⟩ := rdM I hB
  refine PySem.P.add_list e e2 ?_ (by rw [List.size_toArray, List.size_toArray]; omega)
  have ea : its.toArray ++ its2.toArray = (its ++ its2).toArray := by simp
  rw [ea]
  exact ⟨.ref _, _, I.lnew (t' := s.toks) (r.append r2) (by rw [List.length_append]; omega), rfl, q _ I.fresh⟩
def rRepR : R2 := fun x y H Q => ∃ l k xs, x = .ref l ∧ y = .int k ∧ Rd H l (.lst xs) ∧ -(2 ^ 63) ≤ k ∧ k < 2 ^ 63 ∧ xs.length * k.toNat ≤ sizeLine ∧
  ∀ p, H p = none → Q (.ref p) (upd H p (.lst (List.replicate k.toNat xs).flatten))
theorem op_repR : OpR X (binaryOp .Mult) rRepR := by
  intro pins s σ H x y v u Q I rx ry h
  obtain ⟨l, k, xs, rfl, rfl, hH, h1, h2, hz, q⟩ := h
  cases rx
  obtain ⟨t, rfl⟩ := ry
  obtain ⟨z, its, n, r, hl, e⟩ := rdM I hH
  have hlen : its.toArray.size * k.toNat ≤ sizeLine := by rw [List.size_toArray, ← hl]; exact hz
  have hcap : ¬ its.toArray.size * k.toNat > (2 ^ 63 - 1) / 8 := by
    have : (sizeLine : Nat) ≤ (2 ^ 63 - 1) / 8 := by decide
    omega
  have hfit : ¬ (!Builtin.List.listFitsIndex k) = true := by
    rw [fitsIndex_both h1 h2]
    exact Bool.false_ne_true
  have hlong : ¬ Builtin.List.listTooLong (its.toArray.size * k.toNat) = true := by
    rw [notLongL hlen]
    exact Bool.false_ne_true
  have hnew : List.foldl (fun x1 x2 => x1 ++ x2) #[] (List.replicate (if its.toArray.isEmpty = true then 0 else k.toNat) its.toArray) = (List.replicate k.toNat its).flatten.toArray := by
    have f0 : ∀ m : Nat, List.foldl (fun x1 x2 => x1 ++ x2) #[] (List.replicate m its.toArray) = (List.replicate m its).flatten.toArray := fun m => by
      have := foldl_rep its m []
      rw [List.nil_append] at this
      exact this
    rw [f0]
    cases its with
    | nil => simp
    | cons a r' => rw [if_neg (by simp)]
  refine wpAny_binaryOp_repeat_ref (T := "list") (U := "int") (by decide) ⟨_, e, rfl⟩ (fun s' => typeIs_int s' k t) noFill_list_mul F.fills_int_mul F.slot_int_rmul repeat_list F.slot_int_index.lookup
    (call_meets F.slot_int_rmul (typeIs_int s k t) F.entry_int_rmul (F.args_int_rmul_2 _ _) (int___rmul___int_list k t l its.toArray n)
      ⟨e, rfl, ⟨_, e, rfl⟩, call_meets F.slot_list_mul ⟨_, e, rfl⟩ F.entry_list_mul (F.args_list_mul_2 _ _) (AutoListH.list___mul___list_int_3 l its.toArray n k t hfit hcap hlong) ⟨e, ?_⟩⟩)
  rw [hnew]
  exact ⟨.ref _, _, I.lnew (t' := s.toks) (r.rep k.toNat) (by rw [PyProof.Rows.lm_len_rep_flat, Nat.mul_comm]; exact hz), rfl, q _ I.fresh⟩
theorem op_add_ok : OpR X (binaryOp .Add) (rOp2 X.K g fun _ => evBin .add) := by
  intro pins s σ H x y v u Q I rx ry h
  obtain ⟨gl, μ, st, a, b, d, R, ra, rb, e, q⟩ := h
  cases a <;> cases b <;> simp [evBin] at e
  · cases ra; cases rb; subst e
    exact op_add pins s σ H _ _ v u Q I rx ry ⟨_, _, rfl, rfl, q.here R (.int _)⟩
  · cases ra; cases rb
    obtain ⟨hl, rfl⟩ := e
    exact op_add_str pins s σ H _ _ v u Q I rx ry ⟨_, _, rfl, rfl, Nat.le_trans hl most_line, q.here R (.str _)⟩
  · obtain ⟨p1, xs, rfl, h1, l1, r1⟩ := ra.seqT
    obtain ⟨p2, ys, rfl, h2, l2, r2⟩ := rb.seqT
    obtain ⟨hl, rfl⟩ := e
    refine op_catA pins s σ H _ _ v u Q I rx ry ⟨p1, p2, xs, ys, rfl, rfl, h1, h2, by rw [← r1.length, ← r2.length]; exact Nat.le_trans hl most_line, fun z => ?_, fun _ z => ?_, fun _ _ p np => ?_⟩
    · subst z; cases r1; exact q.here R rb
    · subst z; cases r2; rw [List.append_nil] at q; exact q.here R ra
    · obtain ⟨E, R', r'⟩ := new_tup R np (by rw [List.length_append]; exact hl) (r1.append r2)
      exact q _ _ _ E R' r'
  · obtain ⟨p1, xs, rfl, h1, l1, r1⟩ := ra.rdL
    obtain ⟨p2, ys, rfl, h2, l2, r2⟩ := rb.rdL
    obtain ⟨hl, rfl⟩ := e
    refine op_catR pins s σ H _ _ v u Q I rx ry ⟨p1, p2, xs, ys, rfl, rfl, h1, h2, by rw [← r1.length, ← r2.length]; exact Nat.le_trans hl most_line, fun p np => ?_⟩
    obtain ⟨E, R', r'⟩ := new_lst R np (by rw [List.length_append]; exact hl) (r1.append r2)
    exact q _ _ _ E R' r'

theorem op_sub_ok : OpR X (binaryOp .Sub) (rOp2 X.K g fun _ => evBin .sub) := by
  intro pins s σ H x y v u Q I rx ry h
  obtain ⟨gl, μ, st, a, b, d, R, ra, rb, e, q⟩ := h
  cases a <;> cases b <;> simp [evBin] at e
  cases ra; cases rb; subst e
  exact op_sub pins s σ H _ _ v u Q I rx ry ⟨_, _, rfl, rfl, q.here R (.int _)⟩
theorem op_mul_ok : OpR X (binaryOp .Mult) (rOp2 X.K g fun _ => evBin .mul) := by
  intro pins s σ H x y v u Q I rx ry h
  obtain ⟨gl, μ, st, a, b, d, R, ra, rb, e, q⟩ := h
  cases a <;> cases b <;> simp [evBin] at e
  · cases ra; cases rb
    obtain ⟨hs, rfl⟩ := e
    refine op_mul pins s σ H _ _ v u Q I rx ry ⟨_, _, rfl, rfl, ?_, q.here R (.int _)⟩
    unfold CMul
    rcases hs with z | z
    · left; simpa [smallI] using z
    · right; simpa [smallI] using z
  · rename_i ds i
    obtain ⟨p1, xs, rfl, h1, l1, r1⟩ := ra.seqT
    cases rb
    obtain ⟨⟨z1, z2, z3, z4⟩, rfl⟩ := e
    have hl := r1.length
    refine op_repT pins s σ H _ _ v u Q I rx ry ⟨p1, _, xs, rfl, rfl, h1, ?_, z2, z3, by omega, fun p np => ?_⟩
    · rintro rfl
      cases r1
      exact z1 rfl
    · obtain ⟨E, R', r'⟩ := new_tup R np (by
        rw [PyProof.Rows.lm_len_rep_flat]
        rw [hl]
        show _ ≤ 1000 * 1000
        exact Nat.mul_le_mul (by omega) (by omega)) (r1.rep i.toNat)
      exact q _ _ _ E R' r'
  · obtain ⟨p1, xs, rfl, h1, l1, r1⟩ := ra.rdL
    cases rb
    obtain ⟨⟨z1, z3⟩, rfl⟩ := e
    have hl := r1.length
    unfold most at z1
    refine op_repR pins s σ H _ _ v u Q I rx ry ⟨p1, _, xs, rfl, rfl, h1, by omega, by omega, ?_, fun p np => ?_⟩
    · rw [← hl]; exact Nat.le_trans z3 most_line
    · obtain ⟨E, R', r'⟩ := new_lst R np (by rw [PyProof.Rows.lm_len_rep_flat, Nat.mul_comm]; exact z3) (r1.rep _)
      exact q _ _ _ E R' r'
theorem op_fdiv_ok : OpR X (binaryOp .FloorDiv) (rOp2 X.K g fun _ => evBin .fdiv) := by
  intro pins s σ H x y v u Q I rx ry h
  obtain ⟨gl, μ, st, a, b, d, R, ra, rb, e, q⟩ := h
  cases a <;> cases b <;> simp [evBin] at e
  cases ra; cases rb
  obtain ⟨hs, rfl⟩ := e
  exact op_fdivN pins s σ H _ _ v u Q I rx ry ⟨_, _, rfl, rfl, hs, q.here R (.int _)⟩
theorem op_mod_ok : OpR X (binaryOp .Mod) (rOp2 X.K g fun _ => evBin .mod) := by
  intro pins s σ H x y v u Q I rx ry h
  obtain ⟨gl, μ, st, a, b, d, R, ra, rb, e, q⟩ := h
  cases a <;> cases b <;> simp [evBin] at e
  cases ra; cases rb
  obtain ⟨hs, rfl⟩ := e
  exact op_modN pins s σ H _ _ v u Q I rx ry ⟨_, _, rfl, rfl, hs, q.here R (.int _)⟩
theorem op_pow_ok : OpR X (binaryOp .Pow) (rOp2 X.K g fun _ => evBin .pow) := by
  intro pins s σ H x y v u Q I rx ry h
  obtain ⟨gl, μ, st, a, b, d, R, ra, rb, e, q⟩ := h
  cases a <;> cases b <;> simp [evBin] at e
  cases ra; cases rb
  obtain ⟨⟨h1, h2, h3⟩, rfl⟩ := e
  exact op_pow pins s σ H _ _ v u Q I rx ry ⟨_, _, rfl, rfl, ⟨h1, by omega, h3⟩, q.here R (.int _)⟩
theorem bin_ok (op : Bop) : OpR X (binaryOp (opOf op)) (rOp2 X.K g fun _ => evBin op) := by
  cases op
  · exact op_add_ok
  · exact op_sub_ok
  · exact op_mul_ok
  · exact op_fdiv_ok
  · exact op_mod_ok
  · exact op_pow_ok

/-! ### comparisons -/
theorem deref_rep {K : PySem.W.Frag} {μ : List Addr} {st : Store} {H : Hp} {d : D} {v : V} (R : Rel K g μ st H) (r : Rep K g μ st H d v) (ok : okD (deref st d) = true) : Dp K H v (deref st d).py ∧ SeqAt.shaped (deref st d).py = true := by
  obtain ⟨hg, hs⟩ := okD_shaped ok
  refine ⟨?_, hs⟩
  cases d with
  | loc l =>
    cases q : st[l]? with
    | none => simp [deref, q, D.good] at hg
    | some o =>
      cases o with
      | lst ds =>
        simp only [deref, q, D.good, D.py] at hg ⊢
        obtain ⟨a, xs, rfl, _, h2, _, r3⟩ := r.locL R q
        exact .lst (SqL.of h2) (r3.dp hg)
      | dct _ _ => simp [deref, q, D.good] at hg
      | gone => simp [deref, q, D.good] at hg
  | rol ds =>
    unfold deref at hg ⊢
    simp only [D.good, D.py] at hg ⊢
    obtain ⟨a, xs, rfl, h2, _, r3⟩ := r.rolL
    exact .lst h2 (r3.dp hg)
  | non => exact r.dp hg
  | bl _ => exact r.dp hg
  | int _ => exact r.dp hg
  | str _ => exact r.dp hg
  | tup _ => exact r.dp hg
  | lst _ => exact r.dp hg
  | dct _ _ => exact r.dp hg
  | fn _ => exact r.dp hg
theorem any_pys {a : D} : ∀ ds : List D, ((D.pys ds).any fun z => PyData.eqv z a.py) = ds.any fun z => eqv z a
  | [] => rfl
  | d :: ds => by rw [D.pys, List.any_cons, List.any_cons, any_pys ds]; rfl
theorem rep_isN {K : PySem.W.Frag} {μ : List Addr} {st : Store} {H : Hp} {d : D} {v : V} (r : Rep K g μ st H d v) : decide (v = .non) = isNon d := by
  cases r <;> simp [isNon]
theorem in_ok {st : Store} {μ : List Addr} {H : Hp} {a b : D} {x y : V} {k : Bool} {K : PySem.W.Frag} (R : Rel K g μ st H) (ra : Rep K g μ st H a x) (rb : Rep K g μ st H b y) (e : evIn st a b = some k) :
    ∃ ds p xs, y = .ref p ∧ Dp K H x a.py ∧ SeqAt.shaped a.py = true ∧ SeqAt.shaped (.list (D.pys ds)) = true ∧ DpAll K H xs (D.pys ds) ∧ (SqL K H p xs ∨ SqT K H p xs) ∧ k = (D.pys ds).any fun z => PyData.eqv z a.py := by
  unfold evIn at e
  cases q : EV.seqOf st b with
  | none => rw [q] at e; simp at e
  | some ds =>
    rw [q] at e
    simp only at e
    split at e
    · rename_i h
      rw [Bool.and_eq_true] at h
      cases e
      obtain ⟨p, xs, rfl, h2, _, r3⟩ := rb.seqOf R q
      obtain ⟨g1, s1⟩ := okD_shaped h.1
      obtain ⟨g2, s2⟩ := okD_shaped h.2
      rw [D.good] at g2
      rw [D.py] at s2
      exact ⟨ds, p, xs, rfl, ra.dp g1, s1, s2, r3.dp g2, h2, (any_pys ds).symm⟩
    · cases e
theorem op_in_ok (hu : X.A.units + 65 < cLine) : OpR X (compareOp .In) (rOp2 X.K g fun st a b => (evCmp st .isIn a b).map .bl) := by
  intro pins s σ H x y v u Q I rx ry h
  obtain ⟨gl, μ, st, a, b, d, R, ra, rb, e, q⟩ := h
  simp only [evCmp, Option.map_eq_some_iff] at e
  obtain ⟨k, e, rfl⟩ := e
  obtain ⟨ds, p, xs, rfl, hd, s1, s2, r3, h2, rfl⟩ := in_ok R ra rb e
  have q' := q.here R (.bl _)
  rcases h2 with h2 | h2
  · exact op_inD hu pins s σ H x _ v u Q I rx ry ⟨_, _, hd, .lst h2 r3, s1, s2, q'⟩
  · obtain ⟨as, r1⟩ := Dp.reads I _ x v hd rx
    obtain ⟨bs, r2⟩ := Dp.reads I (.tuple (D.pys ds)) _ u (.tup h2 r3) ry
    exact SeqAt.in_tuple_reads r2 r1 (SeqAt.canLay_of_shaped s2) (SeqAt.canLay_of_shaped s1) (room_in_shaped s1 hu) ⟨.bl _, H, I, rfl, q'⟩
theorem op_notIn_ok (hu : X.A.units + 65 < cLine) : OpR X (compareOp .NotIn) (rOp2 X.K g fun st a b => (evCmp st .notIn a b).map .bl) := by
  intro pins s σ H x y v u Q I rx ry h
  obtain ⟨gl, μ, st, a, b, d, R, ra, rb, e, q⟩ := h
  simp only [evCmp, Option.map_eq_some_iff] at e
  obtain ⟨k', ⟨k, e, rfl⟩, rfl⟩ := e
  obtain ⟨ds, p, xs, rfl, hd, s1, s2, r3, h2, rfl⟩ := in_ok R ra rb e
  have q' := q.here R (.bl _)
  rcases h2 with h2 | h2
  · exact op_notInD hu pins s σ H x _ v u Q I rx ry ⟨_, _, hd, .lst h2 r3, s1, s2, q'⟩
  · obtain ⟨as, r1⟩ := Dp.reads I _ x v hd rx
    obtain ⟨bs, r2⟩ := Dp.reads I (.tuple (D.pys ds)) _ u (.tup h2 r3) ry
    exact SeqAt.notIn_tuple_reads r2 r1 (SeqAt.canLay_of_shaped s2) (SeqAt.canLay_of_shaped s1) (room_in_shaped s1 hu) ⟨.bl _, H, I, rfl, q'⟩
theorem lexLt_eq : ∀ xs ys : List Int, lexLt xs ys = HT.lexLt xs ys
  | [], [] => rfl
  | [], _ :: _ => rfl
  | _ :: _, [] => rfl
  | x :: xs, y :: ys => by rw [lexLt, HT.lexLt_cons, lexLt_eq xs ys]
theorem cmp_ok (op : Cop) (hu : X.A.units + 65 < cLine) : OpR X (compareOp (copOf op)) (rOp2 X.K g fun st a b => (evCmp st op a b).map .bl) := by
  cases op with
  | isIn => exact op_in_ok hu
  | notIn => exact op_notIn_ok hu
  | eq =>
    intro pins s σ H x y v u Q I rx ry h
    obtain ⟨gl, μ, st, a, b, d, R, ra, rb, e, q⟩ := h
    simp only [evCmp, Option.map_eq_some_iff] at e
    obtain ⟨k, e, rfl⟩ := e
    split at e
    · rename_i h
      rw [Bool.and_eq_true] at h
      cases e
      obtain ⟨d1, s1⟩ := deref_rep R ra h.1
      obtain ⟨d2, s2⟩ := deref_rep R rb h.2
      exact op_eqD (by omega) pins s σ H x y v u Q I rx ry ⟨_, _, d1, d2, s1, s2, q.here R (.bl _)⟩
    · cases e
  | ne =>
    intro pins s σ H x y v u Q I rx ry h
    obtain ⟨gl, μ, st, a, b, d, R, ra, rb, e, q⟩ := h
    simp only [evCmp, Option.map_eq_some_iff] at e
    obtain ⟨k, e, rfl⟩ := e
    split at e
    · rename_i h
      rw [Bool.and_eq_true] at h
      cases e
      obtain ⟨d1, s1⟩ := deref_rep R ra h.1
      obtain ⟨d2, s2⟩ := deref_rep R rb h.2
      exact op_neD (by omega) pins s σ H x y v u Q I rx ry ⟨_, _, d1, d2, s1, s2, q.here R (.bl _)⟩
    · cases e
  | lt =>
    intro pins s σ H x y v u Q I rx ry h
    obtain ⟨gl, μ, st, a, b, d, R, ra, rb, e, q⟩ := h
    simp only [evCmp, Option.map_eq_some_iff] at e
    obtain ⟨k, e, rfl⟩ := e
    cases a <;> cases b <;> simp at e
    · cases ra; cases rb; subst e
      exact op_lt pins s σ H _ _ v u Q I rx ry ⟨_, _, rfl, rfl, q.here R (.bl _)⟩
    · obtain ⟨p1, xs, rfl, h1, l1, r1⟩ := ra.seqT
      obtain ⟨p2, ys, rfl, h2, l2, r2⟩ := rb.seqT
      rename_i ds es
      cases e1 : intsOf ds with
      | none => rw [e1] at e; simp at e
      | some ns =>
        cases e2 : intsOf es with
        | none => rw [e1, e2] at e; simp at e
        | some ms =>
          rw [e1, e2] at e
          simp at e
          subst e
          rw [r1.intsR e1] at h1
          rw [r2.intsR e2] at h2
          refine op_ltT (by omega) pins s σ H _ _ v u Q I rx ry ⟨p1, p2, ns, ms, rfl, rfl, h1, h2, ?_⟩
          rw [← lexLt_eq]
          exact q.here R (.bl _)
  | le =>
    intro pins s σ H x y v u Q I rx ry h
    obtain ⟨gl, μ, st, a, b, d, R, ra, rb, e, q⟩ := h
    simp only [evCmp, Option.map_eq_some_iff] at e
    obtain ⟨k, e, rfl⟩ := e
    cases a <;> cases b <;> simp at e
    cases ra; cases rb; subst e
    exact op_le pins s σ H _ _ v u Q I rx ry ⟨_, _, rfl, rfl, q.here R (.bl _)⟩
  | gt =>
    intro pins s σ H x y v u Q I rx ry h
    obtain ⟨gl, μ, st, a, b, d, R, ra, rb, e, q⟩ := h
    simp only [evCmp, Option.map_eq_some_iff] at e
    obtain ⟨k, e, rfl⟩ := e
    cases a <;> cases b <;> simp at e
    cases ra; cases rb; subst e
    exact op_gt pins s σ H _ _ v u Q I rx ry ⟨_, _, rfl, rfl, q.here R (.bl _)⟩
  | ge =>
    intro pins s σ H x y v u Q I rx ry h
    obtain ⟨gl, μ, st, a, b, d, R, ra, rb, e, q⟩ := h
    simp only [evCmp, Option.map_eq_some_iff] at e
    obtain ⟨k, e, rfl⟩ := e
    cases a <;> cases b <;> simp at e
    cases ra; cases rb; subst e
    exact op_ge pins s σ H _ _ v u Q I rx ry ⟨_, _, rfl, rfl, q.here R (.bl _)⟩
  | isN =>
    intro pins s σ H x y v u Q I rx ry h
    obtain ⟨gl, μ, st, a, b, d, R, ra, rb, e, q⟩ := h
    simp only [evCmp, Option.map_eq_some_iff] at e
    obtain ⟨k, e, rfl⟩ := e
    cases b <;> simp at e
    cases rb
    subst e
    refine op_isN pins s σ H _ _ v u Q I rx ry ⟨rfl, ?_⟩
    rw [rep_isN ra]
    exact q.here R (.bl _)
  | notN =>
    intro pins s σ H x y v u Q I rx ry h
    obtain ⟨gl, μ, st, a, b, d, R, ra, rb, e, q⟩ := h
    simp only [evCmp, Option.map_eq_some_iff] at e
    obtain ⟨k, e, rfl⟩ := e
    cases b <;> simp at e
    cases rb
    obtain rfl : k = !isNon a := by rw [e, Bool.not_not]
    refine op_notN pins s σ H _ _ v u Q I rx ry ⟨rfl, ?_⟩
    rw [rep_isN ra]
    exact q.here R (.bl _)
end
end EV

namespace EV
open PySem PySem.Spec PyProof.Rows L2
section
variable {X : Cx} {g : G}
/-! ### subscripts, slices -/
theorem ixOf_eq (n : Nat) (i : Int) : ixOf n i = ixN n i := rfl
theorem ix_ok : IxR X (rOp2 X.K g evIdx) := by
  intro value slice pins s σ H x y v u Q I rx ry h hs
  obtain ⟨gl, μ, st, a, b, d, R, ra, rb, e, q⟩ := h
  unfold evIdx at e
  cases q1 : EV.seqOf st a with
  | none => rw [q1] at e; simp at e
  | some ds =>
    rw [q1] at e
    cases b <;> simp only [reduceCtorEq] at e
    rename_i k
    obtain ⟨j, e1, e2⟩ := Option.bind_eq_some_iff.mp e
    cases rb
    obtain ⟨p, xs, rfl, h2, _, r3⟩ := ra.seqOf R q1
    obtain ⟨w, e3, rw3⟩ := r3.get e2
    have e4 : atI xs k = some w := by
      unfold atI
      rw [← r3.length, ← ixOf_eq, e1]
      exact e3
    have q' := q.here R rw3
    rcases h2 with h2 | h2
    · exact ix_list value slice pins s σ H _ _ v u Q I rx ry ⟨p, xs, k, w, rfl, rfl, h2, e4, q'⟩ hs
    · exact ix_tup value slice pins s σ H _ _ v u Q I rx ry ⟨p, xs, k, w, rfl, rfl, h2, e4, q'⟩ hs
theorem cutIx_eq (n d : Nat) (o : Option Int) : cutIx n d o = HT.sIx n d o := by
  cases o with
  | none => rfl
  | some v =>
    show (if v < 0 then (max (v + n) 0).toNat else min v.toNat n) = (if v < 0 then (v + (n : Int)).toNat else min v.toNat n)
    split
    · omega
    · rfl
theorem cut_rep {K : PySem.W.Frag} {μ : List Addr} {st : Store} {H : Hp} {ds : List D} {xs : List V} (r : Reps K g μ st H ds xs) (lo hi : Option Int) : Reps K g μ st H (cut ds lo hi) (cutV xs lo hi) := by
  unfold cut cutV
  rw [cutIx_eq, cutIx_eq, r.length]
  exact (r.drop _).take _
theorem cut_len (ds : List D) (lo hi : Option Int) : (cut ds lo hi).length ≤ ds.length := by
  unfold cut
  rw [List.length_take, List.length_drop]
  omega
theorem cut_all {ds : List D} {lo hi : Option Int} (h : HT.sIx ds.length 0 lo = 0 ∧ HT.sIx ds.length ds.length hi = ds.length) : cut ds lo hi = ds := by
  unfold cut
  rw [cutIx_eq, cutIx_eq, h.1, h.2, List.drop_zero, Nat.sub_zero, List.take_length]
def rSlD (K : PySem.W.Frag) (g : G) : V → Option Int → Option Int → Hp → VK → Prop := fun x lo hi H Q => ∃ gl μ st a d, Rel K (g.h gl) μ st H ∧ Rep K (g.h gl) μ st H a x ∧ evSl st a lo hi = some d ∧ Post K (g.h gl) (Rep K (g.h gl)) μ st H (.ok d st) Q (fun _ _ _ => False)
theorem seqOf_deref {st : Store} {a : D} {ds : List D} (h : deref st a = .lst ds ∨ deref st a = .tup ds) : EV.seqOf st a = some ds := by
  unfold EV.seqOf
  rcases h with h | h <;> rw [h]
theorem deref_tup {st : Store} {a : D} {ds : List D} (h : deref st a = .tup ds) : a = .tup ds := by
  cases a with
  | loc l =>
    unfold deref at h
    simp only at h
    split at h <;> cases h
  | rol _ => cases h
  | _ => exact h
theorem deref_lst {K : PySem.W.Frag} {μ : List Addr} {st : Store} {H : Hp} {a : D} {v : V} {ds : List D} (R : Rel K g μ st H) (r : Rep K g μ st H a v) (h : deref st a = .lst ds) : ∃ p xs, v = .ref p ∧ SqL K H p xs ∧ ds.length ≤ most ∧ Reps K g μ st H ds xs := by
  cases a with
  | loc l =>
    unfold deref at h
    simp only at h
    split at h
    · rename_i es q
      cases h
      obtain ⟨p, xs, h1, _, h2, h3⟩ := r.locL R q
      exact ⟨p, xs, h1, SqL.of h2, h3⟩
    · cases h
    · cases h
  | rol es => cases h; exact r.rolL
  | lst es => cases h; exact r.seqL
  | _ => cases h
theorem sl_ok : SlR X (rSlD X.K g) := by
  intro pins s σ H x v vl vu lo hi sl Q I rx hs pl pu h
  obtain ⟨gl, μ, st, a, d, R, ra, e, q⟩ := h
  unfold evSl at e
  split at e
  · rename_i ds hd
    cases e
    have ha := deref_tup hd
    subst ha
    obtain ⟨p, xs, rfl, h2, l1, r3⟩ := ra.seqT
    have hl := r3.length
    refine sl_tupA pins s σ H _ v vl vu lo hi sl Q I rx hs pl pu ⟨p, xs, rfl, h2, fun hw => ?_, fun hw p' np => ?_⟩
    · rw [← hl] at hw
      rw [cut_all hw] at q
      exact q.here R ra
    · obtain ⟨E, R', r'⟩ := new_tup R np (Nat.le_trans (cut_len ds lo hi) l1) (cut_rep r3 lo hi)
      exact q _ _ _ E R' r'
  · rename_i ds hd
    cases e
    obtain ⟨p, xs, rfl, h2, l1, r3⟩ := deref_lst R ra hd
    refine sl_list pins s σ H _ v vl vu lo hi sl Q I rx hs pl pu ⟨p, xs, rfl, h2, fun p' np => ?_⟩
    obtain ⟨E, R', r'⟩ := new_lst R np (Nat.le_trans (cut_len ds lo hi) l1) (cut_rep r3 lo hi)
    exact q _ _ _ E R' r'
  · cases e

/-! ### built-ins -/
def rBlt (K : PySem.W.Frag) (g : G) (f : Store → List D → Option D) : List V → Hp → VK → Prop := fun xs H Q => ∃ gl μ st ds d, Rel K (g.h gl) μ st H ∧ Reps K (g.h gl) μ st H ds xs ∧ f st ds = some d ∧ Post K (g.h gl) (Rep K (g.h gl)) μ st H (.ok d st) Q (fun _ _ _ => False)
theorem Reps.bools {K : PySem.W.Frag} {μ : List Addr} {st : Store} {H : Hp} : ∀ {ds : List D} {vs : List V} {bs : List Bool}, Reps K g μ st H ds vs → boolsOf ds = some bs → vs = bs.map V.bl
  | _, _, _, .nil, e => by simp [boolsOf] at e; subst e; rfl
  | _, _, ns, .cons r t, e => by
    cases r <;> simp [boolsOf] at e
    obtain ⟨m, h1, h2⟩ := e
    subst h2
    rw [List.map_cons, Reps.bools t h1]
theorem foldl_min : ∀ (r : List Int) (n : Int), (r.foldl (fun m x => if x < m then x else m) n) ∈ n :: r ∧ ∀ y ∈ n :: r, (r.foldl (fun m x => if x < m then x else m) n) ≤ y
  | [], n => ⟨List.mem_cons_self, fun y hy => by simp at hy; subst hy; exact Int.le_refl _⟩
  | x :: r, n => by
    obtain ⟨h1, h2⟩ := foldl_min r (if x < n then x else n)
    rw [List.foldl_cons]
    refine ⟨?_, fun y hy => ?_⟩
    · rcases List.mem_cons.mp h1 with e | e
      · rw [e]; split <;> simp
      · simp [e]
    · have a0 := h2 _ List.mem_cons_self
      have a1 := fun hz => h2 y (List.mem_cons_of_mem _ hz)
      generalize List.foldl _ _ r = F at a0 a1 ⊢
      rcases List.mem_cons.mp hy with e | e
      · subst e; split at a0 <;> omega
      · rcases List.mem_cons.mp e with e | e
        · subst e; split at a0 <;> omega
        · exact a1 e
theorem foldl_max : ∀ (r : List Int) (n : Int), (r.foldl (fun m x => if x > m then x else m) n) ∈ n :: r ∧ ∀ y ∈ n :: r, y ≤ (r.foldl (fun m x => if x > m then x else m) n)
  | [], n => ⟨List.mem_cons_self, fun y hy => by simp at hy; subst hy; exact Int.le_refl _⟩
  | x :: r, n => by
    obtain ⟨h1, h2⟩ := foldl_max r (if x > n then x else n)
    rw [List.foldl_cons]
    refine ⟨?_, fun y hy => ?_⟩
    · rcases List.mem_cons.mp h1 with e | e
      · rw [e]; split <;> simp
      · simp [e]
    · have a0 := h2 _ List.mem_cons_self
      have a1 := fun hz => h2 y (List.mem_cons_of_mem _ hz)
      generalize List.foldl _ _ r = F at a0 a1 ⊢
      rcases List.mem_cons.mp hy with e | e
      · subst e; split at a0 <;> omega
      · rcases List.mem_cons.mp e with e | e
        · subst e; split at a0 <;> omega
        · exact a1 e
theorem insI_perm (x : Int) : ∀ l : List Int, (insI x l).Perm (x :: l)
  | [] => .refl _
  | y :: ys => by
    unfold insI
    split
    · exact .refl _
    · exact ((insI_perm x ys).cons y).trans (.swap x y ys)
theorem insI_sorted (x : Int) : ∀ l : List Int, l.Pairwise (· ≤ ·) → (insI x l).Pairwise (· ≤ ·)
  | [], _ => by simp [insI]
  | y :: ys, h => by
    obtain ⟨h1, h2⟩ := List.pairwise_cons.mp h
    unfold insI
    split
    · rename_i hxy
      refine List.pairwise_cons.mpr ⟨fun z hz => ?_, h⟩
      rcases List.mem_cons.mp hz with e | e
      · subst e; exact hxy
      · have := h1 z e; omega
    · rename_i hxy
      refine List.pairwise_cons.mpr ⟨fun z hz => ?_, insI_sorted x ys h2⟩
      rcases List.mem_cons.mp ((insI_perm x ys).mem_iff.mp hz) with e | e
      · subst e; omega
      · exact h1 z e
theorem sortI_ok : ∀ l : List Int, (sortI l).Perm l ∧ (sortI l).Pairwise (· ≤ ·)
  | [] => ⟨.refl _, .nil⟩
  | x :: l => by
    obtain ⟨h1, h2⟩ := sortI_ok l
    exact ⟨(insI_perm x _).trans (h1.cons x), insI_sorted x _ h2⟩
theorem one_rep {K : PySem.W.Frag} {μ : List Addr} {st : Store} {H : Hp} {d : D} {xs : List V} (r : Reps K g μ st H [d] xs) : ∃ v, xs = [v] ∧ Rep K g μ st H d v := by
  cases r with | cons r t => cases t; exact ⟨_, rfl, r⟩
theorem two_rep {K : PySem.W.Frag} {μ : List Addr} {st : Store} {H : Hp} {d e : D} {xs : List V} (r : Reps K g μ st H [d, e] xs) : ∃ v w, xs = [v, w] ∧ Rep K g μ st H d v ∧ Rep K g μ st H e w := by
  cases r with | cons r t => cases t with | cons r2 t => cases t; exact ⟨_, _, rfl, r, r2⟩
theorem b_len : CallR X (.builtin "len") (rBlt X.K g fun st => evBlt st .len) := by
  intro pins s σ H xs us Q I r h
  obtain ⟨gl, μ, st, ds, d, R, rs, e, q⟩ := h
  match ds, e with
  | [a], e =>
    simp only [evBlt, Option.map_eq_some_iff] at e
    obtain ⟨es, e1, rfl⟩ := e
    obtain ⟨v, rfl, ra⟩ := one_rep rs
    obtain ⟨p, ys, rfl, h2, _, r3⟩ := ra.seqOf R e1
    refine call_len_seq pins s σ H _ us Q I r ⟨p, ys, rfl, h2, ?_⟩
    rw [← r3.length]
    exact q.here R (.int _)
theorem b_abs : CallR X (.builtin "abs") (rBlt X.K g fun st => evBlt st .abs) := by
  intro pins s σ H xs us Q I r h
  obtain ⟨gl, μ, st, ds, d, R, rs, e, q⟩ := h
  match ds, e with
  | [.int i], e =>
    simp only [evBlt, Option.some.injEq] at e
    subst e
    obtain ⟨v, rfl, ra⟩ := one_rep rs
    cases ra
    exact call_abs pins s σ H _ us Q I r ⟨i, rfl, q.here R (.int _)⟩
theorem b_int : CallR X (.type "int") (rBlt X.K g fun st => evBlt st .int) := by
  intro pins s σ H xs us Q I r h
  obtain ⟨gl, μ, st, ds, d, R, rs, e, q⟩ := h
  match ds, e with
  | [.int i], e =>
    simp only [evBlt, Option.some.injEq] at e
    subst e
    obtain ⟨v, rfl, ra⟩ := one_rep rs
    cases ra
    exact call_int1 pins s σ H _ us Q I r (.inl ⟨i, rfl, q.here R (.int _)⟩)
  | [.bl b], e =>
    simp only [evBlt, Option.some.injEq] at e
    subst e
    obtain ⟨v, rfl, ra⟩ := one_rep rs
    cases ra
    exact call_int1 pins s σ H _ us Q I r (.inr ⟨b, rfl, q.here R (.int _)⟩)
theorem b_sum (hc : X.calm = true) : CallR X (.builtin "sum") (rBlt X.K g fun st => evBlt st .sum) := by
  intro pins s σ H xs us Q I r h
  obtain ⟨gl, μ, st, ds, d, R, rs, e, q⟩ := h
  match ds, e with
  | [.lst es], e =>
    simp only [evBlt, Option.map_eq_some_iff] at e
    obtain ⟨ns, e1, rfl⟩ := e
    obtain ⟨v, rfl, ra⟩ := one_rep rs
    obtain ⟨p, ys, rfl, h2, _, r3⟩ := ra.seqL
    rw [r3.intsR e1] at h2
    exact cr_sum hc pins s σ H _ us Q I r ⟨p, ns, rfl, h2, q.here R (.int _)⟩
theorem b_min1 (hc : X.calm = true) : CallR X (.builtin "min") (rBlt X.K g fun st => evBlt st .min1) := by
  intro pins s σ H xs us Q I r h
  obtain ⟨gl, μ, st, ds, d, R, rs, e, q⟩ := h
  match ds, e with
  | [.lst es], e =>
    simp only [evBlt, Option.bind_eq_some_iff] at e
    obtain ⟨ns, e1, e2⟩ := e
    obtain ⟨v, rfl, ra⟩ := one_rep rs
    obtain ⟨p, ys, rfl, h2, _, r3⟩ := ra.seqL
    rw [r3.intsR e1] at h2
    match ns, e2 with
    | n :: t, e2 =>
      cases e2
      refine cr_min hc pins s σ H _ us Q I r ⟨p, n :: t, rfl, h2, by simp, fun m h1 h3 => ?_⟩
      obtain ⟨k1, k2⟩ := foldl_min t n
      have : m = t.foldl (fun m x => if x < m then x else m) n := by
        have := h3 _ k1
        have := k2 _ h1
        omega
      subst this
      exact q.here R (.int _)
theorem b_max1 (hc : X.calm = true) : CallR X (.builtin "max") (rBlt X.K g fun st => evBlt st .max1) := by
  intro pins s σ H xs us Q I r h
  obtain ⟨gl, μ, st, ds, d, R, rs, e, q⟩ := h
  match ds, e with
  | [.lst es], e =>
    simp only [evBlt, Option.bind_eq_some_iff] at e
    obtain ⟨ns, e1, e2⟩ := e
    obtain ⟨v, rfl, ra⟩ := one_rep rs
    obtain ⟨p, ys, rfl, h2, _, r3⟩ := ra.seqL
    rw [r3.intsR e1] at h2
    match ns, e2 with
    | n :: t, e2 =>
      cases e2
      refine cr_max hc pins s σ H _ us Q I r ⟨p, n :: t, rfl, h2, by simp, fun m h1 h3 => ?_⟩
      obtain ⟨k1, k2⟩ := foldl_max t n
      have : m = t.foldl (fun m x => if x > m then x else m) n := by
        have := h3 _ k1
        have := k2 _ h1
        omega
      subst this
      exact q.here R (.int _)
theorem b_min2 (hc : X.calm = true) : CallR X (.builtin "min") (rBlt X.K g fun st => evBlt st .min2) := by
  intro pins s σ H xs us Q I r h
  obtain ⟨gl, μ, st, ds, d, R, rs, e, q⟩ := h
  match ds, e with
  | [.int i, .int j], e =>
    simp only [evBlt, Option.some.injEq] at e
    subst e
    obtain ⟨v, w, rfl, ra, rb⟩ := two_rep rs
    cases ra
    cases rb
    exact call_min2 hc pins s σ H _ us Q I r ⟨i, j, rfl, q.here R (.int _)⟩
theorem b_max2 (hc : X.calm = true) : CallR X (.builtin "max") (rBlt X.K g fun st => evBlt st .max2) := by
  intro pins s σ H xs us Q I r h
  obtain ⟨gl, μ, st, ds, d, R, rs, e, q⟩ := h
  match ds, e with
  | [.int i, .int j], e =>
    simp only [evBlt, Option.some.injEq] at e
    subst e
    obtain ⟨v, w, rfl, ra, rb⟩ := two_rep rs
    cases ra
    cases rb
    exact call_max2 hc pins s σ H _ us Q I r ⟨i, j, rfl, q.here R (.int _)⟩
theorem b_all (hc : X.calm = true) : CallR X (.builtin "all") (rBlt X.K g fun st => evBlt st .all) := by
  intro pins s σ H xs us Q I r h
  obtain ⟨gl, μ, st, ds, d, R, rs, e, q⟩ := h
  match ds, e with
  | [.lst es], e =>
    simp only [evBlt, Option.map_eq_some_iff] at e
    obtain ⟨ns, e1, rfl⟩ := e
    obtain ⟨v, rfl, ra⟩ := one_rep rs
    obtain ⟨p, ys, rfl, h2, _, r3⟩ := ra.seqL
    rw [Reps.bools r3 e1] at h2
    exact cr_all hc pins s σ H _ us Q I r ⟨p, ns, rfl, h2, q.here R (.bl _)⟩
theorem b_tuple : CallR X (.type "tuple") (rBlt X.K g fun st => evBlt st .tuple) := by
  intro pins s σ H xs us Q I r h
  obtain ⟨gl, μ, st, ds, d, R, rs, e, q⟩ := h
  match ds, e with
  | [a], e =>
    simp only [evBlt, Option.map_eq_some_iff] at e
    obtain ⟨es, e1, rfl⟩ := e
    obtain ⟨v, rfl, ra⟩ := one_rep rs
    obtain ⟨p, ys, rfl, h2, l1, r3⟩ := ra.seqOf R e1
    refine call_tuple_of pins s σ H _ us Q I r ⟨p, ys, rfl, ?_⟩
    rcases h2 with h2 | h2
    · refine .inl ⟨h2, fun l np => ?_⟩
      obtain ⟨E, R', r'⟩ := new_tup R np l1 r3
      exact q _ _ _ E R' r'
    · exact .inr ⟨h2, q.here R (.tup h2 l1 r3)⟩
theorem b_list : CallR X (.type "list") (rBlt X.K g fun st => evBlt st .list) := by
  intro pins s σ H xs us Q I r h
  obtain ⟨gl, μ, st, ds, d, R, rs, e, q⟩ := h
  match ds, e with
  | [a], e =>
    simp only [evBlt, Option.map_eq_some_iff] at e
    obtain ⟨es, e1, rfl⟩ := e
    obtain ⟨v, rfl, ra⟩ := one_rep rs
    obtain ⟨p, ys, rfl, h2, l1, r3⟩ := ra.seqOf R e1
    refine call_list_of pins s σ H _ us Q I r ⟨p, ys, rfl, h2, fun l np => ?_⟩
    obtain ⟨E, R', r'⟩ := new_lst R np l1 r3
    exact q _ _ _ E R' r'
theorem b_sortedI : CallR X (.builtin "sorted") (rBlt X.K g fun st => evBlt st .sorted) := by
  intro pins s σ H xs us Q I r h
  obtain ⟨gl, μ, st, ds, d, R, rs, e, q⟩ := h
  match ds, e with
  | [.lst es], e =>
    simp only [evBlt, Option.map_eq_some_iff] at e
    obtain ⟨ns, e1, rfl⟩ := e
    obtain ⟨v, rfl, ra⟩ := one_rep rs
    obtain ⟨p, ys, rfl, h2, l1, r3⟩ := ra.seqL
    rw [r3.intsR e1] at h2
    refine cr_sortedI pins s σ H _ us Q I r ⟨p, ns, rfl, h2, fun ns' l hp hs np => ?_⟩
    obtain ⟨k1, k2⟩ := sortI_ok ns
    have : ns' = sortI ns := PySem.W.ksm_same (hp.trans k1.symm) hs k2
    subst this
    obtain ⟨E, R', r'⟩ := new_lst R np (by rw [List.length_map, k1.length_eq, intsOf_len e1]; exact l1) (Reps.ofInts (K := X.K) (g := g.h gl) (μ := μ) (st := st) (H := H) (sortI ns))
    exact q _ _ _ E R' r'
/-- isinstance(x, T), T a built-in class -/
def tyName : Tyc → String
  | .int => "int" | .bool => "bool" | .str => "str" | .tuple => "tuple"
theorem isi_ty {K : PySem.W.Frag} {μ : List Addr} {st : Store} {H : Hp} {d : D} {v : V} {t : Tyc} {k : Bool} (R : Rel K g μ st H) (r : Rep K g μ st H d v) (e : evIsi d t = some k) : ∃ T : String, TyX K H v (.type T) ∧ kitB T (tyName t) = some k := by
  cases r with
  | non => refine ⟨_, .base .non, ?_⟩; cases t <;> simp [evIsi] at e <;> subst e <;> decide +kernel
  | bl b => refine ⟨_, .base (.bl b), ?_⟩; cases t <;> simp [evIsi] at e <;> subst e <;> decide +kernel
  | int i => refine ⟨_, .base (.int i), ?_⟩; cases t <;> simp [evIsi] at e <;> subst e <;> decide +kernel
  | str x => refine ⟨_, .base (.str x), ?_⟩; cases t <;> simp [evIsi] at e <;> subst e <;> decide +kernel
  | @tup a xs ds h l r =>
    refine ⟨"tuple", ?_, ?_⟩
    · rcases h with (h | ⟨o, h⟩) | ⟨o, its, n, h1, h2, _⟩
      · exact .base (.tup h)
      · exact .fTuple h
      · exact .kTuple h1 h2
    · cases t <;> simp [evIsi] at e <;> subst e <;> decide +kernel
  | @lst a xs ds h n _ l r =>
    refine ⟨"list", ?_, ?_⟩
    · rcases h with h | ⟨o, h⟩
      · exact .base (.lst h)
      · exact .base (.frz h)
    · cases t <;> simp [evIsi] at e <;> subst e <;> decide +kernel
  | lstK h l r => simp [evIsi] at e
  | rol h l r => simp [evIsi] at e
  | loc h => simp [evIsi] at e
  | fn k => simp [evIsi] at e
end
end EV
/-! EvI: enumerate and zip over lists and tuples in any mix. -/
namespace EV
open PySem PySem.Spec PyProof.Rows L2
open Sem (wp)

/-! ### enumerate(v) begins -/
theorem meets_enumerate_newB1 {v : Value} {o : Obj} {H : Heap → Prop} (B : Begins v o H) :
    Meets (Builtin.«enumerate.__new__» ⟨[.type "enumerate", v], []⟩) (fun _ R s => H s.heap ∧
      R (.ok (.ret (.ref (s.heap.push o).objs.size))) { s with heap := (s.heap.push o).push { cls := .type "enumerate", data := .fields #[.none, .bool false, .ref s.heap.objs.size, rawInt 0, .none, .none] } }) :=
  .of_wp fun prog w A R s h => by
    obtain ⟨hp, g, d, tk, os⟩ := s; obtain ⟨h1, h⟩ := h
    have hsub := PySem.sub_enumerate
    have q1 : ∀ {A' : Around} {E : Value → Shared → Prop} {Q : Value → Shared → Prop}, Q (.ref hp.objs.size) ⟨hp.push o, g, d, tk, os⟩ → wpAny (model prog w) A' (pyIter v) Q E ⟨hp, g, d, tk, os⟩ :=
      fun q => B.iter prog w _ _ ⟨hp, g, d, tk, os⟩ _ h1 q
    wp_walk using q1
    refine wpAny_stack_any fun st => wpAny_pure ?_
    split
    · rename_i c _ _ _ _ _
      cases (c == Value.type "enumerate")
      · wp_walk using q1
        exact ⟨_, rfl, h⟩
      · wp_walk using q1
        exact ⟨_, rfl, h⟩
    · wp_walk using q1
      exact ⟨_, rfl, h⟩
section
variable {prog : Program} {w : World} {A : Around} {E : Value → Shared → Prop} {s : Shared}
theorem enum_begins1 {v : Value} {o : Obj} {H : Heap → Prop} {Q : Value → Shared → Prop} (B : Begins v o H) (h1 : H s.heap)
    (h : ∀ h', IsEnum h' (s.heap.objs.size + 1) s.heap.objs.size 0 .none → h'.get? s.heap.objs.size = some o → h'.objs.size = s.heap.objs.size + 2 →
      (∀ b o, s.heap.get? b = some o → h'.get? b = some o) → Q (.ref (s.heap.objs.size + 1)) { s with heap := h' }) :
    wpAny (model prog w) A (call (.type "enumerate") [v]) Q E s := by
  refine callType_new F.called_enumerate (by decide) (F.typeCall_enumerate_1 _) (F.newCall_enumerate_1 _) (fun obj => F.args_object_init_2 obj _) F.entry_enumerate_new
    (meets_enumerate_newB1 B) ⟨h1, ?_⟩
  have hz : (s.heap.push o).objs.size = s.heap.objs.size + 1 := Heap.size_push ..
  show _ ∧ _
  rw [hz]
  have he : IsEnum ((s.heap.push o).push { cls := .type "enumerate", data := .fields #[.none, .bool false, .ref s.heap.objs.size, rawInt 0, .none, .none] }) (s.heap.objs.size + 1) s.heap.objs.size 0 .none := by
    have := Heap.get?_push_size (s.heap.push o) (o := { cls := .type "enumerate", data := .fields #[.none, .bool false, .ref s.heap.objs.size, rawInt 0, .none, .none] }) rfl
    rw [hz] at this; exact this
  refine ⟨⟨_, he, rfl⟩, h _ he (Heap.get?_push_of_some _ (Heap.get?_push_size _ B.free)) (by rw [Heap.size_push, hz]) fun b o x => Heap.get?_push_of_some _ (Heap.get?_push_of_some _ x)⟩
end

/-! ### a list (false) or a tuple (true) -/
def SqK (tp : Bool) (K : PySem.W.Frag) (H : Hp) (a : Addr) (xs : List V) : Prop := match tp with
  | true => SqT K H a xs
  | false => SqL K H a xs
def InK (tp : Bool) (h : Heap) (a : Addr) (its : Array Value) : Prop := match tp with
  | true => h.IsTuple a its
  | false => h.IsList a its
def ItK (tp : Bool) (it a : Addr) (i : Nat) (h : Heap) : Prop := match tp with
  | true => h.IsTupleIter it a i
  | false => h.IsListIter it a i
def obK (tp : Bool) (a : Addr) : Obj := match tp with
  | true => { cls := .type "tuple_iterator", data := .fields #[.ref a, .int 0 0] }
  | false => { cls := .type "list_iterator", data := .fields #[.ref a, .int 0 0] }
section
variable {X : Cx} {pins : List (Addr × Obj)} {σ : L2.St} {H : Hp} {s : Shared} {a it : Addr} {xs ys : List V} {tp : Bool} {h h' : Heap} {i : Nat}
theorem sqK_of (I : Inv X pins σ H s) (q : SqK tp X.K H a xs) : ∃ its : List Value, Vals xs its ∧ InK tp s.heap a its.toArray := by
  cases tp with
  | true => obtain ⟨its, r, p, _⟩ := I.tuple q; exact ⟨its, r, p⟩
  | false => obtain ⟨its, r, p, _⟩ := I.list q; exact ⟨its, r, p.isList⟩
theorem sqK_inj (I : Inv X pins σ H s) (q : SqK tp X.K H a xs) (q' : SqK tp X.K H a ys) : xs = ys := by
  cases tp with
  | true => exact I.tuple_inj q q'
  | false => exact I.list_inj q q'
theorem inK_lt {its : Array Value} (q : InK tp h a its) : a < h.objs.size := by
  cases tp with
  | true => obtain ⟨o, e, _⟩ := q; exact Heap.lt_size e
  | false => obtain ⟨o, e, _⟩ := q; exact Heap.lt_size e
theorem itK_at (q : ItK tp it a i h) (k : ∀ o, h.get? it = some o → h'.get? it = some o) : ItK tp it a i h' := by
  cases tp with
  | true => exact Heap.IsTupleIter.at q k
  | false => exact Heap.IsListIter.at q k
theorem itK_obj (q : ItK tp it a i h) : ∃ o, h.get? it = some o ∧ ∀ v, o.data ≠ .cell v := by
  cases tp with
  | true => obtain ⟨o, e, c, d⟩ := q; exact ⟨o, e, fun v z => by rw [d] at z; cases z⟩
  | false => obtain ⟨o, e, c, d⟩ := q; exact ⟨o, e, fun v z => by rw [d] at z; cases z⟩
theorem itK_new (e : h.get? it = some (obK tp a)) : ItK tp it a 0 h := by
  cases tp with
  | true => exact ⟨_, e, rfl, rfl⟩
  | false => exact ⟨_, e, rfl, rfl⟩
theorem beginsK (tp : Bool) (a : Addr) (its : Array Value) : Begins (.ref a) (obK tp a) (fun h => InK tp h a its) := by
  cases tp with
  | true => exact begins_tuple a its
  | false => exact begins_list a its
theorem drawsK {prog : Program} {w : World} {A : Around} (hh : A.handled = none) (hne : a ≠ it) (its : Array Value) :
    Draws prog w A it [it, a] its.size (fun i v => its[i]? = some v) (fun i h => ItK tp it a i h ∧ InK tp h a its) := by
  cases tp with
  | true => exact Draws.tuple hh it a hne its
  | false => exact Draws.list hh it a hne its
end

/-! ### enumerate -/
def IteK (tp : Bool) (K : PySem.W.Frag) (a : Addr) : It :=
  ⟨fun i H => ∃ (xs : List V) (x : V), SqK tp K H a xs ∧ xs[i]? = some x, fun i H v H' => ∃ T x, v = .ref T ∧ H T = none ∧ H' = upd H T (.tup [.int (i : Nat), x]) ∧ ∀ xs, SqK tp K H a xs → xs[i]? = some x,
    fun i H => ∃ xs : List V, SqK tp K H a xs ∧ xs.length = i⟩
theorem turn_enumK {tp : Bool} {P : Program} {w : World} {K : PySem.W.Frag} {elts : List Expr} {kk : Nat} {tpos : Pos} (a e it : Addr) :
    Turn P w K (.Tuple elts kk tpos) (IteK tp K a) [e, it] e (fun i h => (∃ old, IsEnum h e it ((i : Nat) : Int) old) ∧ ItK tp it a i h ∧ e ≠ it ∧ a ≠ it ∧ a ≠ e) where
  mem := by simp
  obj := fun i h st b hb => by
    obtain ⟨⟨old, he⟩, hit, _⟩ := st
    have e' : b = e ∨ b = it := by simpa using hb
    rcases e' with z | z
    · rw [z]; exact ⟨_, he, fun v q => nomatch q⟩
    · rw [z]; exact itK_obj hit
  keep := fun i h h' st k => let ⟨⟨old, he⟩, hi, hne⟩ := st; ⟨⟨old, k e (by simp) _ he⟩, itK_at hi fun o q => k it (by simp) o q, hne⟩
  item := by
    intro X hP hw hK hc i pins s σ H E I hf st hg
    subst hP hw hK
    obtain ⟨⟨old, he⟩, hit, hne, hai, hae⟩ := st
    obtain ⟨xs, x, hq, hx⟩ := hg
    obtain ⟨its, rv, p⟩ := sqK_of I hq
    obtain ⟨u, hu, ru⟩ := rv.get hx
    have hel : e < s.heap.objs.size := Heap.lt_size he
    have hil : it < s.heap.objs.size := by obtain ⟨_, q, _⟩ := itK_obj hit; exact Heap.lt_size q
    have hal := inK_lt p
    have hlt : i < its.toArray.size := by
      have := (List.getElem?_eq_some_iff.mp hu).1
      rw [List.size_toArray]; exact this
    refine wpAny_pyNext_enum_itemC (drawsK (A := X.A.in1) (I.ok.hd hc) hai its.toArray) he ⟨hit, p⟩ hlt hne (by simp; exact ⟨hne, Ne.symm hae⟩) fun y h' tk hy ho hit' hT hsz hk => ?_
    have hyu : y = u := by simpa [hu] using hy.symm
    subst hyu
    refine ⟨_, rfl, wpAny_letOwnedTupleGo_enum (s := { s with heap := h', toks := tk + 1 }) ho fun h'' he' sb => ?_⟩
    have hT2 : h''.get? s.heap.objs.size = some { cls := .type "tuple", data := .seq #[.int i tk, y] } := (sb.2 _ (Nat.ne_of_gt hel)).trans hT
    have new : ObjOk X.prog X.w (upd H s.heap.objs.size (.tup [.int (i : Nat), x])) h'' s.heap.objs.size (.tup [.int (i : Nat), x]) :=
      ⟨by show 2 ≤ sizeLine; decide, [.int i tk, y], .cons ⟨_, rfl⟩ (.cons ru .nil), ⟨_, hT2, rfl, _, rfl⟩⟩
    have I1 : Inv X pins σ (upd H s.heap.objs.size (.tup [.int (i : Nat), x])) { s with heap := h'', toks := tk + 1 } :=
      I.turnedNew (ch := [e, it]) (fun b ob hb q => (sb.2 b (fun z => hb (by simp [z]))).trans (hk b ob (fun z => hb (by simp [z])) (fun z => hb (by simp [z])) q)) hf (Nat.le_refl _) new
    refine ⟨.ref s.heap.objs.size, _, I1, rfl, ⟨_, x, rfl, I.hok.fresh (Nat.le_refl _), rfl, fun ys hy => by rw [sqK_inj I hy hq]; exact hx⟩, ⟨⟨y, ?_⟩, itK_at hit'.1 fun o q => (sb.2 it (Ne.symm hne)).trans q, hne, hai, hae⟩, fun b hb => ?_⟩
    · have e1 : ((i + 1 : Nat) : Int) = (i : Int) + 1 := by omega
      rw [e1]; exact he'
    · have hb' : b < s.heap.objs.size := by
        have e' : b = e ∨ b = it := by simpa using hb
        rcases e' with z | z
        · rw [z]; exact hel
        · rw [z]; exact hil
      rw [upd_ne (Nat.ne_of_lt hb')]
      exact (hf b hb).1
  done := by
    intro X hP hw hK hc i pins s σ H E I hf st hg
    subst hP hw hK
    obtain ⟨⟨old, he⟩, hit, hne, hai, hae⟩ := st
    obtain ⟨xs, hq, hx⟩ := hg
    obtain ⟨its, rv, p⟩ := sqK_of I hq
    obtain ⟨f0, f1, f2, f3, f4, f5⟩ := hf it (by simp)
    have hl := rv.length
    have hn : i = its.toArray.size := by rw [List.size_toArray]; omega
    subst hn
    exact wpAny_pyNext_enum_endD (drawsK (A := X.A.in1) (I.ok.hd hc) hai its.toArray) he ⟨hit, p⟩ fun h' eb => ⟨rfl, I.turned (t' := s.toks) (fun b o hb q => eb b o hb q) f0 f1 f3 f4 f5⟩
  self := fun A i s Q E st h => let ⟨⟨_, he⟩, _⟩ := st; wpAny_pyIter_enum he h
def iEnumK (K : PySem.W.Frag) (ta : TA) : TI := fun σ H R => ta σ H fun vs H1 => ∃ tp a xs, vs = [.ref a] ∧ SqK tp K H1 a xs ∧ R (IteK tp K a) H1
theorem pi_enumK {X : Cx} {e : Expr} {ta : TA} {p pos tpos : Pos} {elts : List Expr} {kk : Nat} (hg : Gl X "enumerate") (hm : X.mg "enumerate" = none) (ha : PA X [e] ta) (hs : starEach [e] X.env = [(false, eval e X.env)] := by rfl) :
    PI X (.Tuple elts kk tpos) (.Call (.Name "enumerate" p) [e] [] pos) (iEnumK X.K ta) := by
  refine ⟨fun pins s σ H R I h => ?_⟩
  refine Call_ (ld_blt I hg hm boot_enumerate (PyProof.Rows.callWith_type1 (thn (ha.run pos pins s σ H _ I h) fun us s1 ⟨vs, H1, I1, r1, q1⟩ => ?_) hs rfl))
  obtain ⟨tp, a, xs, ex, hq, q⟩ := q1
  subst ex
  cases r1 with
  | cons r rr =>
    cases rr
    cases r
    obtain ⟨its, rv, p'⟩ := sqK_of I1 hq
    have hal := inK_lt p'
    refine enum_begins1 (beginsK tp a its.toArray) p' fun h' he hit hsz hk => wpAny_pyIter_enum he ?_
    have I2 : Inv X pins σ H1 { s1 with heap := h' } := I1.kept (t' := s1.toks) hk
    refine ⟨s1.heap.objs.size + 1, [s1.heap.objs.size + 1, s1.heap.objs.size], _, _, H1, rfl, I2, turn_enumK a (s1.heap.objs.size + 1) s1.heap.objs.size, ⟨⟨.none, he⟩, itK_new hit, Nat.succ_ne_self _, Nat.ne_of_lt hal, Nat.ne_of_lt (Nat.lt_succ_of_lt hal)⟩, fun b hb => ?_, q⟩
    have e' : b = s1.heap.objs.size + 1 ∨ b = s1.heap.objs.size := by simpa using hb
    have hle : s1.heap.objs.size ≤ b := by
      rcases e' with z | z
      · rw [z]; exact Nat.le_add_right _ _
      · rw [z]; exact Nat.le_refl _
    exact I1.fpOk hle (I1.hok.fresh hle)

/-! ### zip -/
def ItzK (tp tq : Bool) (K : PySem.W.Frag) (a b : Addr) : It :=
  ⟨fun i H => ∃ (xs ys : List V) (x y : V), SqK tp K H a xs ∧ SqK tq K H b ys ∧ xs[i]? = some x ∧ ys[i]? = some y,
    fun i H v H' => ∃ T x y, v = .ref T ∧ H T = none ∧ H' = upd H T (.tup [x, y]) ∧ (∀ xs, SqK tp K H a xs → xs[i]? = some x) ∧ ∀ ys, SqK tq K H b ys → ys[i]? = some y,
    fun i H => ∃ xs ys : List V, SqK tp K H a xs ∧ SqK tq K H b ys ∧ i = min xs.length ys.length⟩
/-- the cells of a zip over a, b -/
structure ZpK (z TI TO i1 i2 a b : Addr) : Prop where
  S : ZipSep2 z TI TO i1 i2 [i1, a] [i2, b]
  a1 : a ≠ i1
  b2 : b ≠ i2
theorem turn_zipK {tp tq : Bool} {P : Program} {w : World} {K : PySem.W.Frag} {elts : List Expr} {kk : Nat} {tpos : Pos} {a b z TI TO i1 i2 : Addr} (D : ZpK z TI TO i1 i2 a b) :
    Turn P w K (.Tuple elts kk tpos) (ItzK tp tq K a b) [z, TI, TO, i1, i2] z (fun i h => IsZip h z TI TO .none ∧ IsTupOf2 h TI (.ref i1) (.ref i2) ∧ (∃ x y, IsTupOf2 h TO x y) ∧ ItK tp i1 a i h ∧ ItK tq i2 b i h) where
  mem := by simp
  obj := fun i h st c hc => by
    obtain ⟨hz, hTI, ⟨x, y, hTO⟩, h1, h2⟩ := st
    have e' : c = z ∨ c = TI ∨ c = TO ∨ c = i1 ∨ c = i2 := by simpa using hc
    rcases e' with q | q | q | q | q
    · rw [q]; exact ⟨_, hz, fun v q => nomatch q⟩
    · rw [q]; exact ⟨_, hTI, fun v q => nomatch q⟩
    · rw [q]; exact ⟨_, hTO, fun v q => nomatch q⟩
    · rw [q]; exact itK_obj h1
    · rw [q]; exact itK_obj h2
  keep := fun i h h' st k => by
    obtain ⟨hz, hTI, ⟨x, y, hTO⟩, h1, h2⟩ := st
    exact ⟨k z (by simp) _ hz, k TI (by simp) _ hTI, ⟨x, y, k TO (by simp) _ hTO⟩, itK_at h1 fun o q => k i1 (by simp) o q, itK_at h2 fun o q => k i2 (by simp) o q⟩
  item := by
    intro X hP hw hK hc i pins s σ H E I hf st hg
    subst hP hw hK
    obtain ⟨hz, hTI, ⟨x0, y0, hTO⟩, h1, h2⟩ := st
    obtain ⟨xs, ys, x, y, hqx, hqy, hx, hy⟩ := hg
    obtain ⟨its, rv, p⟩ := sqK_of I hqx
    obtain ⟨its2, rv2, p2⟩ := sqK_of I hqy
    obtain ⟨u, hu, ru⟩ := rv.get hx
    obtain ⟨u2, hu2, ru2⟩ := rv2.get hy
    have hzl : z < s.heap.objs.size := Heap.lt_size hz
    have hlt1 : i < its.toArray.size := by rw [List.size_toArray]; exact (List.getElem?_eq_some_iff.mp hu).1
    have hlt2 : i < its2.toArray.size := by rw [List.size_toArray]; exact (List.getElem?_eq_some_iff.mp hu2).1
    refine wpAny_pyNext_zipD2_item D.S (drawsK (A := X.A.in1) (I.ok.hd hc) D.a1 its.toArray) (drawsK (A := X.A.in1) (I.ok.hd hc) D.b2 its2.toArray) hz hTI hTO ⟨h1, p⟩ ⟨h2, p2⟩ hlt1 hlt2 fun y1 y2 h' tk e1 e2 z' TO' st1 st2 hT hsz hk => ?_
    have h1u : y1 = u := by simpa [hu] using e1.symm
    have h2u : y2 = u2 := by simpa [hu2] using e2.symm
    subst h1u h2u
    refine ⟨_, rfl, wpAny_letOwnedTupleGo_zip (s := { s with heap := h', toks := tk }) z' fun h'' z'' sb => ?_⟩
    have hT2 : h''.get? s.heap.objs.size = some { cls := .type "tuple", data := .seq #[y1, y2] } := (sb.2 _ (Nat.ne_of_gt hzl)).trans hT
    have new : ObjOk X.prog X.w (upd H s.heap.objs.size (.tup [x, y])) h'' s.heap.objs.size (.tup [x, y]) :=
      ⟨by show 2 ≤ sizeLine; decide, [y1, y2], .cons ru (.cons ru2 .nil), ⟨_, hT2, rfl, _, rfl⟩⟩
    have I1 : Inv X pins σ (upd H s.heap.objs.size (.tup [x, y])) { s with heap := h'', toks := tk } :=
      I.turnedNew (ch := [z, TI, TO, i1, i2]) (fun c o hb q => (sb.2 c (fun q' => hb (by simp [q']))).trans (hk c o (fun q' => hb (by simp [q'])) (fun q' => hb (by simp [q'])) (fun q' => hb (by simp [q'])) (fun q' => hb (by simp [q'])) q)) hf (Nat.le_refl _) new
    refine ⟨.ref s.heap.objs.size, _, I1, rfl, ⟨_, x, y, rfl, I.hok.fresh (Nat.le_refl _), rfl, fun l hl => by rw [sqK_inj I hl hqx]; exact hx, fun l hl => by rw [sqK_inj I hl hqy]; exact hy⟩, ⟨z'', ?_, ⟨y1, y2, ?_⟩, ?_, ?_⟩, fun c hcm => ?_⟩
    · exact (sb.2 _ D.S.TIz).trans (hk _ _ D.S.TIz D.S.TITO D.S.TIi1 D.S.TIi2 hTI)
    · exact (sb.2 _ D.S.TOz).trans TO'
    · exact itK_at st1.1 fun o q => (sb.2 _ (Ne.symm D.S.zi1)).trans q
    · exact itK_at st2.1 fun o q => (sb.2 _ (Ne.symm D.S.zi2)).trans q
    · have hlt : c < s.heap.objs.size := by
        have e' : c = z ∨ c = TI ∨ c = TO ∨ c = i1 ∨ c = i2 := by simpa using hcm
        rcases e' with q | q | q | q | q
        · rw [q]; exact hzl
        · rw [q]; exact Heap.lt_size hTI
        · rw [q]; exact Heap.lt_size hTO
        · rw [q]; obtain ⟨_, e1, _⟩ := itK_obj h1; exact Heap.lt_size e1
        · rw [q]; obtain ⟨_, e2, _⟩ := itK_obj h2; exact Heap.lt_size e2
      rw [upd_ne (Nat.ne_of_lt hlt)]
      exact (hf c hcm).1
  done := by
    intro X hP hw hK hc i pins s σ H E I hf st hg
    subst hP hw hK
    obtain ⟨hz, hTI, ⟨x0, y0, hTO⟩, h1, h2⟩ := st
    obtain ⟨xs, ys, hqx, hqy, hend⟩ := hg
    obtain ⟨its, rv, p⟩ := sqK_of I hqx
    obtain ⟨its2, rv2, p2⟩ := sqK_of I hqy
    have l1 := rv.length
    have l2 := rv2.length
    have s1 : its.toArray.size = xs.length := by rw [List.size_toArray]; omega
    have s2 : its2.toArray.size = ys.length := by rw [List.size_toArray]; omega
    exact wpAny_pyNext_zipD2_end D.S (drawsK (A := X.A.in1) (I.ok.hd hc) D.a1 its.toArray) (drawsK (A := X.A.in1) (I.ok.hd hc) D.b2 its2.toArray) hz hTI hTO ⟨h1, p⟩ ⟨h2, p2⟩ (by rw [s1]; omega) (by rw [s2]; omega) (by rw [s1, s2]; omega) fun h' tk hk => ⟨rfl, I.turnedL (ch := [z, TI, TO, i1, i2]) (fun c o hb q =>
      hk c o (fun q' => hb (by simp [q'])) (fun q' => hb (by simp [q'])) (fun q' => hb (by simp [q'])) (fun q' => hb (by simp [q'])) q) hf⟩
  self := fun A i s Q E st h => wpAny_pyIter_zip st.1 h
def iZipK (K : PySem.W.Frag) (ta : TA) : TI := fun σ H R => ta σ H fun vs H1 => ∃ tp tq a b xs ys, vs = [.ref a, .ref b] ∧ SqK tp K H1 a xs ∧ SqK tq K H1 b ys ∧ R (ItzK tp tq K a b) H1
theorem pi_zipK {X : Cx} {e e2 : Expr} {ta : TA} {p pos tpos : Pos} {elts : List Expr} {kk : Nat} (hg : Gl X "zip") (hm : X.mg "zip" = none) (ha : PA X [e, e2] ta)
    (hs : starEach [e, e2] X.env = (false, eval e X.env) :: starEach [e2] X.env := by rfl) (hpl : (backTo pos (starEach [e2] X.env)).any (·.1) = false := by rfl) :
    PI X (.Tuple elts kk tpos) (.Call (.Name "zip" p) [e, e2] [] pos) (iZipK X.K ta) := by
  refine ⟨fun pins s σ H R I h => ?_⟩
  refine Call_ (ld_blt I hg hm PyProof.Rows.boot_zip (PyProof.Rows.callWith_type1 (thn (ha.run pos pins s σ H _ I h) fun us s1 ⟨vs, H1, I1, r1, q1⟩ => ?_) hs hpl))
  obtain ⟨tp, tq, a, b, xs, ys, ex, hqx, hqy, q⟩ := q1
  subst ex
  cases r1 with
  | cons r rr =>
    cases rr with
    | cons r' rr =>
      cases rr
      cases r
      cases r'
      have fresh5 : ∀ c, c ∈ [s1.heap.objs.size + 4, s1.heap.objs.size + 2, s1.heap.objs.size + 3, s1.heap.objs.size, s1.heap.objs.size + 1] → FpOk X pins H1 c := fun c hcm => by
        have e' : c = s1.heap.objs.size + 4 ∨ c = s1.heap.objs.size + 2 ∨ c = s1.heap.objs.size + 3 ∨ c = s1.heap.objs.size ∨ c = s1.heap.objs.size + 1 := by simpa using hcm
        have hle : s1.heap.objs.size ≤ c := by
          rcases e' with z | z | z | z | z
          · rw [z]; exact Nat.le_add_right _ _
          · rw [z]; exact Nat.le_add_right _ _
          · rw [z]; exact Nat.le_add_right _ _
          · rw [z]; exact Nat.le_refl _
          · rw [z]; exact Nat.le_add_right _ _
        exact I1.fpOk hle (I1.hok.fresh hle)
      obtain ⟨its, rv, p1⟩ := sqK_of I1 hqx
      obtain ⟨its2, rv2, p2⟩ := sqK_of I1 hqy
      have hal := inK_lt p1
      have hbl := inK_lt p2
      refine zip_begins2 (beginsK tp a its.toArray) (beginsK tq b its2.toArray) p1 p2 fun h' hz hTI hTO h1 h2 hsz hk => wpAny_pyIter_zip hz ?_
      have I2 : Inv X pins σ H1 { s1 with heap := h' } := I1.kept (t' := s1.toks) hk
      exact ⟨s1.heap.objs.size + 4, [s1.heap.objs.size + 4, s1.heap.objs.size + 2, s1.heap.objs.size + 3, s1.heap.objs.size, s1.heap.objs.size + 1], _, _, H1, rfl, I2,
        turn_zipK ⟨zip_sep2 (fp1 := [a]) (fp2 := [b]) (by simpa using hal) (by simpa using hbl), Nat.ne_of_lt hal, Nat.ne_of_lt (Nat.lt_succ_of_lt hbl)⟩, ⟨hz, hTI, ⟨_, _, hTO⟩, itK_new h1, itK_new h2⟩, fresh5, q⟩
section
variable {K : PySem.W.Frag} {a b : Addr} {xs ys : List V} {tp tq : Bool}
theorem walk_enumK : Walk (IteK tp K a) xs.length (fun H => SqK tp K H a xs) (YPair (fun i => some (.int (i : Nat))) (fun i => xs[i]?)) := by
  refine ⟨fun i _ hi q => ⟨xs, xs[i], q, by simp [hi]⟩, fun _ q => ⟨xs, q, rfl⟩, fun i H v H' _ q y => ?_⟩
  obtain ⟨T, x, h1, h2, h3, h4⟩ := y
  exact ⟨T, .int (i : Nat), x, h1, h2, h3, rfl, h4 xs q⟩
theorem walk_zipK {n : Nat} (hn : n = min xs.length ys.length) : Walk (ItzK tp tq K a b) n (fun H => SqK tp K H a xs ∧ SqK tq K H b ys) (YPair (fun i => xs[i]?) (fun i => ys[i]?)) := by
  subst hn
  refine ⟨fun i _ hi q => ?_, fun _ q => ⟨xs, ys, q.1, q.2, rfl⟩, fun i H v H' _ q y => ?_⟩
  · have h1 : i < xs.length := by omega
    have h2 : i < ys.length := by omega
    exact ⟨xs, ys, xs[i], ys[i], q.1, q.2, by simp [h1], by simp [h2]⟩
  · obtain ⟨T, x, z, h1, h2, h3, h4, h5⟩ := y
    exact ⟨T, x, z, h1, h2, h3, h4 xs q.1, h5 ys q.2⟩
end
end EV
/-! EvT: sorted of rows of ints (the first one empty), sorted(set(row)). -/
namespace EV
open PySem PySem.W PySem.Calls PyProof.Rows

/-- v is a tuple of these numbers -/
def IsRow (h : Heap) (v : Value) (ns : List Int) : Prop := ∃ (a : Addr) (dd : Option Addr) (items : Array Value) (n : Nat) (sl : Array (Option Value)), v = .ref a ∧ h.get? a = some { cls := .type "tuple", dict := dd, data := .seq items n, slots := sl } ∧ IntsAre items.toList ns
theorem IsRow.keeps {h h' : Heap} {v : Value} {ns : List Int} (x : IsRow h v ns) (k : ∀ b o, v = .ref b → h.get? b = some o → h'.get? b = some o) : IsRow h' v ns := by
  obtain ⟨a, dd, items, n, sl, e, g, i⟩ := x
  exact ⟨a, dd, items, n, sl, e, k _ _ e g, i⟩
theorem IsRow.type {M : Model} {h : Heap} {v : Value} {ns : List Int} (x : IsRow h v ns) : Looks M h (typeOf v) (.type "tuple") := by
  obtain ⟨a, dd, items, n, sl, rfl, g, i⟩ := x
  exact (Looks.ld g).andThen .now
section
variable {prog : Program} {w : World} {A : Around} {E : Value → Shared → Prop} {s : Shared}
theorem row_lt {v u : Value} {ns ms : List Int} {Q : Bool → Shared → Prop} (hu : A.units < cLine) (hv : IsRow s.heap v ns) (hw : IsRow s.heap u ms) (h : Q (HT.lexLt ns ms) s) : wpAny (model prog w) A (keyLt' oneType' v u) Q E s := by
  have iu : ∀ M : Model, Looks M s.heap (isInstance u (.type "tuple")) true := fun M => (hw.type (M := M)).andThen (.of_pure (by kernel_rfl))
  obtain ⟨a, dd, items, n, sl, rfl, ga, ia⟩ := hv
  obtain ⟨b, dd2, items2, n2, sl2, rfl, gb, ib⟩ := hw
  rw [keyLt'_oneType, oneLt'_eq]
  simp only [if_true]
  refine wpAny_bind (wpAny_cRoomFor hu ?_)
  have ht : s.TypeIs (.ref a) "tuple" := ⟨_, ga, rfl⟩
  refine wpAny_bind (wpAny_callSpecialIfBound?_slot ht F.slot_tuple_lt (call_meets F.slot_tuple_lt ht F.entry_tuple_lt (F.args_tuple_lt_2 _ _) (NtL.nt_lt_ints a b (.type "tuple") (.type "tuple") items items2 n n2 dd dd2 sl sl2 ns ms ia ib) ⟨ga, gb, iu, ?_⟩))
  exact wpAny_truthy_bool h
theorem mapM_by {α β : Type} {M : Model} {f : α → Sem β} {P : α → β → Prop} : ∀ (l : List α) {Q : List β → Shared → Prop}, (∀ v ∈ l, ∀ (Q' : β → Shared → Prop), (∀ r, P v r → Q' r s) → wpAny M A (f v) Q' E s) → (∀ rs : List β, List.length rs = l.length → (∀ (i : Nat) v, l[i]? = some v → ∃ r, (rs : List β)[i]? = some r ∧ P v r) → Q rs s) → wpAny M A (l.mapM f) Q E s
  | [], _, _, h => by rw [List.mapM_nil]; exact wpAny_pure (h [] rfl fun i v e => by simp at e)
  | x :: l, Q, hf, h => by
    rw [List.mapM_cons]
    refine wpAny_bind (hf x (.head _) _ fun r pr => wpAny_bind (mapM_by l (fun v hv => hf v (.tail _ hv)) fun rs hl hr => wpAny_pure (h (r :: rs) (by simp [hl]) fun i v e => ?_)))
    cases i with
    | zero => simp at e; subst e; exact ⟨r, by simp, pr⟩
    | succ i => simp at e ⊢; exact hr i v e
theorem row_kind {M : Model} {vs : List Value} {k : Value → List Int} {v0 : Value} {rest : List Value} {Q : SortKind → Shared → Prop} (e0 : vs = v0 :: rest) (h0 : k v0 = []) (hv : ∀ v ∈ vs, IsRow s.heap v (k v)) (h : Q oneType' s) : wpAny M A (keyKind' vs.toArray) Q E s := by
  subst e0
  rw [keyKind'_eq, List.mapM_toArray, map_eq_pure_bind]
  refine wpAny_bind (wpAny_bind (mapM_by (P := fun v (r : Option Value) => v = v0 → r = none) _ (fun v hm Q' hq => ?_) fun rs hl hr => wpAny_pure ?_))
  · rw [kas_first_eq]
    refine wpAny_bind ((hv v hm).type.here ?_)
    rw [if_neg (by decide)]
    obtain ⟨a, dd, items, n, sl, rfl, g, i⟩ := hv v hm
    refine wpAny_bind (listItems_at g rfl (wpAny_pure (hq _ fun e => ?_)))
    have hk : k (.ref a) = [] := by rw [e]; exact h0
    rw [hk] at i
    have : items.toList = [] := by generalize items.toList = l at i; cases i; rfl
    have : items = #[] := by simpa using this
    subst this
    rfl
  · obtain ⟨r, hr0, hn⟩ := hr 0 v0 (by simp)
    have hr0 : rs[0]? = some none := by rw [hr0, hn rfl]
    have ha : (rs.toArray.all (·.isSome)) = false := by
      rw [List.all_toArray]
      cases rs with
      | nil => simp at hr0
      | cons x xs => simp at hr0; subst hr0; simp
    rw [ha, if_neg (by simp), if_neg (by simp [hr0])]
    rw [oneTypeOnly'_eq, List.mapM_toArray, map_eq_pure_bind]
    refine wpAny_bind (wpAny_bind (wpAny_bind (kas_mapM (r := Value.type "tuple") _ (fun v hm Q' hq => (hv v hm).type.here hq) (wpAny_pure ?_))))
    have hall : ((List.map (fun _ => Value.type "tuple") (v0 :: rest)).toArray.all fun x => x == Value.type "tuple") = true := by
      simp only [List.all_toArray, List.all_map, List.all_eq_true]
      intro _ _
      rfl
    have h0 : (List.map (fun _ => Value.type "tuple") (v0 :: rest)).toArray[0]? = some (Value.type "tuple") := by simp
    rw [h0]
    simp only [hall, if_true]
    exact wpAny_pure (wpAny_pure h)
theorem row_sortable {a : Addr} {vs : List Value} {k : Value → List Int} {v0 : Value} {rest : List Value} (e0 : vs = v0 :: rest) (h0 : k v0 = []) (hu : A.units < cLine) (hv : ∀ v ∈ vs, IsRow s.heap v (k v)) (ha : ∀ v ∈ vs, v ≠ .ref a) :
    SrtO.SortableO prog w A s a vs fun v u => HT.lexLt (k v) (k u) := by
  intro h' keep
  have hv' : ∀ v ∈ vs, IsRow h' v (k v) := fun v hm => (hv v hm).keeps fun b o e g => keep b o (fun z => ha v hm (by rw [e, z])) g
  exact ⟨oneType', fun Q E hq => row_kind (s := { s with heap := h' }) e0 h0 hv' hq, fun p q hp hq => row_lt (s := { s with heap := h' }) (Q := fun r s' => s' = _ ∧ r = HT.lexLt (k p.1) (k q.1)) (E := fun _ _ => False) hu (hv' p.1 hp) (hv' q.1 hq) ⟨rfl, rfl⟩⟩
theorem ints_two : ∀ {vs : List Value} {i j : Int}, IntsAre vs [i, j] → ∃ t u, vs = [.int i t, .int j u]
  | _, _, _, .cons _ t (.cons _ u .nil) => ⟨t, u, rfl⟩
theorem IsRow.pair {h : Heap} {v : Value} {i j : Int} (x : IsRow h v [i, j]) : Srt.IsPair h v i j := by
  obtain ⟨a, dd, items, n, sl, rfl, g, ia⟩ := x
  obtain ⟨t, u, e⟩ := ints_two ia
  have e' : items = #[.int i t, .int j u] := by apply Array.toList_inj.mp; exact e
  subst e'
  exact ⟨a, _, t, u, n, rfl, g, rfl, rfl⟩
theorem two_is {l : List Int} (h : l.length = 2) : l = [l.getD 0 0, l.getD 1 0] := by
  match l, h with
  | [x, y], _ => rfl
theorem lex_two (x y x' y' : Int) : SrtO.lexB (x, y) (x', y') = HT.lexLt [x, y] [x', y'] := by
  unfold SrtO.lexB
  rw [HT.lexLt_cons, HT.lexLt_cons, HT.lexLt_nil_nil]
  by_cases h : x = x'
  · simp only [h, if_true]
    by_cases h2 : y = y'
    · simp [h2]
    · simp [h2]
  · simp only [h, if_false]
theorem pair_sortable {a : Addr} {vs : List Value} {k : Value → List Int} (h0 : 0 < vs.length) (h2 : ∀ v ∈ vs, (k v).length = 2) (hv : ∀ v ∈ vs, IsRow s.heap v (k v)) (ha : ∀ o, s.heap.get? a = some o → o.cls ≠ .type "tuple") :
    SrtO.SortableO prog w A s a vs fun v u => HT.lexLt (k v) (k u) := by
  intro h' keep
  obtain ⟨κ, g1, g2⟩ := SrtO.pairs_sortableO (prog := prog) (w := w) (A := A) (s := s) (a := a) (vs := vs) (k := fun v => ((k v).getD 0 0, (k v).getD 1 0)) h0 (fun v hm => IsRow.pair (by rw [← two_is (h2 v hm)]; exact hv v hm)) ha h' keep
  refine ⟨κ, g1, fun p q hp hq => ?_⟩
  have e : SrtO.lt2 (fun v u => HT.lexLt (k v) (k u)) p q = SrtO.lt2 (fun v u => SrtO.lexB ((k v).getD 0 0, (k v).getD 1 0) ((k u).getD 0 0, (k u).getD 1 0)) p q := by
    show HT.lexLt (k p.1) (k q.1) = SrtO.lexB _ _
    rw [lex_two, ← two_is (h2 _ hp), ← two_is (h2 _ hq)]
  rw [e]
  exact g2 p q hp hq
end

open PySem.Spec L2
/-! ### in plain Lean -/
theorem lexLt_eq' : ∀ xs ys : List Int, lexLt xs ys = HT.lexLt xs ys := lexLt_eq
theorem lex_total : ∀ xs ys : List Int, lexLt xs ys = false → lexLt ys xs = false → xs = ys
  | [], [], _, _ => rfl
  | [], _ :: _, h, _ => by simp [lexLt] at h
  | _ :: _, [], _, h => by simp [lexLt] at h
  | x :: xs, y :: ys, h1, h2 => by
    rw [lexLt] at h1 h2
    by_cases e : x = y
    · subst e
      rw [if_pos rfl] at h1 h2
      rw [lex_total xs ys h1 h2]
    · rw [if_neg e] at h1
      rw [if_neg (fun z => e z.symm)] at h2
      simp at h1 h2
      omega
theorem insL_perm (x : List Int) : ∀ l : List (List Int), (insL x l).Perm (x :: l)
  | [] => .refl _
  | y :: ys => by
    rw [insL]
    split
    · exact ((insL_perm x ys).cons y).trans (.swap x y ys)
    · exact .refl _
theorem insL_sorted (x : List Int) : ∀ l : List (List Int), l.Pairwise (fun a b => lexLt b a = false) → (insL x l).Pairwise (fun a b => lexLt b a = false)
  | [], _ => List.pairwise_singleton _ _
  | y :: ys, h => by
    rw [insL]
    obtain ⟨h1, h2⟩ := List.pairwise_cons.mp h
    split
    · rename_i c
      refine List.pairwise_cons.mpr ⟨fun z hz => ?_, insL_sorted x ys h2⟩
      rcases List.mem_cons.mp ((insL_perm x ys).mem_iff.mp hz) with e | e
      · subst e
        rw [lexLt_eq] at c ⊢
        exact NtL.lex_asym _ _ c
      · exact h1 z e
    · rename_i c
      have c : lexLt y x = false := by simpa using c
      refine List.pairwise_cons.mpr ⟨fun z hz => ?_, h⟩
      rcases List.mem_cons.mp hz with e | e
      · subst e; exact c
      · have := h1 z e
        rw [lexLt_eq] at c this ⊢
        exact NtL.lex_tr _ _ _ c this
theorem sortL_ok : ∀ l : List (List Int), (sortL l).Perm l ∧ (sortL l).Pairwise (fun a b => lexLt b a = false)
  | [] => ⟨.refl _, .nil⟩
  | x :: xs => by
    obtain ⟨h1, h2⟩ := sortL_ok xs
    exact ⟨(insL_perm x _).trans (h1.cons x), insL_sorted x _ h2⟩
theorem nub_mem (k : Int) : ∀ l : List Int, k ∈ nubI l ↔ k ∈ l
  | [] => by simp [nubI]
  | x :: xs => by
    rw [nubI]
    split
    · rename_i c
      rw [nub_mem k xs, List.mem_cons]
      refine ⟨.inr, fun h => ?_⟩
      rcases h with h | h
      · subst h; simpa using c
      · exact h
    · rw [List.mem_cons, List.mem_cons, nub_mem k xs]
theorem nub_nodup : ∀ l : List Int, (nubI l).Nodup
  | [] => by simp [nubI]
  | x :: xs => by
    rw [nubI]
    split
    · exact nub_nodup xs
    · rename_i c
      refine List.nodup_cons.mpr ⟨fun h => c ?_, nub_nodup xs⟩
      have := (nub_mem x xs).mp h
      simpa using this
theorem srs_uniq {ns ns' : List Int} (h : ns'.Pairwise (· < ·)) (hk : ∀ k, k ∈ ns' ↔ k ∈ ns) : ns' = sortI (nubI ns) := by
  obtain ⟨h1, h2⟩ := sortI_ok (nubI ns)
  have nd : ns'.Nodup := h.imp fun q => by omega
  have hp : ns'.Perm (nubI ns) := (List.perm_ext_iff_of_nodup nd (nub_nodup ns)).mpr fun k => by rw [hk k, nub_mem]
  exact PySem.W.ksm_same (hp.trans h1.symm) (h.imp fun q => by omega) h2

/-! ### as rules -/
section
variable {K : PySem.W.Frag} {g : G} {μ : List Addr} {st : Store} {H : Hp}
theorem ints_back : ∀ {ds : List D} {ns : List Int}, intsOf ds = some ns → ds = ns.map .int
  | [], ns, h => by rw [intsOf] at h; cases h; rfl
  | .int i :: ds, ns, h => by
    rw [intsOf] at h
    obtain ⟨ns', h1, rfl⟩ := Option.map_eq_some_iff.mp h
    rw [List.map_cons, ← ints_back h1]
  | .non :: _, _, h | .bl _ :: _, _, h | .str _ :: _, _, h | .tup _ :: _, _, h | .lst _ :: _, _, h | .dct _ _ :: _, _, h | .rol _ :: _, _, h | .loc _ :: _, _, h | .fn _ :: _, _, h => by simp [intsOf] at h
theorem Reps.rows : ∀ {ds : List D} {vs : List V} {nss : List (List Int)}, Reps K g μ st H ds vs → rowsOf ds = some nss → ds = nss.map rowD ∧ vs.length = nss.length ∧ ∀ (i : Nat) (v : V), vs[i]? = some v → ∃ (t : Addr) (ns : List Int), v = V.ref t ∧ nss[i]? = some ns ∧ SqT K H t (ns.map V.int)
  | _, _, nss, .nil, e => by
    rw [rowsOf] at e
    cases e
    exact ⟨rfl, rfl, fun i v h => by simp at h⟩
  | _, _, nss, .cons (d := d) r t, e => by
    cases r with
    | tup h l r =>
      rw [rowsOf] at e
      obtain ⟨ns, e1, e2⟩ := Option.bind_eq_some_iff.mp e
      obtain ⟨nss', e3, rfl⟩ := Option.map_eq_some_iff.mp e2
      obtain ⟨h1, h2, h3⟩ := Reps.rows t e3
      have hx := r.intsR e1
      subst hx
      refine ⟨?_, by simp [h2], fun i v hv => ?_⟩
      · rw [List.map_cons, ← h1, rowD]
        rw [← ints_back e1]
      · cases i with
        | zero => simp at hv; subst hv; exact ⟨_, ns, rfl, by simp, h⟩
        | succ i => rw [List.getElem?_cons_succ] at hv ⊢; exact h3 i v hv
    | _ => simp [rowsOf] at e
/-- the numbers of a tuple -/
noncomputable def keyV (K : PySem.W.Frag) (H : Hp) (v : V) : List Int := open Classical in if h : ∃ (t : Addr) (ns : List Int), v = .ref t ∧ SqT K H t (ns.map V.int) then h.choose_spec.choose else []
theorem map_int_inj : ∀ {a b : List Int}, a.map V.int = b.map V.int → a = b
  | [], [], _ => rfl
  | [], _ :: _, h => by simp at h
  | _ :: _, [], h => by simp at h
  | x :: xs, y :: ys, h => by
    rw [List.map_cons, List.map_cons] at h
    injection h with h1 h2
    injection h1 with h1
    rw [h1, map_int_inj h2]
theorem keyV_is {X : Cx} {pins : List (Addr × Obj)} {σ : L2.St} {s : Shared} (I : Inv X pins σ H s) {t : Addr} {ns : List Int} (h : SqT X.K H t (ns.map V.int)) : keyV X.K H (.ref t) = ns := by
  have q : ∃ (t' : Addr) (ns' : List Int), V.ref t = .ref t' ∧ SqT X.K H t' (ns'.map V.int) := ⟨t, ns, rfl, h⟩
  unfold keyV
  rw [dif_pos q]
  have hs := q.choose_spec.choose_spec
  generalize q.choose_spec.choose = ns1 at hs ⊢
  generalize q.choose = t1 at hs
  obtain ⟨e, z⟩ := hs
  cases e
  exact map_int_inj (I.tuple_inj z h)
end
section
variable {X : Cx} {g : G}
theorem swo_key (k : V → List Int) : SrtO.Swo fun v u => HT.lexLt (k v) (k u) := ⟨fun x y h => NtL.lex_asym _ _ h, fun x y z h1 h2 => NtL.lex_tr _ _ _ h1 h2⟩
theorem swo_keyV (k : Value → List Int) : SrtO.Swo fun v u => HT.lexLt (k v) (k u) := ⟨fun x y h => NtL.lex_asym _ _ h, fun x y z h1 h2 => NtL.lex_tr _ _ _ h1 h2⟩
theorem b_sortedT (hu : X.A.units + 65 < cLine) : CallR X (.builtin "sorted") (rBlt X.K g fun st => evBlt st .sortedT) := by
  intro pins s σ H xs us Q I r h
  obtain ⟨gl, μ, st, ds, d, R, rs, e, q⟩ := h
  match ds, e with
  | [.lst es], e =>
    simp only [evBlt, Option.bind_eq_some_iff] at e
    obtain ⟨nss, e1, e⟩ := e
    split at e
    · rename_i hf
      cases e
      obtain ⟨v, rfl, ra⟩ := one_rep rs
      obtain ⟨p, ys, rfl, h2, l1, r3⟩ := ra.seqL
      obtain ⟨hes, hlen, hrow⟩ := Reps.rows r3 e1
      obtain ⟨its, rv, hl, hz⟩ := I.list h2
      obtain ⟨u, rfl, ru⟩ := vals1 r
      obtain rfl : u = Value.ref p := ru
      have hmem : ∀ y ∈ ys, ∃ (t : Addr) (ns : List Int), y = V.ref t ∧ SqT X.K H t (ns.map V.int) := fun y hy => by
        obtain ⟨i, hi⟩ := List.getElem?_of_mem hy
        obtain ⟨t, ns, h1, _, h3⟩ := hrow i y hi
        exact ⟨t, ns, h1, h3⟩
      obtain ⟨b1, b2⟩ := refs_back rv fun y hy => let ⟨t, _, e, _⟩ := hmem y hy; ⟨t, e⟩
      have hk : ys.map (keyV X.K H) = nss := by
        apply List.ext_getElem?
        intro i
        rw [List.getElem?_map]
        cases hy : ys[i]? with
        | none =>
          have : ys.length ≤ i := List.getElem?_eq_none_iff.mp hy
          rw [List.getElem?_eq_none (by omega)]
          rfl
        | some y =>
          obtain ⟨t, ns, rfl, h3, h4⟩ := hrow i y hy
          rw [h3, Option.map_some, keyV_is I h4]
      have isrow : ∀ (h' : Heap), (∀ b o, s.heap.get? b = some o → h'.get? b = some o) → ∀ u ∈ its, IsRow h' u (keyV X.K H (backV u)) := fun h' kp u hm => by
        obtain ⟨t, rfl⟩ := b2 u hm
        have hy : V.ref t ∈ ys := by rw [b1]; exact List.mem_map.mpr ⟨_, hm, rfl⟩
        obtain ⟨t', ns, e, ht⟩ := hmem _ hy
        cases e
        obtain ⟨its2, r2, ⟨o, ho, hc, n, hd⟩, _⟩ := I.tuple ht
        obtain ⟨ocl, odi, oda, osl⟩ := o
        obtain rfl : ocl = Value.type "tuple" := hc
        obtain rfl := (show oda = _ from hd)
        show IsRow h' (.ref t) (keyV X.K H (.ref t))
        rw [keyV_is I ht]
        exact ⟨t, odi, its2.toArray, n, osl, rfl, kp _ _ ho, by simpa using ints_of_vals r2⟩
      have hz' : its.length ≤ sizeLine := by rw [← rv.length]; exact hz
      refine SrtO.sorted_ord (swo_keyV fun u => keyV X.K H (backV u)) hl.isList hz' (fun h2 h₁ a ha kk => ?_) fun out hs hb => ?_
      · cases hits : its with
        | nil => rw [hits] at h2; simp at h2
        | cons v0 rest =>
          rw [hits] at ha
          have hrw := isrow h₁ fun b o e => (kk b o e).2
          rw [hits] at hrw
          have hkk : ys.map (keyV X.K H) = (v0 :: rest).map (fun u => keyV X.K H (backV u)) := by rw [b1, hits, List.map_map]; rfl
          rw [hk] at hkk
          by_cases hw : twos nss = true
          · refine pair_sortable (s := { s with heap := h₁ }) (by simp) (fun v hv => ?_) hrw fun o e => ?_
            · unfold twos at hw
              rw [hkk, List.all_map, List.all_eq_true] at hw
              simpa using hw v hv
            · have e' : some o = some (seqObj "list" (v0 :: rest).toArray 0) := e.symm.trans ha
              cases e'
              intro c
              exact absurd (Value.type.inj c) (by decide)
          have hf : firstNil nss = true := by rw [Bool.or_eq_true] at hf; exact hf.resolve_right hw
          refine row_sortable (s := { s with heap := h₁ }) rfl ?_ ?_ hrw fun v hv z => ?_
          · have : ys.map (keyV X.K H) = keyV X.K H (backV v0) :: (rest.map backV).map (keyV X.K H) := by rw [b1, hits]; rfl
            rw [hk] at this
            rw [this] at hf
            simpa [firstNil] using hf
          · show X.A.units + 1 + 1 < cLine
            omega
          · subst z
            obtain ⟨t, e⟩ := b2 (.ref a) (by rw [hits]; exact hv)
            cases e
            have := hrw _ hv
            obtain ⟨a', dd, items, n, sl, e, gg, _⟩ := this
            cases e
            rw [ha] at gg
            have := congrArg (fun x => x.map Obj.cls) gg
            exact absurd this (by simp [seqObj])
      · have h3 : ∀ u ∈ out, ∃ a, u = Value.ref a := fun u hm => b2 u (hb.perm.mem_iff.mp hm)
        have hperm : (out.map backV).Perm ys := by rw [b1]; exact hb.perm.map backV
        have hkey : (out.map backV).map (keyV X.K H) = sortL nss := by
          obtain ⟨k1, k2⟩ := sortL_ok nss
          refine List.Perm.eq_of_pairwise (le := fun a b => lexLt b a = false) (fun a b _ _ h1 h2 => lex_total a b h2 h1) ?_ k2 ?_
          · rw [List.pairwise_map, List.pairwise_map]
            refine List.Pairwise.imp ?_ hs
            intro a b q
            rw [lexLt_eq]
            exact q
          · have := hperm.map (keyV X.K H)
            rw [hk] at this
            exact this.trans k1.symm
        have hfr : H (s.heap.objs.size + 1) = none := I.hok.fresh (Nat.le_succ _)
        obtain ⟨n, hn⟩ := sortedAll_at s.heap its out.toArray
        have rr : Reps X.K (g.h gl) μ st H ((sortL nss).map rowD) (out.map backV) := by
          rw [← hkey]
          have : ∀ l : List V, (∀ y ∈ l, y ∈ ys) → Reps X.K (g.h gl) μ st H ((l.map (keyV X.K H)).map rowD) l := by
            intro l
            induction l with
            | nil => intro _; exact .nil
            | cons y l ih =>
              intro hm
              refine .cons ?_ (ih fun z hz => hm z (List.mem_cons_of_mem _ hz))
              have hy := hm y List.mem_cons_self
              obtain ⟨i, hi⟩ := List.getElem?_of_mem hy
              obtain ⟨t, ns, rfl, h4, h5⟩ := hrow i y hi
              rw [keyV_is I h5]
              obtain ⟨d, hd, rd⟩ := r3.getV hi
              rw [hes, List.getElem?_map, h4] at hd
              cases hd
              exact rd
          exact this _ fun y hy => hperm.mem_iff.mp hy
        have hl2 : ((sortL nss).map rowD).length ≤ most := by
          rw [List.length_map, (sortL_ok nss).1.length_eq, ← hlen, ← r3.length]
          exact l1
        obtain ⟨E2, R2, r2⟩ := new_lst R hfr hl2 rr
        refine ⟨.ref (s.heap.objs.size + 1), upd H (s.heap.objs.size + 1) (.lst (out.map backV)), I.laid (t' := s.toks) (fun b o e => sortedAll_old e) (Nat.le_succ _) ⟨?_, out, n, vals_back h3, hn⟩, rfl, q _ _ _ E2 R2 r2⟩
        rw [List.length_map, hb.len]
        exact hz'
    · cases e
/-- set(row) -/
theorem c_set (hc : X.calm = true) : CallR X (.type "set") (fun xs H Q => ∃ (p : Addr) (ns : List Int), xs = [.ref p] ∧ SqT X.K H p (ns.map V.int) ∧ ns.length ≤ 1000 ∧ ∀ a c, H a = none → c ≤ ns.length → Q (.ref a) (upd H a (SetO X.w a (fun j => decide (j ∈ ns)) c))) := by
  intro pins s σ H xs us Q I r h
  obtain ⟨p, ns, rfl, hq, hl, q⟩ := h
  obtain ⟨u, rfl, ru⟩ := vals1 r
  obtain rfl : u = Value.ref p := ru
  obtain ⟨its, rv, pt, hz⟩ := I.tuple hq
  have hi : IntsAre its.toArray.toList ns := ints_of_vals rv
  refine call_set_tupI ns (I.ok.hd hc) (show s.heap.IsTuple p its.toArray from pt) hi (by unfold scanBound; omega) fun h' tk c R1 hcn k => ?_
  have hfr : H s.heap.objs.size = none := I.hok.fresh (Nat.le_refl _)
  exact ⟨.ref s.heap.objs.size, upd H s.heap.objs.size (SetO X.w s.heap.objs.size (fun j => decide (j ∈ ns)) c), I.laid (t' := tk) k (Nat.le_refl _) (setO_new R1), rfl, q _ c hfr hcn⟩
end
end EV
/-! EvD: the text is held against the language; expressions are sound. -/
namespace EV
open PySem PySem.Spec PyProof.Rows L2

/-- what is known of a def's text: names by slot, scope, the defs that may be called, constants, own errors -/
structure Gm where
  N : List Str
  sc : Scope
  fnb : Option Scope := none
  fns : List (Str × Nat)
  cs : List (Str × D) := []
  cls : List Str := []
  /-- classes that are raised with a text -/
  rs : List Nat := []
  lvl : Nat
  top : Bool := true
  calm : Bool := true

def bnames : List Str := ["len", "abs", "int", "sum", "min", "max", "all", "tuple", "list", "sorted", "set", "isinstance", "range", "enumerate", "zip", "str", "bool"]
def vis (sc : Scope) (x : Str) : Bool := match sc.names.lookup x with
  | some .local | some .cell | some .free => true
  | _ => false
def glb (sc : Scope) (x : Str) : Bool := sc.names.lookup x == some .globalImplicit
/-- a name that may be stored to -/
def sto (Γ : Gm) (x : Str) : Bool := Γ.sc.names.lookup x == some .local || (Γ.sc.names.lookup x == some .cell && (match Γ.fnb with | none => true | some s => s.names.lookup x == some .cell))
def dbg (x : Str) : Bool := x == ("__debug__" : Str)
def cdc (x : Str) : Bool := x == ("__classdict__" : Str)

mutual
def D.beq : D → D → Bool
  | .non, .non => true
  | .bl a, .bl b => a == b
  | .int a, .int b => decide (a = b)
  | .str a, .str b => decide (a = b)
  | .tup a, .tup b => D.beqs a b
  | .lst a, .lst b => D.beqs a b
  | _, _ => false
def D.beqs : List D → List D → Bool
  | [], [] => true
  | a :: as, b :: bs => D.beq a b && D.beqs as bs
  | _, _ => false
end
mutual
theorem D.beq_eq : ∀ a b : D, D.beq a b = true → a = b
  | .non, b, h => by cases b <;> simp [D.beq] at h ⊢
  | .bl a, b, h => by cases b <;> simp [D.beq] at h ⊢; exact h
  | .int a, b, h => by cases b <;> simp [D.beq] at h ⊢; exact h
  | .str a, b, h => by cases b <;> simp [D.beq] at h ⊢; exact h
  | .tup a, b, h => by cases b <;> simp [D.beq] at h ⊢; exact D.beqs_eq _ _ h
  | .lst a, b, h => by cases b <;> simp [D.beq] at h ⊢; exact D.beqs_eq _ _ h
  | .dct _ _, b, h => by cases b <;> simp [D.beq] at h
  | .rol _, b, h => by cases b <;> simp [D.beq] at h
  | .loc _, b, h => by cases b <;> simp [D.beq] at h
  | .fn _, b, h => by cases b <;> simp [D.beq] at h
theorem D.beqs_eq : ∀ a b : List D, D.beqs a b = true → a = b
  | [], b, h => by cases b <;> simp [D.beqs] at h ⊢
  | x :: xs, b, h => by
    cases b with
    | nil => simp [D.beqs] at h
    | cons y ys =>
      rw [D.beqs, Bool.and_eq_true] at h
      rw [D.beq_eq _ _ h.1, D.beqs_eq _ _ h.2]
end

def conIs (d : D) : Const → Bool
  | .none => (match d with | .non => true | _ => false)
  | .bool b => (match d with | .bl a => a == b | _ => false)
  | .int i => (match d with | .int a => decide (a = i) | _ => false)
  | .str x => (match d with | .str a => decide (a = x) | _ => false)
  | _ => false
/-- a built-in's name; whether it is a class; whether it wants calm -/
def bltName : Blt → Str
  | .len => "len" | .abs => "abs" | .int => "int" | .sum => "sum" | .min1 => "min" | .max1 => "max" | .min2 => "min" | .max2 => "max" | .all => "all"
  | .tuple => "tuple" | .list => "list" | .sorted => "sorted" | .sortedT => "sorted" | .sortedSet => "sorted" | .tupRange => "tuple" | .str => "str"
def bltOk : Blt → Bool
  | .sortedSet | .tupRange | .str => false
  | _ => true

mutual
def chkTg (Γ : Gm) : Tg → Expr → Bool
  | .name i, .Name x _ => decide (Γ.N[i]? = some x) && sto Γ x
  | .tup ts, .Tuple es _ _ => Γ.calm && chkTgs Γ ts es
  | _, _ => false
def chkTgs (Γ : Gm) : Tgs → List Expr → Bool
  | .nil, [] => true
  | .cons t ts, e :: es => chkTg Γ t e && chkTgs Γ ts es
  | _, _ => false
end
def isTup : Expr → Bool
  | .Tuple _ _ _ => true
  | _ => false
def isSet : Expr → Bool
  | .Set _ _ _ => true
  | _ => false
def isStar : Expr → Bool
  | .Starred _ _ => true
  | _ => false
/-- a test of it looks at its value -/
def plainT : Expr → Bool
  | .UnaryOp .Not _ _ => false
  | .BoolOp _ _ _ => false
  | .IfExp _ _ _ _ => false
  | .Compare _ _ _ _ => false
  | _ => true
def isSlice : Expr → Bool
  | .Slice _ _ _ _ => true
  | _ => false
def ownN (N : List Str) (own : List Nat) : List (Str × Nat) := own.map fun j => (N.getD j Str.empty, j)
/-- what an assignment of a written tuple to a written tuple does: none where nothing is known; the names where the stores are swapped -/
def locN (sc : Scope) (line : Nat) : Expr → Option Str
  | .Name id pos => if sc.names.lookup id == some .local && pos.line == line then some id else none
  | _ => none
def swOpt (sc : Scope) (ts vs : List Expr) : Option (Option (List Str)) :=
  if !(ts.length == 2 || ts.length == 3) || vs.length != ts.length then some none
  else if vs.any isStar then some none
  else if (ts.filterMap (locN sc ((ts.head?.map (·.pos.line)).getD 0))).length != ts.length || (ts.filterMap (locN sc ((ts.head?.map (·.pos.line)).getD 0))).eraseDups.length != (ts.filterMap (locN sc ((ts.head?.map (·.pos.line)).getD 0))).length then some none
  else if vs.all (foldedForSure 8) then some none
  else if vs.all (constantsAlone 8) then none
  else some (some (ts.filterMap (locN sc ((ts.head?.map (·.pos.line)).getD 0))))
/-- the inside of a comprehension -/
def Gm.blk (Γ : Gm) (scope : Scope) : Gm := { Γ with sc := relS scope Γ.sc, fnb := some scope, top := false }
/-- sorted(set(e)) -/
def srsArg (Γ : Gm) : Expr → Option Expr
  | .Call (.Name x _) [.Call (.Name y _) [e] [] _] [] _ => if Γ.calm && decide (x = ("sorted" : Str)) && decide (y = ("set" : Str)) && glb Γ.sc x && glb Γ.sc y && !isStar e then some e else none
  | _ => none
/-- tuple(range(e)) -/
def trgArg (Γ : Gm) : Expr → Option Expr
  | .Call (.Name x _) [.Call (.Name y _) [e] [] _] [] _ => if Γ.calm && decide (x = ("tuple" : Str)) && decide (y = ("range" : Str)) && glb Γ.sc x && glb Γ.sc y && !isStar e then some e else none
  | _ => none
/-- {k1: e1, k2: e2}.get(e3, e4) -/
def dgtArg (k1 k2 : Str) : Expr → Option (Expr × Expr × Expr × Expr)
  | .Call (.Attribute (.Dict [some (.Constant (.str x1) _ _), some (.Constant (.str x2) _ _)] [e1, e2] _) m ap) [e3, e4] [] cp => if decide (x1 = k1) && decide (x2 = k2) && decide (k1 ≠ k2) && decide (m = ("get" : Str)) && (ap.endLine == cp.line) && !isStar e3 && !isStar e4 then some (e1, e2, e3, e4) else none
  | _ => none
mutual
def chkX : X → Gm → Expr → Bool
  | .var i, Γ, .Name x _ => decide (Γ.N[i]? = some x) && vis Γ.sc x && !dbg x && !cdc x
  | .con d, _, .Constant c _ _ => conIs d c
  | .con d, Γ, .Name x _ => glb Γ.sc x && !dbg x && (match Γ.cs.lookup x with | some d' => D.beq d d' | none => false)
  | .gfn k, Γ, .Name x _ => glb Γ.sc x && !dbg x && (match Γ.fns[k]? with | some p => decide (p.1 = x) | none => false)
  | .bin op a b, Γ, .BinOp ea o eb _ => decide (o = opOf op) && chkX a Γ ea && chkX b Γ eb
  | .neg a, Γ, .UnaryOp .USub ea _ => chkX a Γ ea
  | .not a, Γ, .UnaryOp .Not ea _ => chkX a Γ ea
  | .bop isAnd xs, Γ, .BoolOp o es _ => decide (o = if isAnd then .And else .Or) && chkXs xs Γ es
  | .cmp op a b, Γ, .Compare ea [o] [eb] _ => decide (o = copOf op) && chkX a Γ ea && chkX b Γ eb && !isSet eb
  | .chn op op' a b c, Γ, .Compare ea [o, o'] [eb, ec] _ => decide (o = copOf op) && decide (o' = copOf op') && chkX a Γ ea && chkX b Γ eb && chkX c Γ ec && !isSet eb && !isSet ec
  | .ife c a b, Γ, .IfExp ec ea eb _ => chkX c Γ ec && chkX a Γ ea && chkX b Γ eb
  | .tup xs, Γ, .Tuple es _ _ => chkXs xs Γ es && decide (es.length ≤ 1000)
  | .lst _ xs, Γ, .List es _ => chkXs xs Γ es && decide (es.length ≤ 1000)
  | .idx a i, Γ, .Subscript ea ei _ => chkX a Γ ea && chkX i Γ ei && !isSlice ei
  | .sl a lo hi, Γ, .Subscript ea (.Slice l h none _) _ => chkX a Γ ea && chkXo lo Γ l && chkXo hi Γ h
  | .call k args, Γ, .Call (.Name x _) (e :: es) [] _ => Γ.calm && glb Γ.sc x && !dbg x && decide (Γ.fns[k]? = some (x, (e :: es).length)) && chkXs args Γ (e :: es)
  | .callv i ks args, Γ, .Call (.Name x _) (e :: es) [] _ => Γ.calm && decide (Γ.N[i]? = some x) && vis Γ.sc x && !dbg x && !cdc x && (ks.all fun k => match Γ.fns[k]? with | some p => decide (p.2 = (e :: es).length) | none => false) && chkXs args Γ (e :: es)
  | .blt f args, Γ, .Call (.Name x _) (e :: es) [] _ => Γ.calm && bltOk f && decide (x = bltName f) && glb Γ.sc x && chkXs args Γ (e :: es)
  | .isi a t, Γ, .Call (.Name x _) [ea, .Name y _] [] _ => decide (x = ("isinstance" : Str)) && decide (y = Str.ofString (tyName t)) && glb Γ.sc x && glb Γ.sc y && chkX a Γ ea && !isStar ea
  | .lc _ elt tg src cond own, Γ, .ListComp eelt [⟨etg, eiter, ifs, ia⟩] scope _ =>
    decide (ia = 0) && Γ.calm && blkC Γ.N Γ.sc scope (ownN Γ.N own) && chkSr src Γ etg eiter && chkTg (Γ.blk scope) tg etg && (tg.slots.all fun j => own.contains j) && chkXc cond (Γ.blk scope) ifs && chkX elt (Γ.blk scope) eelt
  | .frz a, Γ, e => chkX a Γ e && plainT e
  | .catm a b, Γ, .BinOp ea .Add eb _ => chkX a Γ ea && chkX b Γ eb
  | .trg a, Γ, e => (match trgArg Γ e with | some e1 => chkX a Γ e1 | none => false)
  | .dgt k1 k2 a b k d, Γ, e => (match dgtArg k1 k2 e with | some (e1, e2, e3, e4) => chkX a Γ e1 && chkX b Γ e2 && chkX k Γ e3 && chkX d Γ e4 | none => false)
  | .srs a, Γ, e => (match srsArg Γ e with | some e1 => chkX a Γ e1 | none => false)
  | _, _, _ => false
def chkXs : Xs → Gm → List Expr → Bool
  | .nil, _, [] => true
  | .cons x xs, Γ, e :: es => chkX x Γ e && !isStar e && chkXs xs Γ es
  | _, _, _ => false
def chkXo : Xo → Gm → Option Expr → Bool
  | .none, _, none => true
  | .some x, Γ, some e => chkX x Γ e
  | _, _, _ => false
def chkXc : Xo → Gm → List Expr → Bool
  | .none, _, [] => true
  | .some x, Γ, [e] => chkX x Γ e
  | _, _, _ => false
def chkSr : Sr → Gm → Expr → Expr → Bool
  | .val a, Γ, _, e => chkX a Γ e && !isSet e
  | .rng a, Γ, _, .Call (.Name x _) [e] [] _ => decide (x = ("range" : Str)) && glb Γ.sc x && chkX a Γ e && !isStar e
  | .rng2 a b, Γ, _, .Call (.Name x _) [e, e2] [] _ => decide (x = ("range" : Str)) && glb Γ.sc x && chkX a Γ e && chkX b Γ e2 && !isStar e && !isStar e2
  | .enm a, Γ, .Tuple _ _ _, .Call (.Name x _) [e] [] _ => decide (x = ("enumerate" : Str)) && glb Γ.sc x && chkX a Γ e && !isStar e
  | .zip a b, Γ, .Tuple _ _ _, .Call (.Name x _) [e, e2] [] _ => decide (x = ("zip" : Str)) && glb Γ.sc x && chkX a Γ e && chkX b Γ e2 && !isStar e && !isStar e2
  | _, _, _, _ => false
end
/-- a def as a value of data: what it makes of its arguments -/
def spOf (K : PySem.W.Frag) (g : G) (n : Nat) (m : List D → Store → R D) : Sp := fun vs H Q E => vs.length = n ∧ ∃ l μ st ds, Rel K (g.h l) μ st H ∧ Reps K (g.h l) μ st H ds vs ∧ Post K (g.h l) (Rep K (g.h l)) μ st H (m ds st) Q E
/-- the defs that may be called -/
def TabOk (g : G) (cf : Call) (fns : List (Str × Nat)) (lvl : Nat) (P : Program) (w : World) (K : PySem.W.Frag) (mg : Str → Option Value) (base : Heap) : Prop :=
  ∀ (k : Nat) x n, fns[k]? = some (x, n) → ∃ fd ps lv, ps.length = n ∧ mg x = some (.ref (g.fa k)) ∧ PySem.W.keepIn K (.ref (g.fa k)) = true ∧ Binds K fd ps [] ∧ lv ≤ lvl ∧ FnOk P w K mg base (L2.CX P w) lv (g.fa k) fd ps (spOf K g ps.length (cf k))
structure Good (g : G) (cf : Call) (Γ : Gm) (X : Cx) (W : WX) : Prop where
  N : X.N = Γ.N
  nd : X.N.Nodup
  sc : X.env.scope = Γ.sc
  calm : Γ.calm = true → X.calm = true
  room : Γ.calm = true → Room Γ.lvl X.A
  hu : X.A.units + 65 < cLine
  tk : Takes X W
  po : Γ.top = true → PassesOwn (model X.prog X.w) X.A X.env X.xe
  fk : Γ.top = true → X.env.scope.kind = .function
  fn : ∀ x, (match Γ.fnb with | none => True | some s => s.names.lookup x = some .cell) → X.fn x = true
  stk : Γ.top = true → X.stack = X.env :: X.outer ∧ X.env.frame = some X.env.locals
  bn : ∀ x ∈ bnames, X.mg x = none
  tab : TabOk g cf Γ.fns Γ.lvl X.prog X.w X.K X.mg X.base
  cst : ∀ x d, Γ.cs.lookup x = some d → ∃ u v, X.mg x = some u ∧ RelV v u ∧ ∀ l μ st H, Rep X.K (g.h l) μ st H d v

/-! ### readings -/
section
variable {α β : Type}
def rd (K : PySem.W.Frag) (g : G) (RA : G → List Addr → Store → Hp → α → β → Prop) (m : Sl → Store → R α) (W : WX) : L2.St → Hp → (β → Hp → Prop) → Prop := fun σ H Q =>
  ∃ l e st μ, Rel K (g.h l) μ st H ∧ SlRep K (g.h l) μ st H e σ ∧ Post K (g.h l) (RA (g.h l)) μ st H (m e st) Q (fun c d H' => W c d σ H')
end
abbrev rdX (K : PySem.W.Frag) (g : G) (m : Sl → Store → R D) (W : WX) : TE := rd K g (Rep K) m W
abbrev rdXs (K : PySem.W.Frag) (g : G) (m : Sl → Store → R (List D)) (W : WX) : TA := rd K g (Reps K) m W
abbrev EqR {α : Type} : G → List Addr → Store → Hp → α → α → Prop := fun _ _ _ _ a b => a = b
abbrev rdB (K : PySem.W.Frag) (g : G) (m : Sl → Store → R Bool) (W : WX) : TT := rd K g EqR m W
abbrev rdO (K : PySem.W.Frag) (g : G) (m : Sl → Store → R (Option Int)) (W : WX) : TO := rd K g EqR m W
def asB (m : Sl → Store → R D) : Sl → Store → R Bool := fun e st => (m e st).bind fun d st1 => match d with
  | .bl b => .ok b st1
  | _ => .fail
/-- what is walked gives the items -/
def IterOk (K : PySem.W.Frag) (g : G) (μ : List Addr) (st : Store) (H : Hp) (items : List D) (J : It) : Prop :=
  items.length ≤ most ∧ ∃ G Y, L2.Walk J items.length G Y ∧ (∀ μ' st' H', Ext μ st H μ' st' H' → G H') ∧
    ∀ (i : Nat) x H1 H2 d l μ1 st1, (∀ a ∈ l, a ∈ g.hid ∨ H a = none) → Ext μ st H μ1 st1 H1 → Rel K (g.h l) μ1 st1 H1 → items[i]? = some d → Y i H1 x H2 → Ext μ1 st1 H1 μ1 st1 H2 ∧ Rel K (g.h l) μ1 st1 H2 ∧ Rep K (g.h l) μ1 st1 H2 d x
abbrev rdI (K : PySem.W.Frag) (g : G) (m : Sl → Store → R (List D)) (W : WX) : TI := rd K g (IterOk K) m W

section
variable {g : G} {cf : Call} {Γ : Gm} {X : Cx} {W : WX} {e ea eb ec : Expr} {pos : Pos}
theorem lookup_vis {sc : Scope} {x : Str} (h : vis sc x = true) : Vis sc x := by
  unfold vis at h
  split at h
  · left; assumption
  · right; left; assumption
  · right; right; assumption
  · cases h
theorem Good.vis (G : Good g cf Γ X W) {x : Str} (h : EV.vis Γ.sc x = true) : Vis X.env.scope x := by rw [G.sc]; exact lookup_vis h
theorem Good.gl (G : Good g cf Γ X W) {x : Str} (h : glb Γ.sc x = true) : Gl X x := by
  unfold glb at h
  show X.env.scope.names.lookup x = _
  rw [G.sc]
  exact beq_iff_eq.mp h
theorem Good.loc (G : Good g cf Γ X W) {x : Str} (h : EV.sto Γ x = true) : Loc X.env.scope x ∧ (X.fn x = true ∨ X.env.scope.names.lookup x = some .local) := by
  unfold EV.sto at h
  rw [Bool.or_eq_true, Bool.and_eq_true, beq_iff_eq, beq_iff_eq] at h
  rw [G.sc]
  rcases h with h | ⟨h, h2⟩
  · exact ⟨.inl h, .inr h⟩
  · refine ⟨.inr h, .inl (G.fn x ?_)⟩
    split
    · trivial
    · rename_i s hs
      rw [hs] at h2
      exact beq_iff_eq.mp h2
theorem dbg_ne {x : Str} (h : (!dbg x) = true) : (x == ("__debug__" : Str)) = false := by unfold dbg at h; simpa using h
theorem cdc_ne {x : Str} (h : (!cdc x) = true) : (x == ("__classdict__" : Str)) = false := by unfold cdc at h; simpa using h
end
end EV
/-! EvE: each construct of an expression is sound. -/
namespace EV
open PySem PySem.Spec PyProof.Rows L2

section
variable {K : PySem.W.Frag} {g : G} {μ μ1 : List Addr} {st st1 : Store} {H H1 : Hp} {α β γ δ : Type}
/-- as Post.seq, with what the first part gives -/
theorem Post.seqE {RA : List Addr → Store → Hp → α → β → Prop} {RB : List Addr → Store → Hp → γ → δ → Prop} {r : R α} {f : α → Store → R γ} {Q : δ → Hp → Prop} {Q1 : β → Hp → Prop} {W : Value → Option Addr → Hp → Prop}
    (h : Post K g RB μ st H (r.bind f) Q W) (k : ∀ a st1 μ1 H1 v1, r = .ok a st1 → Ext μ st H μ1 st1 H1 → Rel K g μ1 st1 H1 → RA μ1 st1 H1 a v1 → Post K g RB μ1 st1 H1 (f a st1) Q W → Q1 v1 H1) : Post K g RA μ st H r Q1 W := by
  cases r with
  | ok a st' => intro μ' H' v E' R' r'; exact k a st' μ' H' v rfl E' R' r' (Post.rebase h E')
  | exc c fs st' => exact h
  | fail => exact h
theorem Post.bool {RB : List Addr → Store → Hp → γ → δ → Prop} {d : D} {f : Bool → R γ} {Q : δ → Hp → Prop} {W : Value → Option Addr → Hp → Prop}
    (h : Post K g RB μ st H (match d with | .bl b => f b | _ => .fail) Q W) : ∃ b, d = .bl b ∧ Post K g RB μ st H (f b) Q W := by
  cases d with
  | bl b => exact ⟨b, rfl, h⟩
  | _ => exact h.elim
end
section
variable {g : G} {cf : Call} {Γ : Gm} {X : Cx} {W : WX} {e ea eb ec : Expr} {es : List Expr} {pos : Pos} {a b c x y : EV.X} {xs : Xs}

/-! ### names and constants -/
theorem c_var {i : Nat} {n : Str} (G : Good g cf Γ X W) (h1 : Γ.N[i]? = some n) (h2 : vis Γ.sc n = true) (h3 : (!dbg n) = true) (h4 : (!cdc n) = true) : PE X (.Name n pos) (rdX X.K g (evX cf (.var i)) W) := by
  refine (pe_var (i := i) (by rw [G.N]; exact h1) (G.vis h2) (dbg_ne h3) (cdc_ne h4)).imp fun σ H Q ⟨l, e, st, μ, R, S, P⟩ => ?_
  rw [evX] at P
  cases q : e[i]? with
  | none => rw [q] at P; exact P.elim
  | some o =>
    cases o with
    | none => rw [q] at P; exact P.elim
    | some d =>
      rw [q] at P
      obtain ⟨v, e1, r⟩ := S.2 i d q
      exact ⟨v, e1, P.here R r⟩
theorem c_con {d : D} {k : Const} {j : Nat} (h : conIs d k = true) : PE X (.Constant k j pos) (rdX X.K g (evX cf (.con d)) W) := by
  cases k with
  | none =>
    cases d <;> simp [conIs] at h
    exact pe_non.imp fun σ H Q ⟨l, e, st, μ, R, S, P⟩ => by rw [evX] at P; exact P.here R .non
  | bool b =>
    cases d <;> simp [conIs] at h
    subst h
    exact pe_bl.imp fun σ H Q ⟨l, e, st, μ, R, S, P⟩ => by rw [evX] at P; exact P.here R (.bl _)
  | int i =>
    cases d <;> simp [conIs] at h
    subst h
    exact pe_int.imp fun σ H Q ⟨l, e, st, μ, R, S, P⟩ => by rw [evX] at P; exact P.here R (.int _)
  | str s =>
    cases d <;> simp [conIs] at h
    subst h
    exact pe_str.imp fun σ H Q ⟨l, e, st, μ, R, S, P⟩ => by rw [evX] at P; exact P.here R (.str _)
  | float _ => simp [conIs] at h
  | complex _ _ => simp [conIs] at h
  | bytes _ => simp [conIs] at h
  | ellipsis => simp [conIs] at h
theorem c_cst {d d' : D} {n : Str} (G : Good g cf Γ X W) (h1 : glb Γ.sc n = true) (h2 : (!dbg n) = true) (h3 : Γ.cs.lookup n = some d') (h4 : d = d') : PE X (.Name n pos) (rdX X.K g (evX cf (.con d)) W) := by
  subst h4
  obtain ⟨u, v, hm, r, rp⟩ := G.cst n d h3
  exact (pe_glob (G.gl h1) hm r (dbg_ne h2)).imp fun σ H Q ⟨l, e, st, μ, R, S, P⟩ => by rw [evX] at P; exact P.here R (rp _ _ _ _)
theorem c_gfn {k m : Nat} {n : Str} (G : Good g cf Γ X W) (h1 : glb Γ.sc n = true) (h2 : (!dbg n) = true) (h3 : Γ.fns[k]? = some (n, m)) : PE X (.Name n pos) (rdX X.K g (evX cf (.gfn k)) W) := by
  obtain ⟨fd, ps, lv, _, hm, _⟩ := G.tab k n m h3
  exact (pe_glob (v := .ref (g.fa k)) (G.gl h1) hm rfl (dbg_ne h2)).imp fun σ H Q ⟨l, e, st, μ, R, S, P⟩ => by rw [evX] at P; exact P.here R (.fn (g := g.h l) k)

/-! ### operators -/
theorem c_bin {op : Bop} (ha : PE X ea (rdX X.K g (evX cf a) W)) (hb : PE X eb (rdX X.K g (evX cf b) W)) : PE X (.BinOp ea (opOf op) eb pos) (rdX X.K g (evX cf (.bin op a b)) W) := by
  refine (pe_op (bin_ok (g := g) op) ha hb).imp fun σ H Q ⟨l, e, st, μ, R, S, P⟩ => ?_
  rw [evX] at P
  exact ⟨l, e, st, μ, R, S, P.seq fun x st1 μ1 H1 v1 E1 R1 r1 P1 => ⟨l, e, st1, μ1, R1, S.ext R E1, P1.seq fun y st2 μ2 H2 v2 E2 R2 r2 P2 =>
    let ⟨d, hd, P3⟩ := P2.ofOpt
    ⟨l, μ2, st2, x, y, d, R2, r1.ext R1 E2, r2, hd, P3⟩⟩⟩

/-- a new list that may change -/
def rCatm (K : PySem.W.Frag) (g : G) : R2 := fun x y H Q => ∃ gl μ st a b, Rel K (g.h gl) μ st H ∧ Rep K (g.h gl) μ st H a x ∧ Rep K (g.h gl) μ st H b y ∧ Post K (g.h gl) (Rep K (g.h gl)) μ st H (evCatm a b st) Q (fun _ _ _ => False)
theorem op_catm_ok : OpR X (binaryOp .Add) (rCatm X.K g) := by
  intro pins s σ H x y v u Q I rx ry h
  obtain ⟨gl, μ, st, a, b, R, ra, rb, q⟩ := h
  unfold evCatm at q
  split at q
  · rename_i xs0 ys0
    split at q
    · rename_i hl
      simp only [decide_eq_true_eq] at hl
      obtain ⟨p1, xs, rfl, h1, l1, r1⟩ := ra.rdL
      obtain ⟨p2, ys, rfl, h2, l2, r2⟩ := rb.rdL
      refine op_catR pins s σ H _ _ v u Q I rx ry ⟨p1, p2, xs, ys, rfl, rfl, h1, h2, by rw [← r1.length, ← r2.length, sizeLine_eq]; unfold most at hl; omega, fun p np => ?_⟩
      obtain ⟨E, R', r'⟩ := new_loc R np (by rw [List.length_append]; exact hl) (r1.append r2)
      exact q _ _ _ E R' r'
    · exact q.elim
  · exact q.elim
theorem c_catm (ha : PE X ea (rdX X.K g (evX cf a) W)) (hb : PE X eb (rdX X.K g (evX cf b) W)) : PE X (.BinOp ea .Add eb pos) (rdX X.K g (evX cf (.catm a b)) W) := by
  refine (pe_op (op_catm_ok (g := g)) ha hb).imp fun σ H Q ⟨l, e, st, μ, R, S, P⟩ => ?_
  rw [evX] at P
  refine ⟨l, e, st, μ, R, S, P.seq fun x st1 μ1 H1 v1 E1 R1 r1 P1 => ⟨l, e, st1, μ1, R1, S.ext R E1, P1.seq fun y st2 μ2 H2 v2 E2 R2 r2 P2 => ⟨l, μ2, st2, x, y, R2, r1.ext R1 E2, r2, ?_⟩⟩⟩
  unfold evCatm at P2 ⊢
  split
  · split
    · rename_i hl
      simp only [hl, if_true] at P2
      exact P2
    · rename_i hl
      simp only [hl] at P2
      exact P2.elim
  · rename_i hn
    split at P2
    · exact absurd rfl (hn _ _ rfl)
    · exact P2.elim
theorem marks_of {op : CmpOp} {e : Expr} (h : (!isSet e) = true) : behindInMarks op e = false := by
  cases e <;> first | rfl | (simp [isSet] at h)
theorem c_neg (ha : PE X ea (rdX X.K g (evX cf a) W)) : PE X (.UnaryOp .USub ea pos) (rdX X.K g (evX cf (.neg a)) W) := by
  refine (pe_un un_neg ha).imp fun σ H Q ⟨l, e, st, μ, R, S, P⟩ => ?_
  rw [evX] at P
  refine ⟨l, e, st, μ, R, S, P.seq fun x st1 μ1 H1 v1 E1 R1 r1 P1 => ?_⟩
  cases x with
  | int i => cases r1; exact ⟨i, rfl, P1.here R1 (.int _)⟩
  | _ => exact P1.elim
theorem c_not (ha : PE X ea (rdX X.K g (evX cf a) W)) : PE X (.UnaryOp .Not ea pos) (rdX X.K g (evX cf (.not a)) W) := by
  refine (pe_not ha).imp fun σ H Q ⟨l, e, st, μ, R, S, P⟩ => ?_
  rw [evX] at P
  refine ⟨l, e, st, μ, R, S, P.seq fun x st1 μ1 H1 v1 E1 R1 r1 P1 => ?_⟩
  obtain ⟨b, rfl, P2⟩ := P1.bool
  cases r1
  exact ⟨b, rfl, P2.here R1 (.bl _)⟩
theorem asB_seq {K : PySem.W.Frag} {μ : List Addr} {st : Store} {H : Hp} {r : R D} {Q : Bool → Hp → Prop} {Wx : Value → Option Addr → Hp → Prop} {Q1 : V → Hp → Prop}
    (P : Post K g (EqR g) μ st H (r.bind fun d st1 => match d with | .bl b => .ok b st1 | _ => .fail) Q Wx) (k : ∀ b st1 μ1 H1, Ext μ st H μ1 st1 H1 → Rel K g μ1 st1 H1 → Q b H1 → Q1 (.bl b) H1) : Post K g (Rep K g) μ st H r Q1 Wx :=
  P.seq fun d st1 μ1 H1 v1 E1 R1 r1 P1 => by
    obtain ⟨b, rfl, P2⟩ := P1.bool
    cases r1
    exact k b st1 μ1 H1 E1 R1 (P2.here R1 rfl)
/-- a test by its value -/
theorem t_val (h : PE X e (rdX X.K g (evX cf a) W)) (he : ∀ whole, isTrue e X.env whole = (do let v ← whole; standAt e.pos; holding [v] (truthy v))) : PT X e (rdB X.K g (asB (evX cf a)) W) :=
  (pt_val h he).imp fun σ H Q ⟨l, e, st, μ, R, S, P⟩ => ⟨l, e, st, μ, R, S, asB_seq P fun b st1 μ1 H1 E1 R1 q => ⟨b, rfl, q⟩⟩
theorem t_not (ha : PT X ea (rdB X.K g (asB (evX cf a)) W)) : PT X (.UnaryOp .Not ea pos) (rdB X.K g (asB (evX cf (.not a))) W) := by
  refine (pt_not ha).imp fun σ H Q ⟨l, e, st, μ, R, S, P⟩ => ⟨l, e, st, μ, R, S, ?_⟩
  unfold asB at P ⊢
  rw [evX] at P
  generalize evX cf a e st = r at P ⊢
  cases r with
  | ok d st1 =>
    cases d with
    | bl b => intro μ' H' v E' R' r'; subst r'; exact P μ' H' _ E' R' rfl
    | _ => exact P.elim
  | exc c fs st1 => exact P
  | fail => exact P
theorem c_cmp {op : Cop} (G : Good g cf Γ X W) (hm : (!isSet eb) = true) (ha : PE X ea (rdX X.K g (evX cf a) W)) (hb : PE X eb (rdX X.K g (evX cf b) W)) : PE X (.Compare ea [copOf op] [eb] pos) (rdX X.K g (evX cf (.cmp op a b)) W) := by
  refine (pe_cmpR (cmp_ok (g := g) op G.hu) ha hb (marks_of hm)).imp fun σ H Q ⟨l, e, st, μ, R, S, P⟩ => ?_
  rw [evX] at P
  exact ⟨l, e, st, μ, R, S, P.seq fun x st1 μ1 H1 v1 E1 R1 r1 P1 => ⟨l, e, st1, μ1, R1, S.ext R E1, P1.seq fun y st2 μ2 H2 v2 E2 R2 r2 P2 =>
    let ⟨d, hd, P3⟩ := P2.ofOpt
    ⟨l, μ2, st2, x, y, d, R2, r1.ext R1 E2, r2, hd, P3⟩⟩⟩
theorem cmp_bl {st : Store} {op : Cop} {x y d : D} (h : (evCmp st op x y).map D.bl = some d) : ∃ b, evCmp st op x y = some b ∧ d = .bl b := by
  obtain ⟨b, h1, h2⟩ := Option.map_eq_some_iff.mp h
  exact ⟨b, h1, h2.symm⟩
theorem t_cmp {op : Cop} (G : Good g cf Γ X W) (hm : (!isSet eb) = true) (ha : PE X ea (rdX X.K g (evX cf a) W)) (hb : PE X eb (rdX X.K g (evX cf b) W)) : PT X (.Compare ea [copOf op] [eb] pos) (rdB X.K g (asB (evX cf (.cmp op a b))) W) := by
  refine (pt_cmpR (cmp_ok (g := g) op G.hu) ha hb (marks_of hm)).imp fun σ H Q ⟨l, e, st, μ, R, S, P⟩ => ?_
  unfold asB at P
  rw [evX] at P
  refine ⟨l, e, st, μ, R, S, ?_⟩
  have P : Post X.K (g.h l) (EqR (g.h l)) μ st H ((evX cf a e st).bind fun x st1 => (evX cf b e st1).bind fun y st2 => (ofOpt ((evCmp st2 op x y).map D.bl) st2).bind fun d st1 => match d with | .bl b => .ok b st1 | _ => .fail) Q (fun c d H' => W c d σ H') := by
    generalize evX cf a e st = r at P ⊢
    cases r with
    | ok x st1 =>
      simp only [EV.R.bind_ok] at P ⊢
      generalize evX cf b e st1 = r at P ⊢
      cases r with
      | ok y st2 => exact P
      | exc c fs st1 => exact P
      | fail => exact P
    | exc c fs st1 => exact P
    | fail => exact P
  exact P.seq fun x st1 μ1 H1 v1 E1 R1 r1 P1 => ⟨l, e, st1, μ1, R1, S.ext R E1, P1.seq fun y st2 μ2 H2 v2 E2 R2 r2 P2 => by
    cases q : evCmp st2 op x y with
    | none => rw [q] at P2; exact P2.elim
    | some k =>
      rw [q] at P2
      exact ⟨l, μ2, st2, x, y, .bl k, R2, r1.ext R1 E2, r2, by simp [q], fun μ' H' v' E' R' r' => by cases r'; exact ⟨k, rfl, P2 μ' H' k E' R' rfl⟩⟩⟩
theorem c_chn {op op' : Cop} (G : Good g cf Γ X W) (hm : (!isSet ec) = true) (ha : PE X ea (rdX X.K g (evX cf a) W)) (hb : PE X eb (rdX X.K g (evX cf b) W)) (hc : PE X ec (rdX X.K g (evX cf c) W)) :
    PE X (.Compare ea [copOf op, copOf op'] [eb, ec] pos) (rdX X.K g (evX cf (.chn op op' a b c)) W) := by
  refine (pe_chain (cmp_ok (g := g) op G.hu) (cmp_ok (g := g) op' G.hu) ha hb hc (marks_of (op := copOf op') hm)).imp fun σ H Q ⟨l, e, st, μ, R, S, P⟩ => ?_
  rw [evX] at P
  exact ⟨l, e, st, μ, R, S, P.seq fun x st1 μ1 H1 v1 E1 R1 r1 P1 => ⟨l, e, st1, μ1, R1, S.ext R E1, P1.seq fun y st2 μ2 H2 v2 E2 R2 r2 P2 => by
    cases q : evCmp st2 op x y with
    | none => rw [q] at P2; exact P2.elim
    | some k =>
      rw [q] at P2
      refine ⟨l, μ2, st2, x, y, .bl k, R2, r1.ext R1 E2, r2, by simp [q], fun μ' H' v' E' R' r' => ?_⟩
      cases r'
      refine ⟨k, rfl, ?_⟩
      have P3 := P2.rebase E'
      have S3 := ((S.ext R E1).ext R1 E2).ext R2 E'
      have r3 := r2.ext R2 E'
      cases k with
      | false => exact P3.here R' (.bl _)
      | true => exact ⟨l, e, st2, μ', R', S3, P3.seq fun z st3 μ3 H3 v3 E3 R3 rz P4 =>
          let ⟨d, hd, P5⟩ := P4.ofOpt
          ⟨l, μ3, st3, y, z, d, R3, r3.ext R' E3, rz, hd, P5⟩⟩⟩⟩
/-- the result of a comparison is a truth value -/
theorem chn_bl {op op' : Cop} {e : Sl} {st : Store} {d : D} {st' : Store} (h : evX cf (.chn op op' a b c) e st = .ok d st') : ∃ k, d = .bl k := by
  rw [evX] at h
  generalize evX cf a e st = r at h
  cases r with
  | ok x st1 =>
    simp only [EV.R.bind_ok] at h
    generalize evX cf b e st1 = r at h
    cases r with
    | ok y st2 =>
      simp only [EV.R.bind_ok] at h
      split at h
      · cases h
      · cases h; exact ⟨_, rfl⟩
      · generalize evX cf c e st2 = r at h
        cases r with
        | ok z st3 =>
          simp only [EV.R.bind_ok] at h
          cases q : evCmp st3 op' y z with
          | none => rw [q] at h; cases h
          | some k => rw [q] at h; cases h; exact ⟨k, rfl⟩
        | exc c fs st1 => cases h
        | fail => cases h
    | exc c fs st1 => cases h
    | fail => cases h
  | exc c fs st1 => cases h
  | fail => cases h
theorem t_chn {op op' : Cop} (G : Good g cf Γ X W) (hm : (!isSet ec) = true) (ha : PE X ea (rdX X.K g (evX cf a) W)) (hb : PE X eb (rdX X.K g (evX cf b) W)) (hc : PE X ec (rdX X.K g (evX cf c) W)) :
    PT X (.Compare ea [copOf op, copOf op'] [eb, ec] pos) (rdB X.K g (asB (evX cf (.chn op op' a b c))) W) := by
  refine (pt_chain (cmp_ok (g := g) op G.hu) (cmp_ok (g := g) op' G.hu) ha hb hc (marks_of (op := copOf op') hm)).imp fun σ H Q ⟨l, e, st, μ, R, S, P⟩ => ?_
  have P' : Post X.K (g.h l) (Rep X.K (g.h l)) μ st H (evX cf (.chn op op' a b c) e st) (fun x H' => ∃ k, x = .bl k ∧ Q k H') (fun c d H' => W c d σ H') := asB_seq P fun b st1 μ1 H1 E1 R1 q => ⟨b, rfl, q⟩
  rw [evX] at P'
  exact ⟨l, e, st, μ, R, S, P'.seq fun x st1 μ1 H1 v1 E1 R1 r1 P1 => ⟨l, e, st1, μ1, R1, S.ext R E1, P1.seq fun y st2 μ2 H2 v2 E2 R2 r2 P2 => by
    cases q : evCmp st2 op x y with
    | none => rw [q] at P2; exact P2.elim
    | some k =>
      rw [q] at P2
      refine ⟨l, μ2, st2, x, y, .bl k, R2, r1.ext R1 E2, r2, by simp [q], fun μ' H' v' E' R' r' => ?_⟩
      cases r'
      refine ⟨k, rfl, ?_⟩
      have P3 := P2.rebase E'
      have S3 := ((S.ext R E1).ext R1 E2).ext R2 E'
      have r3 := r2.ext R2 E'
      cases k with
      | false => exact P3.here R' (.bl _)
      | true => exact ⟨l, e, st2, μ', R', S3, P3.seq fun z st3 μ3 H3 v3 E3 R3 rz P4 =>
          let ⟨d, hd, P5⟩ := P4.ofOpt
          ⟨l, μ3, st3, y, z, d, R3, r3.ext R' E3, rz, hd, P5⟩⟩⟩⟩
theorem c_ife (hc : PT X ec (rdB X.K g (asB (evX cf c)) W)) (ha : PE X ea (rdX X.K g (evX cf a) W)) (hb : PE X eb (rdX X.K g (evX cf b) W)) : PE X (.IfExp ec ea eb pos) (rdX X.K g (evX cf (.ife c a b)) W) := by
  refine (pe_ifExp hc ha hb).imp fun σ H Q ⟨l, e, st, μ, R, S, P⟩ => ⟨l, e, st, μ, R, S, ?_⟩
  rw [evX] at P
  unfold asB
  generalize evX cf c e st = r at P ⊢
  cases r with
  | ok d st1 =>
    cases d with
    | bl k =>
      intro μ' H' v E' R' r'
      subst r'
      cases k with
      | true => exact ⟨l, e, st1, μ', R', S.ext R E', Post.rebase P E'⟩
      | false => exact ⟨l, e, st1, μ', R', S.ext R E', Post.rebase P E'⟩
    | _ => exact P.elim
  | exc c fs st1 => exact P
  | fail => exact P
theorem t_ife (hc : PT X ec (rdB X.K g (asB (evX cf c)) W)) (ha : PT X ea (rdB X.K g (asB (evX cf a)) W)) (hb : PT X eb (rdB X.K g (asB (evX cf b)) W)) : PT X (.IfExp ec ea eb pos) (rdB X.K g (asB (evX cf (.ife c a b))) W) := by
  refine ⟨fun pins s σ H Q I ⟨l, e, st, μ, R, S, P⟩ => ?_⟩
  unfold asB at P
  rw [evX] at P
  have h1 : rdB X.K g (asB (evX cf c)) W σ H (fun k H' => if k = true then rdB X.K g (asB (evX cf a)) W σ H' Q else rdB X.K g (asB (evX cf b)) W σ H' Q) := by
    refine ⟨l, e, st, μ, R, S, ?_⟩
    unfold asB
    generalize evX cf c e st = r at P ⊢
    cases r with
    | ok d st1 =>
      cases d with
      | bl k =>
        intro μ' H' v E' R' r'
        subst r'
        cases k with
        | true => exact ⟨l, e, st1, μ', R', S.ext R E', Post.rebase P E'⟩
        | false => exact ⟨l, e, st1, μ', R', S.ext R E', Post.rebase P E'⟩
      | _ => exact P.elim
    | exc c fs st1 => exact P
    | fail => exact P
  refine isTrue_IfExp (thn (hc.run pins s σ H _ I h1) fun k s1 ⟨H1, I1, q1⟩ => ?_)
  cases k with
  | true => exact ha.run pins s1 σ H1 Q I1 q1
  | false => exact hb.run pins s1 σ H1 Q I1 q1
end
end EV
/-! EvF: the other constructs of an expression; targets; what is walked. -/
namespace EV
open PySem PySem.Spec PyProof.Rows L2

/-! ### lengths -/
def Xs.len : Xs → Nat
  | .nil => 0
  | .cons _ xs => xs.len + 1
theorem evXs_len {cf : Call} : ∀ {xs : Xs} {e : Sl} {st : Store} {ds : List D} {st' : Store}, evXs cf xs e st = .ok ds st' → ds.length = xs.len
  | .nil, e, st, ds, st', h => by rw [evXs] at h; cases h; rfl
  | .cons x xs, e, st, ds, st', h => by
    rw [evXs] at h
    generalize evX cf x e st = r at h
    cases r with
    | ok d st1 =>
      simp only [EV.R.bind_ok] at h
      generalize q : evXs cf xs e st1 = r at h
      cases r with
      | ok ds st2 => cases h; rw [List.length_cons, evXs_len q, Xs.len]
      | exc c fs st2 => cases h
      | fail => cases h
    | exc c fs st1 => cases h
    | fail => cases h
theorem chkXs_len {Γ : Gm} : ∀ {xs : Xs} {es : List Expr}, chkXs xs Γ es = true → es.length = xs.len
  | .nil, [], _ => rfl
  | .nil, _ :: _, h => by simp [chkXs] at h
  | .cons _ _, [], h => by simp [chkXs] at h
  | .cons x xs, e :: es, h => by
    simp only [chkXs, Bool.and_eq_true] at h
    rw [List.length_cons, chkXs_len h.2, Xs.len]

/-! ### stars -/
theorem star_one {e : Expr} {es : List Expr} {env : Env} (h : (!isStar e) = true) : starEach (e :: es) env = (false, eval e env) :: starEach es env := by
  cases e <;> first | rfl | (simp [isStar] at h)
theorem stars {Γ : Gm} {env : Env} : ∀ {xs : Xs} {es : List Expr}, chkXs xs Γ es = true → (starEach es env).any (·.1) = false
  | .nil, [], _ => rfl
  | .nil, _ :: _, h => by simp [chkXs] at h
  | .cons _ _, [], h => by simp [chkXs] at h
  | .cons x xs, e :: es, h => by
    simp only [chkXs, Bool.and_eq_true] at h
    rw [star_one h.1.2, List.any_cons, stars h.2]
    rfl
theorem backTo_any {pos : Pos} {ts : List (Bool × Sem Value)} : (backTo pos ts).any (·.1) = ts.any (·.1) := by
  unfold backTo
  rw [List.any_map]
  congr 1
theorem starsB {Γ : Gm} {env : Env} {pos : Pos} {xs : Xs} {es : List Expr} (h : chkXs xs Γ es = true) : (backTo pos (starEach es env)).any (·.1) = false := by rw [backTo_any]; exact stars h
theorem star1B {env : Env} {pos : Pos} {e : Expr} (h : (!isStar e) = true) : (backTo pos (starEach [e] env)).any (·.1) = false := by rw [backTo_any, star_one h]; rfl
theorem plain_ix {b : Expr} (h : (!isSlice b) = true) : PlainIx b := by
  intro o i
  cases b <;> first | rfl | (simp [isSlice] at h)

section
variable {g : G} {cf : Call} {Γ : Gm} {X : Cx} {W : WX} {e ea eb ec : Expr} {es : List Expr} {pos p : Pos} {a b c x y : EV.X} {xs : Xs}

/-! ### argument lists, displays -/
theorem a_nil : PA X [] (rdXs X.K g (evXs cf .nil) W) := by
  refine pa_nil.imp fun σ H Q ⟨l, e, st, μ, R, S, P⟩ => ?_
  rw [evXs] at P
  exact P.here R .nil
theorem a_cons (hs : (!isStar e) = true) (ha : PE X e (rdX X.K g (evX cf x) W)) (hr : PA X es (rdXs X.K g (evXs cf xs) W)) : PA X (e :: es) (rdXs X.K g (evXs cf (.cons x xs)) W) := by
  refine (pa_cons ha hr (star_one hs)).imp fun σ H Q ⟨l, e, st, μ, R, S, P⟩ => ?_
  rw [evXs] at P
  exact ⟨l, e, st, μ, R, S, P.seq fun x st1 μ1 H1 v1 E1 R1 r1 P1 => ⟨l, e, st1, μ1, R1, S.ext R E1, P1.seq fun ds st2 μ2 H2 vs E2 R2 rs P2 => P2.here R2 (.cons (r1.ext R1 E2) rs)⟩⟩
theorem c_tup {k : Nat} (hl : es.length ≤ 1000) (hk : chkXs xs Γ es = true) (ha : PA X es (rdXs X.K g (evXs cf xs) W)) : PE X (.Tuple es k pos) (rdX X.K g (evX cf (.tup xs)) W) := by
  refine (pe_tup ha).imp fun σ H Q ⟨l, e, st, μ, R, S, P⟩ => ?_
  rw [evX] at P
  refine ⟨l, e, st, μ, R, S, P.seqE fun ds st1 μ1 H1 vs hr E1 R1 rs P1 => ?_⟩
  have n1 : ds.length ≤ 1000 := by rw [evXs_len hr, ← chkXs_len hk]; exact hl
  refine ⟨by rw [← rs.length, sizeLine_eq]; omega, fun p n => ?_⟩
  obtain ⟨E, R2, r⟩ := new_tup R1 n (by unfold most; omega) rs
  exact P1 _ _ _ E R2 r
theorem c_lst {mu : Bool} (hl : es.length ≤ 1000) (hk : chkXs xs Γ es = true) (ha : PA X es (rdXs X.K g (evXs cf xs) W)) : PE X (.List es pos) (rdX X.K g (evX cf (.lst mu xs)) W) := by
  refine (pe_lst ha).imp fun σ H Q ⟨l, e, st, μ, R, S, P⟩ => ?_
  rw [evX] at P
  refine ⟨l, e, st, μ, R, S, P.seqE fun ds st1 μ1 H1 vs hr E1 R1 rs P1 => ?_⟩
  have n1 : ds.length ≤ 1000 := by rw [evXs_len hr, ← chkXs_len hk]; exact hl
  refine ⟨by rw [← rs.length, sizeLine_eq]; omega, fun p n => ?_⟩
  cases mu with
  | true =>
    obtain ⟨E, R2, r⟩ := new_loc R1 n (by unfold most; omega) rs
    exact P1 _ _ _ E R2 r
  | false =>
    obtain ⟨E, R2, r⟩ := new_lst R1 n (by unfold most; omega) rs
    exact P1 _ _ _ E R2 r

/-! ### subscripts -/
theorem c_idx (hs : (!isSlice eb) = true) (ha : PE X ea (rdX X.K g (evX cf a) W)) (hb : PE X eb (rdX X.K g (evX cf b) W)) : PE X (.Subscript ea eb pos) (rdX X.K g (evX cf (.idx a b)) W) := by
  refine (pe_ix (ix_ok (g := g)) ha hb (plain_ix hs)).imp fun σ H Q ⟨l, e, st, μ, R, S, P⟩ => ?_
  rw [evX] at P
  exact ⟨l, e, st, μ, R, S, P.seq fun x st1 μ1 H1 v1 E1 R1 r1 P1 => ⟨l, e, st1, μ1, R1, S.ext R E1, P1.seq fun y st2 μ2 H2 v2 E2 R2 r2 P2 =>
    let ⟨d, hd, P3⟩ := P2.ofOpt
    ⟨l, μ2, st2, x, y, d, R2, r1.ext R1 E2, r2, hd, P3⟩⟩⟩
theorem o_none : PO X none (rdO X.K g (evXo cf .none) W) := by
  refine po_none.imp fun σ H Q ⟨l, e, st, μ, R, S, P⟩ => ?_
  rw [evXo] at P
  exact P.here R rfl
theorem o_some (ha : PE X ea (rdX X.K g (evX cf a) W)) : PO X (some ea) (rdO X.K g (evXo cf (.some a)) W) := by
  refine (po_some ha).imp fun σ H Q ⟨l, e, st, μ, R, S, P⟩ => ?_
  rw [evXo] at P
  refine ⟨l, e, st, μ, R, S, P.seq fun x st1 μ1 H1 v1 E1 R1 r1 P1 => ?_⟩
  cases x with
  | int i => cases r1; exact ⟨i, rfl, P1.here R1 rfl⟩
  | _ => exact P1.elim
theorem c_sl {lo hi : Xo} {l h : Option Expr} {p2 : Pos} (ha : PE X ea (rdX X.K g (evX cf a) W)) (hl : PO X l (rdO X.K g (evXo cf lo) W)) (hh : PO X h (rdO X.K g (evXo cf hi) W)) :
    PE X (.Subscript ea (.Slice l h none p2) pos) (rdX X.K g (evX cf (.sl a lo hi)) W) := by
  refine (pe_slice (sl_ok (g := g)) ha hl hh).imp fun σ H Q ⟨l, e, st, μ, R, S, P⟩ => ?_
  rw [evX] at P
  exact ⟨l, e, st, μ, R, S, P.seq fun x st1 μ1 H1 v1 E1 R1 r1 P1 => ⟨l, e, st1, μ1, R1, S.ext R E1, P1.seq fun o st2 μ2 H2 v2 E2 R2 r2 P2 =>
    ⟨l, e, st2, μ2, R2, (S.ext R E1).ext R1 E2, P2.seq fun o3 st3 μ3 H3 v3 E3 R3 r3 P3 => by
      cases r2; cases r3
      obtain ⟨d, hd, P4⟩ := P3.ofOpt
      exact ⟨l, μ3, st3, x, d, R3, (r1.ext R1 E2).ext R2 E3, hd, P4⟩⟩⟩⟩

/-! ### calls -/
theorem c_call {k : Nat} {n : Str} (G : Good g cf Γ X W) (hc : Γ.calm = true) (h1 : glb Γ.sc n = true) (h2 : (!dbg n) = true) (h3 : Γ.fns[k]? = some (n, (e :: es).length)) (hk : chkXs xs Γ (e :: es) = true) (ha : PA X (e :: es) (rdXs X.K g (evXs cf xs) W)) :
    PE X (.Call (.Name n p) (e :: es) [] pos) (rdX X.K g (evX cf (.call k xs)) W) := by
  obtain ⟨fd, ps, lv, hl, hm, hkp, hb, hle, F⟩ := G.tab k _ _ h3
  have hs : (!isStar e) = true ∧ ∃ xs', chkXs xs' Γ es = true := by
    cases xs with
    | nil => simp [chkXs] at hk
    | cons x xs => simp only [chkXs, Bool.and_eq_true] at hk; exact ⟨hk.1.2, _, hk.2⟩
  obtain ⟨hs, xs', hk'⟩ := hs
  refine (pe_callS (E := WE W) F ((G.room hc).mono hle) (G.gl h1) hm hkp hb (passAt G.tk) ha (dbg_ne h2) (star_one hs) (starsB hk')).imp fun σ H Q ⟨l, e', st, μ, R, S, P⟩ => ?_
  rw [evX] at P
  refine ⟨l, e', st, μ, R, S, P.seqE fun ds st1 μ1 H1 vs hr E1 R1 rs P1 => ⟨?_, l, μ1, st1, ds, R1, rs, P1⟩⟩
  rw [← rs.length, evXs_len hr, ← chkXs_len hk, hl]
/-- of several defs that the slot may hold -/
theorem pe_callV {i lvl n : Nat} {x : Str} {E : L2.St → XK} {ks : List Nat} {t : TA} (A : ∀ k ∈ ks, ∃ fd ps lv, ps.length = n ∧ PySem.W.keepIn X.K (.ref (g.fa k)) = true ∧ Binds X.K fd ps [] ∧ lv ≤ lvl ∧ FnOk X.prog X.w X.K X.mg X.base (L2.CX X.prog X.w) lv (g.fa k) fd ps (spOf X.K g ps.length (cf k)))
    (hr : Room lvl X.A) (hN : X.N[i]? = some x) (hv : Vis X.env.scope x) (hx : ∀ σ, PassesAt (L2.CX X.prog X.w) X σ (E σ)) (ha : PA X (e :: es) t) (hdb : (x == ("__debug__" : Str)) = false) (hcd : (x == ("__classdict__" : Str)) = false)
    (he : starEach (e :: es) X.env = (false, eval e X.env) :: starEach es X.env) (hpl : (backTo pos (starEach es X.env)).any (·.1) = false) :
    PE X (.Call (.Name x p) (e :: es) [] pos) (fun σ H Q => ∃ k ∈ ks, σ[i]? = some (some (.ref (g.fa k))) ∧ t σ H fun vs H1 => spOf X.K g n (cf k) vs H1 Q (E σ)) := by
  refine ⟨fun pins s σ H Q I h => ?_⟩
  obtain ⟨k, hk, hs, ht⟩ := h
  obtain ⟨fd, ps, lv, hl, hkp, hb, hle, F⟩ := A k hk
  refine wpAny_Call_Name_kw (thn ((pe_var (pos := p) hN hv hdb hcd).run pins s σ H (fun v H1 => v = .ref (g.fa k) ∧ H1 = H) I ⟨.ref (g.fa k), hs, rfl, rfl⟩) fun u s1 ⟨v, H1, I1, r1, q1⟩ => ?_)
  obtain ⟨rfl, rfl⟩ := q1
  cases r1
  refine PySem.W.callWith_K (h₀ := X.base) I.ok.mod.kin hkp (thn (ha.run pos pins s1 σ _ _ I1 ht) fun us s2 ⟨vs, H2, I2, r, q⟩ => ⟨I2.kIn, ?_⟩) he hpl
  refine run_fnS (E := E) F (hr.mono hle) hb (hx σ) I2 r ?_
  rw [hl]
  exact q
theorem c_callv {i : Nat} {ks : List Nat} {n : Str} (G : Good g cf Γ X W) (hc : Γ.calm = true) (h1 : Γ.N[i]? = some n) (h2 : vis Γ.sc n = true) (h3 : (!dbg n) = true) (h4 : (!cdc n) = true)
    (h5 : ∀ k ∈ ks, ∃ x, Γ.fns[k]? = some (x, (e :: es).length)) (hk : chkXs xs Γ (e :: es) = true) (ha : PA X (e :: es) (rdXs X.K g (evXs cf xs) W)) :
    PE X (.Call (.Name n p) (e :: es) [] pos) (rdX X.K g (evX cf (.callv i ks xs)) W) := by
  have hs : (!isStar e) = true ∧ ∃ xs', chkXs xs' Γ es = true := by
    cases xs with
    | nil => simp [chkXs] at hk
    | cons x xs => simp only [chkXs, Bool.and_eq_true] at hk; exact ⟨hk.1.2, _, hk.2⟩
  obtain ⟨hs, xs', hk'⟩ := hs
  refine (pe_callV (ks := ks) (cf := cf) (g := g) (n := (e :: es).length) (lvl := Γ.lvl) (E := WE W) (fun k hk => ?_) (G.room hc) (by rw [G.N]; exact h1) (G.vis h2) (passAt G.tk) ha (dbg_ne h3) (cdc_ne h4) (star_one hs) (starsB hk')).imp fun σ H Q ⟨l, e', st, μ, R, S, P⟩ => ?_
  · obtain ⟨x, hx⟩ := h5 k hk
    obtain ⟨fd, ps, lv, hl, hm, hkp, hb, hle, F⟩ := G.tab k _ _ hx
    exact ⟨fd, ps, lv, hl, hkp, hb, hle, F⟩
  · rw [evX] at P
    split at P
    · rename_i k hi
      split at P
      · rename_i hk1
        obtain ⟨v, hv, rv⟩ := S.2 i _ hi
        cases rv
        refine ⟨k, by simpa using hk1, hv, l, e', st, μ, R, S, P.seqE fun ds st1 μ1 H1 vs hr E1 R1 rs P1 => ⟨?_, l, μ1, st1, ds, R1, rs, P1⟩⟩
        rw [← rs.length, evXs_len hr, ← chkXs_len hk]
      · exact P.elim
    · exact P.elim

/-! ### built-ins -/
theorem blt_rd {f : Blt} {n : Str} (ha : PA X (e :: es) (rdXs X.K g (evXs cf xs) W)) {t : TE} (h : PE X (.Call (.Name n p) (e :: es) [] pos) (tCB (rBlt X.K g fun st => evBlt st f) (rdXs X.K g (evXs cf xs) W))) : PE X (.Call (.Name n p) (e :: es) [] pos) (rdX X.K g (evX cf (.blt f xs)) W) := by
  refine h.imp fun σ H Q ⟨l, e, st, μ, R, S, P⟩ => ?_
  rw [evX] at P
  exact ⟨l, e, st, μ, R, S, P.seq fun ds st1 μ1 H1 vs E1 R1 rs P1 => let ⟨d, hd, P2⟩ := P1.ofOpt; ⟨l, μ1, st1, ds, d, R1, rs, hd, P2⟩⟩
theorem bn_of {n : Str} (G : Good g cf Γ X W) (h : n ∈ bnames) : X.mg n = none := G.bn n h
theorem c_blt {f : Blt} {n : Str} (G : Good g cf Γ X W) (hc : Γ.calm = true) (ho : bltOk f = true) (hn : n = bltName f) (h1 : glb Γ.sc n = true) (hk : chkXs xs Γ (e :: es) = true) (ha : PA X (e :: es) (rdXs X.K g (evXs cf xs) W)) :
    PE X (.Call (.Name n p) (e :: es) [] pos) (rdX X.K g (evX cf (.blt f xs)) W) := by
  have hs : (!isStar e) = true ∧ ∃ xs', chkXs xs' Γ es = true := by
    cases xs with
    | nil => simp [chkXs] at hk
    | cons x xs => simp only [chkXs, Bool.and_eq_true] at hk; exact ⟨hk.1.2, _, hk.2⟩
  obtain ⟨hs, xs', hk'⟩ := hs
  have cl := G.calm hc
  have gl := G.gl h1
  subst hn
  cases f <;> first
    | (simp [bltOk] at ho; done)
    | exact blt_rd (t := fun _ _ _ => True) ha (pe_callB b_len gl (G.bn _ (by decide)) (by decide +kernel) ha (by decide) (by decide) (star_one hs) (starsB hk'))
    | exact blt_rd (t := fun _ _ _ => True) ha (pe_callB b_abs gl (G.bn _ (by decide)) (by decide +kernel) ha (by decide) (by decide) (star_one hs) (starsB hk'))
    | exact blt_rd (t := fun _ _ _ => True) ha (pe_callTy b_int gl (G.bn _ (by decide)) (by decide +kernel) ha (by decide) (by decide) (star_one hs) (starsB hk'))
    | exact blt_rd (t := fun _ _ _ => True) ha (pe_callB (b_sum cl) gl (G.bn _ (by decide)) (by decide +kernel) ha (by decide) (by decide) (star_one hs) (starsB hk'))
    | exact blt_rd (t := fun _ _ _ => True) ha (pe_callB (b_min1 cl) gl (G.bn _ (by decide)) (by decide +kernel) ha (by decide) (by decide) (star_one hs) (starsB hk'))
    | exact blt_rd (t := fun _ _ _ => True) ha (pe_callB (b_max1 cl) gl (G.bn _ (by decide)) (by decide +kernel) ha (by decide) (by decide) (star_one hs) (starsB hk'))
    | exact blt_rd (t := fun _ _ _ => True) ha (pe_callB (b_min2 cl) gl (G.bn _ (by decide)) (by decide +kernel) ha (by decide) (by decide) (star_one hs) (starsB hk'))
    | exact blt_rd (t := fun _ _ _ => True) ha (pe_callB (b_max2 cl) gl (G.bn _ (by decide)) (by decide +kernel) ha (by decide) (by decide) (star_one hs) (starsB hk'))
    | exact blt_rd (t := fun _ _ _ => True) ha (pe_callB (b_all cl) gl (G.bn _ (by decide)) (by decide +kernel) ha (by decide) (by decide) (star_one hs) (starsB hk'))
    | exact blt_rd (t := fun _ _ _ => True) ha (pe_callTy b_tuple gl (G.bn _ (by decide)) (by decide +kernel) ha (by decide) (by decide) (star_one hs) (starsB hk'))
    | exact blt_rd (t := fun _ _ _ => True) ha (pe_callTy b_list gl (G.bn _ (by decide)) (by decide +kernel) ha (by decide) (by decide) (star_one hs) (starsB hk'))
    | exact blt_rd (t := fun _ _ _ => True) ha (pe_callB b_sortedI gl (G.bn _ (by decide)) (by decide +kernel) ha (by decide) (by decide) (star_one hs) (starsB hk'))
    | exact blt_rd (t := fun _ _ _ => True) ha (pe_callB (b_sortedT G.hu) gl (G.bn _ (by decide)) (by decide +kernel) ha (by decide) (by decide) (star_one hs) (starsB hk'))
theorem c_srs {p2 pos2 : Pos} (G : Good g cf Γ X W) (hc : Γ.calm = true) (h1 : glb Γ.sc "sorted" = true) (h2 : glb Γ.sc "set" = true) (hs : (!isStar e) = true) (ha : PE X e (rdX X.K g (evX cf a) W)) :
    PE X (.Call (.Name "sorted" p) [.Call (.Name "set" p2) [e] [] pos2] [] pos) (rdX X.K g (evX cf (.srs a)) W) := by
  refine (pe_callB (cr_sortedSet (G.calm hc)) (G.gl h1) (G.bn _ (by decide)) (by decide +kernel) (pa_cons (pe_callTy (c_set (G.calm hc)) (G.gl h2) (G.bn _ (by decide)) (by decide +kernel) (pa_cons ha pa_nil (star_one hs)) (by decide) (by decide) (star_one hs) (by rfl)) pa_nil rfl) (by decide) (by decide) rfl (by rfl)).imp fun σ H Q ⟨l, e, st, μ, R, S, P⟩ => ?_
  rw [evX] at P
  refine ⟨l, e, st, μ, R, S, P.seq fun x st1 μ1 H1 v1 E1 R1 r1 P1 => ?_⟩
  obtain ⟨d, hd, P2⟩ := P1.ofOpt
  cases x with
  | tup ds =>
    simp only [evSrs, Option.bind_eq_some_iff] at hd
    obtain ⟨ns, e1, hd⟩ := hd
    split at hd
    · rename_i hl
      simp only [decide_eq_true_eq] at hl
      cases hd
      obtain ⟨ad, xs, rfl, h2, l1, rs⟩ := r1.seqT
      rw [rs.intsR e1] at h2
      refine ⟨ad, ns, rfl, h2, by omega, fun a2 c n2 hc2 => ?_⟩
      refine ⟨a2, _, c, rfl, upd_same, by omega, fun ns' p3 hp hk hl2 n3 => ?_⟩
      obtain ⟨R2, E2⟩ := R1.upd_free (o := SetO X.w a2 (fun j => decide (j ∈ ns)) c) n2
      have : ns' = sortI (nubI ns) := srs_uniq hp fun k => by rw [hk k, decide_eq_true_eq]
      subst this
      obtain ⟨E3, R3, r3⟩ := new_lst (g := g.h l) R2 n3 (by rw [List.length_map]; unfold most; omega) (Reps.ofInts (K := X.K) (g := g.h l) (μ := μ1) (st := st1) (sortI (nubI ns)))
      exact P2 _ _ _ (E2.trans E3) R3 r3
    · cases hd
  | _ => simp [evSrs] at hd
end
end EV
/-! EvFd: tuple(range(n)); a written dict of two words, asked by get. -/
namespace EV
open PySem PySem.Spec PyProof.Rows L2

section
variable {K : PySem.W.Frag} {g : G} {μ μ1 : List Addr} {st st1 : Store} {H H1 : Hp} {α β γ δ : Type}
/-- as Post.seq, but the rest is still told from the beginning -/
theorem Post.seqB {μ0 : List Addr} {st0 : Store} {H0 : Hp} {RA : List Addr → Store → Hp → α → β → Prop} {RB : List Addr → Store → Hp → γ → δ → Prop} {r : R α} {f : α → Store → R γ} {Q : δ → Hp → Prop} {Q1 : β → Hp → Prop} {W : Value → Option Addr → Hp → Prop}
    (E0 : Ext μ0 st0 H0 μ st H) (h : Post K g RB μ0 st0 H0 (r.bind f) Q W) (k : ∀ a st1 μ1 H1 v1, Ext μ st H μ1 st1 H1 → Rel K g μ1 st1 H1 → RA μ1 st1 H1 a v1 → Post K g RB μ0 st0 H0 (f a st1) Q W → Q1 v1 H1) : Post K g RA μ st H r Q1 W := by
  cases r with
  | ok a st' => intro μ' H' v E' R' r'; exact k a st' μ' H' v E' R' r' h
  | exc c fs st' => intro μ' H' cls dd E' R' x; exact h μ' H' cls dd (E0.trans E') R' x
  | fail => exact h
/-! a dict at p, out of reach, is exchanged for another -/
theorem rd_dk {p a : Addr} {kvs kvs' : List (Key × V)} {u : HO} (hp : H p = some (.dK kvs)) (hu : ∀ k, u ≠ .dK k) (h : Rd H a u) : Rd (upd H p (.dK kvs')) a u := by
  rcases h with h | ⟨o, h⟩
  · refine .inl ?_
    rw [upd_ne]; exact h
    rintro rfl
    rw [hp] at h
    injection h with h
    exact hu _ h.symm
  · refine .inr ⟨o, ?_⟩
    rw [upd_ne]; exact h
    rintro rfl
    rw [hp] at h
    injection h with h
    cases h
mutual
theorem Rep.dk {p : Addr} {kvs kvs' : List (Key × V)} (hp : H p = some (.dK kvs)) : ∀ {d : D} {v : V}, Rep K g μ st H d v → Rep K g μ st (upd H p (.dK kvs')) d v
  | _, _, .non => .non
  | _, _, .bl b => .bl b
  | _, _, .int i => .int i
  | _, _, .str x => .str x
  | _, _, .tup h l r => .tup (h.imp (rd_dk hp (by intro _ z; cases z)) id) l (Reps.dk hp r)
  | _, _, .lst h n nh l r => .lst (rd_dk hp (by intro _ z; cases z) h) n nh l (Reps.dk hp r)
  | _, _, .lstK h l r => .lstK h l (Reps.dk hp r)
  | _, _, .rol h l r => .rol (by
      rw [upd_ne]; exact h
      rintro rfl
      rw [hp] at h
      injection h with h
      cases h) l (Reps.dk hp r)
  | _, _, .loc h => .loc h
  | _, _, .fn k => .fn k
theorem Reps.dk {p : Addr} {kvs kvs' : List (Key × V)} (hp : H p = some (.dK kvs)) : ∀ {ds : List D} {vs : List V}, Reps K g μ st H ds vs → Reps K g μ st (upd H p (.dK kvs')) ds vs
  | _, _, .nil => .nil
  | _, _, .cons r t => .cons (Rep.dk hp r) (Reps.dk hp t)
end
theorem Rel.dk {p : Addr} {kvs kvs' : List (Key × V)} (R : Rel K g μ st H) (hp : H p = some (.dK kvs)) : Rel K g μ st (upd H p (.dK kvs')) := by
  refine ⟨R.len, R.nd, fun a ha => ?_, fun l ob a h1 h2 => ?_, fun a ha => ?_⟩
  · obtain ⟨u, e⟩ := R.there a ha
    by_cases z : a = p
    · subst z; exact ⟨_, upd_same⟩
    · exact ⟨u, by rw [upd_ne z]; exact e⟩
  · have := R.obj l ob a h1 h2
    cases ob with
    | lst ds =>
      obtain ⟨xs, q1, q2, q3⟩ := this
      refine ⟨xs, ?_, q2, q3.dk hp⟩
      rw [upd_ne]; exact q1
      rintro rfl
      rw [hp] at q1
      injection q1 with q1
      cases q1
    | dct _ _ => exact this
    | gone => trivial
  · obtain ⟨h1, xs, h2⟩ := R.hid a ha
    refine ⟨h1, xs, ?_⟩
    rw [upd_ne]; exact h2
    rintro rfl
    rw [hp] at h2
    injection h2 with h2
    cases h2
theorem SlRep.dk {p : Addr} {kvs kvs' : List (Key × V)} {e : Sl} {σ : L2.St} (S : SlRep K g μ st H e σ) (hp : H p = some (.dK kvs)) : SlRep K g μ st (upd H p (.dK kvs')) e σ := by
  refine ⟨S.1, fun i d h => ?_⟩
  obtain ⟨v, h1, h2⟩ := S.2 i d h
  exact ⟨v, h1, h2.dk hp⟩
theorem Ext.dk {p : Addr} {kvs kvs' : List (Key × V)} (n : H p = none) (E : Ext μ st (upd H p (.dK kvs)) μ1 st1 H1) : Ext μ st H μ1 st1 (upd H1 p (.dK kvs')) := by
  have ne : ∀ a o, H a = some o → a ≠ p := fun a o h z => by subst z; rw [n] at h; cases h
  obtain ⟨more, e, f⟩ := E.pre
  refine ⟨E.len, ⟨more, e, fun a ha => ?_⟩, fun a o h nl => ?_, E.gone, fun a o h => ?_⟩
  · have := f a ha
    by_cases z : a = p
    · subst z; exact n
    · rw [upd_ne z] at this; exact this
  · rw [upd_ne (ne a o h)]
    exact E.keep a o (by rw [upd_ne (ne a o h)]; exact h) nl
  · obtain ⟨o', h'⟩ := E.here a o (by rw [upd_ne (ne a o h)]; exact h)
    exact ⟨o', by rw [upd_ne (ne a o h)]; exact h'⟩
end
section
variable {g : G} {cf : Call} {Γ : Gm} {X : Cx} {W : WX} {e ea eb ec ed : Expr} {es : List Expr} {pos p : Pos} {a b c d x y : EV.X} {xs : Xs}
theorem rg_ints (n : Int) : rgV 0 n = ((List.range n.toNat).map fun (i : Nat) => (i : Int)).map V.int := by
  unfold rgV
  rw [Int.sub_zero, List.map_map]
  refine List.map_congr_left fun i _ => ?_
  show V.int (0 + (i : Int)) = V.int (i : Int)
  rw [Int.zero_add]
theorem c_trg {p2 pos2 : Pos} (G : Good g cf Γ X W) (hc : Γ.calm = true) (h1 : glb Γ.sc "tuple" = true) (h2 : glb Γ.sc "range" = true) (hs : (!isStar e) = true) (ha : PE X e (rdX X.K g (evX cf a) W)) :
    PE X (.Call (.Name "tuple" p) [.Call (.Name "range" p2) [e] [] pos2] [] pos) (rdX X.K g (evX cf (.trg a)) W) := by
  refine (pe_tupRg (G.calm hc) (G.gl h1) (G.bn _ (by decide)) (prg_1 (G.gl h2) (G.bn _ (by decide)) ha (star_one hs))).imp fun σ H Q ⟨l, e, st, μ, R, S, P⟩ => ?_
  rw [evX] at P
  refine ⟨l, e, st, μ, R, S, P.seq fun x st1 μ1 H1 v1 E1 R1 r1 P1 => ?_⟩
  obtain ⟨d, hd, P2⟩ := P1.ofOpt
  cases x with
  | int n =>
    cases r1
    simp only [evTrg] at hd
    split at hd
    · rename_i hn
      simp only [decide_eq_true_eq] at hn
      cases hd
      unfold most at hn
      refine ⟨n, rfl, ⟨by omega, by omega, by omega, by omega, by omega⟩, fun q hq => ?_⟩
      have r2 : Reps X.K (g.h l) μ1 st1 H1 ((List.range n.toNat).map fun (i : Nat) => D.int (i : Int)) (rgV 0 n) := by
        rw [rg_ints]
        have := Reps.ofInts (K := X.K) (g := g.h l) (μ := μ1) (st := st1) (H := H1) ((List.range n.toNat).map fun (i : Nat) => (i : Int))
        rw [List.map_map] at this
        exact this
      obtain ⟨E2, R2, r3⟩ := new_tup R1 hq (by rw [List.length_map, List.length_range]; unfold most; omega) r2
      exact P2 _ _ _ E2 R2 r3
    · cases hd
  | _ => simp [evTrg] at hd
theorem m2_of {o e f : Expr} {m : Str} {ap cp : Pos} (hb : attributeBase o m X.env (eval o X.env) = eval o X.env) (h1 : (!isStar e) = true) (h2 : (!isStar f) = true) (hl : (ap.endLine == cp.line) = true) : M2 X o m ap e f cp := by
  have hs : starEach [e, f] X.env = [(false, eval e X.env), (false, eval f X.env)] := by rw [star_one h1, star_one h2]; rfl
  refine ⟨hb, ?_, hl, ?_⟩
  · rw [hs]; rfl
  · rw [hs]; rfl
theorem c_dgt {k1 k2 : Str} {q1 q2 : Pos} {j1 j2 : Nat} {ap cp dp : Pos} (G : Good g cf Γ X W) (hk : k1 ≠ k2) (hl : (ap.endLine == cp.line) = true) (h1 : (!isStar ec) = true) (h2 : (!isStar ed) = true)
    (ha : PE X ea (rdX X.K g (evX cf a) W)) (hb : PE X eb (rdX X.K g (evX cf b) W)) (hc : PE X ec (rdX X.K g (evX cf c) W)) (hd : PE X ed (rdX X.K g (evX cf d) W)) :
    PE X (.Call (.Attribute (.Dict [some (.Constant (.str k1) j1 q1), some (.Constant (.str k2) j2 q2)] [ea, eb] dp) "get" ap) [ec, ed] [] cp) (rdX X.K g (evX cf (.dgt k1 k2 a b c d)) W) := by
  refine (pe_dget2 (by have := G.hu; omega) (pe_disp (pps_cons pe_str ha (pps_cons pe_str hb pps_nil)) (by rfl) (by rfl) (by intro z; cases z) (by show 2 ≤ 15; omega)) hc hd (m2_of (by rfl) h1 h2 hl)).imp fun σ H Q ⟨l, e, st, μ, R, S, P⟩ => ?_
  rw [evX] at P
  intro p hp
  obtain ⟨R0, E0⟩ := R.upd_free (o := .dK []) hp
  have hR : g.h l = g.h l := rfl
  refine ⟨l, e, st, μ, R0, S.ext R E0, Post.seqB E0 P fun x st1 μ1 H1 v1 E1 R1 r1 P1 => ?_⟩
  refine ⟨l, e, st1, μ1, R1, (S.ext R E0).ext R0 E1, Post.seqB (E0.trans E1) P1 fun y st2 μ2 H2 v2 E2 R2 r2 P2 => ?_⟩
  have n0 : ¬ Live μ st p := R.notLiveN hp
  have k2' : H2 p = some (.dK []) := (E1.trans E2).keep p _ upd_same n0
  refine ⟨k2', [(.inr k1, v1), (.inr k2, v2)], rfl, by show 2 ≤ 15; omega, p, rfl, .inl ⟨_, .inl upd_same⟩, ?_⟩
  have hm : mergeK [] [((Sum.inr k1 : Key), v1), ((Sum.inr k2 : Key), v2)] = [((Sum.inr k1 : Key), v1), ((Sum.inr k2 : Key), v2)] := by
    show putK (putK [] (Sum.inr k1 : Key) v1) (Sum.inr k2 : Key) v2 = _
    have : putK ([] : List (Key × V)) (Sum.inr k1 : Key) v1 = [((Sum.inr k1 : Key), v1)] := rfl
    rw [this]
    unfold putK
    rw [if_neg (by simpa using hk)]
    rfl
  rw [hm]
  have E3 : Ext μ st H μ2 st2 (upd H2 p (.dK [((Sum.inr k1 : Key), v1), ((Sum.inr k2 : Key), v2)])) := Ext.dk hp (E1.trans E2)
  have R3 : Rel X.K (g.h l) μ2 st2 (upd H2 p (.dK [((Sum.inr k1 : Key), v1), ((Sum.inr k2 : Key), v2)])) := R2.dk k2'
  have s1 := (r1.ext R1 E2).dk (kvs' := [((Sum.inr k1 : Key), v1), ((Sum.inr k2 : Key), v2)]) k2'
  have s2 := r2.dk (kvs' := [((Sum.inr k1 : Key), v1), ((Sum.inr k2 : Key), v2)]) k2'
  have k3 : upd H2 p (.dK [((Sum.inr k1 : Key), v1), ((Sum.inr k2 : Key), v2)]) p = some (.dK [((Sum.inr k1 : Key), v1), ((Sum.inr k2 : Key), v2)]) := upd_same
  generalize upd H2 p (.dK [((Sum.inr k1 : Key), v1), ((Sum.inr k2 : Key), v2)]) = H3 at E3 R3 s1 s2 k3
  refine ⟨l, e, st2, μ2, R3, S.ext R E3, Post.seqB E3 P2 fun u st3 μ3 H4 v3 E4 R4 r4 P3 => ?_⟩
  refine ⟨l, e, st3, μ3, R4, (S.ext R E3).ext R3 E4, Post.seqB (E3.trans E4) P3 fun z st4 μ4 H5 v4 E5 R5 r5 P4 => ?_⟩
  obtain ⟨dd, hd, P5⟩ := P4.ofOpt
  cases u with
  | str s =>
    cases r4
    have k5 := (E4.trans E5).keep p _ k3 (R3.notLive k3 (by intro _ z; cases z))
    refine ⟨_, .inl ⟨_, .inr s, .inl k5, rfl, rfl⟩, P5 μ4 H5 _ (E3.trans (E4.trans E5)) R5 ?_⟩
    simp only [evDgt] at hd
    injection hd with hd
    subst hd
    by_cases c1 : s = k1
    · subst c1
      rw [if_pos rfl]
      have : valV [((Sum.inr s : Key), v1), ((Sum.inr k2 : Key), v2)] (.inr s) = some v1 := by simp [valV]
      rw [this]
      exact (s1.ext R3 E4).ext R4 E5
    · by_cases c2 : s = k2
      · subst c2
        rw [if_neg c1, if_pos rfl]
        have : valV [((Sum.inr k1 : Key), v1), ((Sum.inr s : Key), v2)] (.inr s) = some v2 := by simp [valV, Ne.symm c1]
        rw [this]
        exact (s2.ext R3 E4).ext R4 E5
      · rw [if_neg c1, if_neg c2]
        have : valV [((Sum.inr k1 : Key), v1), ((Sum.inr k2 : Key), v2)] (.inr s) = none := by simp [valV, Ne.symm c1, Ne.symm c2]
        rw [this]
        exact r5
  | _ => simp [evDgt] at hd
end
end EV
/-! EvG: what is walked, targets, comprehensions. -/
namespace EV
open PySem PySem.Spec PyProof.Rows L2

section
variable {K : PySem.W.Frag} {g : G} {μ μ' μ1 : List Addr} {st st' st1 : Store} {H H' H1 : Hp} {d : D} {v : V} {ds es : List D} {vs us : List V} {a : Addr}
/-- a sequence that no step changes -/
inductive Sq1 : D → Bool → List D → Prop
  | tup (ds : List D) : Sq1 (.tup ds) true ds
  | lst (ds : List D) : Sq1 (.lst ds) false ds
  | rol (ds : List D) : Sq1 (.rol ds) false ds
theorem Rep.sqK (R : Rel K g μ st H) {tp : Bool} (s : Sq1 d tp ds) (r : Rep K g μ st H d v) : ∃ a xs, v = .ref a ∧ ds.length ≤ most ∧ Reps K g μ st H ds xs ∧ ∀ μ' st' H', Ext μ st H μ' st' H' → SqK tp K H' a xs := by
  cases s with
  | tup ds =>
    cases r with
    | tup h l r => exact ⟨_, _, rfl, l, r, fun _ _ _ E => E.seqT R h⟩
  | lst ds =>
    cases r with
    | lst h n nh l r => exact ⟨_, _, rfl, l, r, fun _ _ _ E => .inl (E.rd h n).1⟩
  | rol ds =>
    cases r with
    | lstK h l r => exact ⟨_, _, rfl, l, r, fun _ _ _ E => .inr h⟩
    | rol h l r => exact ⟨_, _, rfl, l, r, fun _ _ _ E => .inl (.inr ⟨_, E.keep _ _ h (R.notLive h (by intro _ z; cases z))⟩)⟩
def ItSq (tp : Bool) (K : PySem.W.Frag) (a : Addr) : It := match tp with
  | true => Itt K a
  | false => Itl K a
theorem walk_sq {tp : Bool} {xs : List V} : Walk (ItSq tp K a) xs.length (fun H => SqK tp K H a xs) (YAt xs) := by
  cases tp with
  | true => exact walk_tup
  | false => exact walk_list
/-- its own items -/
theorem iter_sq (R : Rel K g μ st H) {tp : Bool} {xs : List V} (l : ds.length ≤ most) (r : Reps K g μ st H ds xs) (q : ∀ μ' st' H', Ext μ st H μ' st' H' → SqK tp K H' a xs) : IterOk K g μ st H ds (ItSq tp K a) := by
  refine ⟨l, _, _, by rw [r.length]; exact walk_sq, fun μ' st' H' E => q _ _ _ E, fun i x H1 H2 d l μ1 st1 hl E R1 hd y => ?_⟩
  obtain ⟨rfl, hx⟩ := y
  obtain ⟨v, hv, rv⟩ := r.get hd
  rw [hx] at hv
  cases hv
  exact ⟨Ext.refl R1.len, R1, rv.extH R E hl⟩
theorem iter_rng (R : Rel K g μ st H) {lo : Int} {n : Nat} (l : n ≤ most) : IterOk K g μ st H ((List.range n).map fun (i : Nat) => .int (lo + (i : Int))) (Itr lo n) := by
  have e : ((List.range n).map fun (i : Nat) => D.int (lo + (i : Int))).length = n := by simp
  refine ⟨by rw [e]; exact l, _, _, by rw [e]; exact walk_range, fun _ _ _ _ => trivial, fun i x H1 H2 d l μ1 st1 hl E R1 hd y => ?_⟩
  obtain ⟨rfl, hx⟩ := y
  subst hx
  rw [List.getElem?_map] at hd
  obtain ⟨j, hj, rfl⟩ := Option.map_eq_some_iff.mp hd
  have : j = i := by
    rw [List.getElem?_range] at hj
    · exact (Option.some.inj hj).symm
    · by_cases h : i < n
      · exact h
      · rw [List.getElem?_eq_none (by simp; omega)] at hj; cases hj
  subst this
  exact ⟨Ext.refl R1.len, R1, .int _⟩
theorem iter_enm (R : Rel K g μ st H) {tp : Bool} {xs : List V} (l : ds.length ≤ most) (r : Reps K g μ st H ds xs) (q : ∀ μ' st' H', Ext μ st H μ' st' H' → SqK tp K H' a xs) : IterOk K g μ st H (ds.mapIdx fun i d => .tup [.int i, d]) (IteK tp K a) := by
  refine ⟨by simp; exact l, _, _, by rw [List.length_mapIdx, r.length]; exact walk_enumK, fun μ' st' H' E => q _ _ _ E, fun i x H1 H2 d l μ1 st1 hl E R1 hd y => ?_⟩
  obtain ⟨T, y1, y2, rfl, hT, rfl, h1, h2⟩ := y
  rw [List.getElem?_mapIdx] at hd
  obtain ⟨d0, hd0, rfl⟩ := Option.map_eq_some_iff.mp hd
  obtain ⟨v, hv, rv⟩ := r.get hd0
  have h2 : xs[i]? = some y2 := h2
  have h1 : some (V.int (i : Nat)) = some y1 := h1
  rw [h2] at hv
  cases hv
  cases h1
  obtain ⟨E2, R2, r2⟩ := new_tup R1 (ds := [.int i, d0]) hT (by simp [most]) (.cons (.int _) (.one (rv.extH R E hl)))
  exact ⟨E2, R2, r2⟩
theorem iter_zip (R : Rel K g μ st H) {tp tq : Bool} {xs ys : List V} {b : Addr} (l : ds.length ≤ most) (r : Reps K g μ st H ds xs) (r' : Reps K g μ st H es ys) (q : ∀ μ' st' H', Ext μ st H μ' st' H' → SqK tp K H' a xs) (q' : ∀ μ' st' H', Ext μ st H μ' st' H' → SqK tq K H' b ys) :
    IterOk K g μ st H (List.zipWith (fun p q => .tup [p, q]) ds es) (ItzK tp tq K a b) := by
  refine ⟨by rw [List.length_zipWith]; omega, _, _, by rw [List.length_zipWith, r.length, r'.length]; exact walk_zipK rfl, fun μ' st' H' E => And.intro (q _ _ _ E) (q' _ _ _ E), fun i x H1 H2 d l μ1 st1 hl E R1 hd y => ?_⟩
  obtain ⟨T, y1, y2, rfl, hT, rfl, h1, h2⟩ := y
  rw [List.getElem?_zipWith] at hd
  split at hd
  · rename_i d1 d2 e1 e2
    cases hd
    obtain ⟨v, hv, rv⟩ := r.get e1
    obtain ⟨w, hw, rw'⟩ := r'.get e2
    have h1 : xs[i]? = some y1 := h1
    have h2 : ys[i]? = some y2 := h2
    rw [h1] at hv
    rw [h2] at hw
    cases hv
    cases hw
    obtain ⟨E2, R2, r2⟩ := new_tup R1 (ds := [d1, d2]) hT (by simp [most]) (.cons (rv.extH R E hl) (.one (rw'.extH R E hl)))
    exact ⟨E2, R2, r2⟩
  · cases hd
theorem Ext.grow {L : Addr} {o : HO} (E : Ext μ st H μ' st' H') (n : H L = none) : Ext μ st H μ' st' (upd H' L o) := by
  refine ⟨E.len, E.pre, fun a u h nl => ?_, E.gone, fun a u h => ?_⟩
  · rw [upd_ne (ne_of_none h n)]; exact E.keep a u h nl
  · rw [upd_ne (ne_of_none h n)]; exact E.here a u h
theorem Ext.adopt {L : Addr} {o : O} (E : Ext μ st H μ' st' H') (n : H L = none) : Ext μ st H (μ' ++ [L]) (st' ++ [o]) H' := by
  obtain ⟨more, e, h⟩ := E.pre
  refine ⟨E.len, ⟨more ++ [L], by rw [e, List.append_assoc], fun a ha => ?_⟩, E.keep, fun l h => ?_, E.here⟩
  · rcases List.mem_append.mp ha with z | z
    · exact h a z
    · rw [List.mem_singleton.mp z]; exact n
  · have := E.gone l h
    rw [List.getElem?_append_left (List.getElem?_eq_some_iff.mp this).1]; exact this
end

section
variable {g : G} {cf : Call} {Γ : Gm} {X : Cx} {W : WX} {e e2 ea eb ec etg : Expr} {es : List Expr} {pos p : Pos} {a b c x y : EV.X} {xs : Xs}

/-! ### what is walked -/
def iSq (K : PySem.W.Frag) (tl : TE) : TI := fun σ H R => tl σ H fun x H1 => ∃ tp a, x = .ref a ∧ (∃ xs, SqK tp K H1 a xs) ∧ R (ItSq tp K a) H1
theorem pi_sq {l : Expr} {tl : TE} (hl : PE X l tl) : PI X etg l (iSq X.K tl) := by
  refine ⟨fun pins s σ H R I h => ?_⟩
  refine thn (hl.run pins s σ H _ I h) fun v s1 ⟨x, H1, I1, r1, q1⟩ => ?_
  obtain ⟨tp, a, e, ⟨xs, hq⟩, q⟩ := q1
  subst e
  cases r1
  cases tp with
  | false =>
    obtain ⟨its, rv, p, hz⟩ := I1.list hq
    refine wpAny_pyIter_list p.isList ?_
    refine ⟨s1.heap.objs.size, [s1.heap.objs.size], _, _, H1, rfl, I1.kept (t' := s1.toks) fun b o e => Heap.get?_push_of_some _ e, turn_list a _, ⟨_, Heap.get?_push_size _ rfl, rfl, rfl⟩, fun b hb => ?_, q⟩
    have e : b = s1.heap.objs.size := by simpa using hb
    subst e
    exact I1.fpOk (Nat.le_refl _) (I1.hok.fresh (Nat.le_refl _))
  | true =>
    obtain ⟨its, rv, p, hz⟩ := I1.tuple hq
    refine wpAny_pyIter_tuple (show s1.heap.IsTuple a its.toArray from p) ?_
    refine ⟨s1.heap.objs.size, [s1.heap.objs.size], _, _, H1, rfl, I1.kept (t' := s1.toks) fun b o e => Heap.get?_push_of_some _ e, turn_tuple a _, ⟨_, Heap.get?_push_size _ rfl, rfl, rfl⟩, fun b hb => ?_, q⟩
    have e : b = s1.heap.objs.size := by simpa using hb
    subst e
    exact I1.fpOk (Nat.le_refl _) (I1.hok.fresh (Nat.le_refl _))
theorem i_val (ha : PE X e (rdX X.K g (evX cf a) W)) : PI X etg e (rdI X.K g (evSr cf (.val a)) W) := by
  refine (pi_sq ha).imp fun σ H Q ⟨l, e, st, μ, R, S, P⟩ => ?_
  rw [evSr] at P
  refine ⟨l, e, st, μ, R, S, P.seq fun x st1 μ1 H1 v1 E1 R1 r1 P1 => ?_⟩
  have key : ∀ tp ds, Sq1 x tp ds → Post X.K (g.h l) (IterOk X.K (g.h l)) μ1 st1 H1 (EV.R.ok ds st1) Q (fun c d H' => W c d σ H') → ∃ tp a, v1 = .ref a ∧ (∃ xs, SqK tp X.K H1 a xs) ∧ Q (ItSq tp X.K a) H1 := by
    intro tp ds s P
    obtain ⟨a, xs, rfl, l1, rs, q⟩ := r1.sqK R1 s
    exact ⟨tp, a, rfl, ⟨xs, q _ _ _ (Ext.refl R1.len)⟩, P.here R1 (iter_sq R1 l1 rs q)⟩
  cases x with
  | tup ds => exact key _ _ (.tup ds) P1
  | lst ds => exact key _ _ (.lst ds) P1
  | rol ds => exact key _ _ (.rol ds) P1
  | _ => exact P1.elim
theorem i_rng (G : Good g cf Γ X W) (h1 : glb Γ.sc "range" = true) (hs : (!isStar e) = true) (ha : PE X e (rdX X.K g (evX cf a) W)) : PI X etg (.Call (.Name "range" p) [e] [] pos) (rdI X.K g (evSr cf (.rng a)) W) := by
  refine (pi_range1 (G.gl h1) (G.bn _ (by decide)) (pa_cons ha pa_nil (star_one hs)) (star_one hs)).imp fun σ H Q ⟨l, e, st, μ, R, S, P⟩ => ?_
  rw [evSr] at P
  refine ⟨l, e, st, μ, R, S, P.seq fun x st1 μ1 H1 v1 E1 R1 r1 P1 => ?_⟩
  cases x with
  | int n =>
    cases r1
    simp only [] at P1
    split at P1
    · rename_i hb
      simp only [decide_eq_true_eq] at hb
      unfold most at hb
      refine ⟨n, rfl, hb.2, by omega, ?_⟩
      have i := iter_rng (K := X.K) (g := g.h l) (lo := 0) (n := n.toNat) R1 (by unfold most; omega)
      simp only [Int.zero_add] at i
      exact P1.here R1 i
    · exact P1.elim
  | _ => exact P1.elim
theorem i_rng2 (G : Good g cf Γ X W) (h1 : glb Γ.sc "range" = true) (hs : (!isStar e) = true) (hs2 : (!isStar e2) = true) (ha : PE X e (rdX X.K g (evX cf a) W)) (hb : PE X e2 (rdX X.K g (evX cf b) W)) :
    PI X etg (.Call (.Name "range" p) [e, e2] [] pos) (rdI X.K g (evSr cf (.rng2 a b)) W) := by
  refine (pi_range2 (G.gl h1) (G.bn _ (by decide)) (pa_cons ha (pa_cons hb pa_nil (star_one hs2)) (star_one hs)) (by rw [star_one hs, star_one hs2]; rfl) (star_one hs2)).imp fun σ H Q ⟨l, e, st, μ, R, S, P⟩ => ?_
  rw [evSr] at P
  refine ⟨l, e, st, μ, R, S, P.seq fun x st1 μ1 H1 v1 E1 R1 r1 P1 => ⟨l, e, st1, μ1, R1, S.ext R E1, P1.seq fun y st2 μ2 H2 v2 E2 R2 r2 P2 => ?_⟩⟩
  cases x with
  | int lo =>
    cases y with
    | int hi =>
      cases r1
      cases r2
      simp only [] at P2
      split at P2
      · rename_i hb
        simp only [decide_eq_true_eq] at hb
        exact ⟨lo, hi, rfl, ⟨hb.1, hb.2.1, hb.2.2.1, hb.2.2.2.1⟩, P2.here R2 (iter_rng R2 (by have := hb.2.2.2.2; unfold most at this ⊢; omega))⟩
      · exact P2.elim
    | _ => exact P2.elim
  | _ => exact P2.elim
theorem i_enm {elts : List Expr} {kk : Nat} {tpos : Pos} (G : Good g cf Γ X W) (h1 : glb Γ.sc "enumerate" = true) (hs : (!isStar e) = true) (ha : PE X e (rdX X.K g (evX cf a) W)) :
    PI X (.Tuple elts kk tpos) (.Call (.Name "enumerate" p) [e] [] pos) (rdI X.K g (evSr cf (.enm a)) W) := by
  refine (pi_enumK (G.gl h1) (G.bn _ (by decide)) (pa_cons ha pa_nil (star_one hs)) (star_one hs)).imp fun σ H Q ⟨l, e, st, μ, R, S, P⟩ => ?_
  rw [evSr] at P
  refine ⟨l, e, st, μ, R, S, P.seq fun x st1 μ1 H1 v1 E1 R1 r1 P1 => ?_⟩
  have key : ∀ tp ds, Sq1 x tp ds → Post X.K (g.h l) (IterOk X.K (g.h l)) μ1 st1 H1 (EV.R.ok (ds.mapIdx fun i d => D.tup [.int i, d]) st1) Q (fun c d H' => W c d σ H') → ∃ tp a xs, [v1] = [.ref a] ∧ SqK tp X.K H1 a xs ∧ Q (IteK tp X.K a) H1 := by
    intro tp ds s P
    obtain ⟨a, xs, rfl, l1, rs, q⟩ := r1.sqK R1 s
    exact ⟨tp, a, xs, rfl, q _ _ _ (Ext.refl R1.len), P.here R1 (iter_enm R1 l1 rs q)⟩
  cases x with
  | tup ds => exact key _ _ (.tup ds) P1
  | lst ds => exact key _ _ (.lst ds) P1
  | _ => exact P1.elim
theorem i_zip {elts : List Expr} {kk : Nat} {tpos : Pos} (G : Good g cf Γ X W) (h1 : glb Γ.sc "zip" = true) (hs : (!isStar e) = true) (hs2 : (!isStar e2) = true) (ha : PE X e (rdX X.K g (evX cf a) W)) (hb : PE X e2 (rdX X.K g (evX cf b) W)) :
    PI X (.Tuple elts kk tpos) (.Call (.Name "zip" p) [e, e2] [] pos) (rdI X.K g (evSr cf (.zip a b)) W) := by
  refine (pi_zipK (G.gl h1) (G.bn _ (by decide)) (pa_cons ha (pa_cons hb pa_nil (star_one hs2)) (star_one hs)) (star_one hs) (star1B hs2)).imp fun σ H Q ⟨l, e, st, μ, R, S, P⟩ => ?_
  rw [evSr] at P
  refine ⟨l, e, st, μ, R, S, P.seq fun x st1 μ1 H1 v1 E1 R1 r1 P1 => ⟨l, e, st1, μ1, R1, S.ext R E1, P1.seq fun y st2 μ2 H2 v2 E2 R2 r2 P2 => ?_⟩⟩
  have key : ∀ tp ds tq es, Sq1 x tp ds → Sq1 y tq es → Post X.K (g.h l) (IterOk X.K (g.h l)) μ2 st2 H2 (EV.R.ok (List.zipWith (fun p q => D.tup [p, q]) ds es) st2) Q (fun c d H' => W c d σ H') →
      ∃ tp tq a b xs ys, [v1, v2] = [.ref a, .ref b] ∧ SqK tp X.K H2 a xs ∧ SqK tq X.K H2 b ys ∧ Q (ItzK tp tq X.K a b) H2 := by
    intro tp ds tq es s s' P
    obtain ⟨a, xs, rfl, l1, rs, q⟩ := (r1.ext R1 E2).sqK R2 s
    obtain ⟨b, ys, rfl, l2, rs2, q2⟩ := r2.sqK R2 s'
    exact ⟨tp, tq, a, b, xs, ys, rfl, q _ _ _ (Ext.refl R2.len), q2 _ _ _ (Ext.refl R2.len), P.here R2 (iter_zip R2 l1 rs rs2 q q2)⟩
  cases x with
  | tup ds =>
    cases y with
    | tup es => exact key _ _ _ _ (.tup ds) (.tup es) P2
    | lst es => exact key _ _ _ _ (.tup ds) (.lst es) P2
    | _ => exact P2.elim
  | lst ds =>
    cases y with
    | tup es => exact key _ _ _ _ (.lst ds) (.tup es) P2
    | lst es => exact key _ _ _ _ (.lst ds) (.lst es) P2
    | _ => exact P2.elim
  | _ => exact P2.elim

/-! ### isinstance, frz -/
theorem boot_tyc (t : Tyc) : bootBuiltins (Str.ofString (tyName t)) = some (.type (tyName t)) := by cases t <;> decide +kernel
theorem tyc_mem (t : Tyc) : Str.ofString (tyName t) ∈ bnames := by cases t <;> decide +kernel
theorem c_isi {t : Tyc} {p2 : Pos} (G : Good g cf Γ X W) (h1 : glb Γ.sc "isinstance" = true) (h2 : glb Γ.sc (Str.ofString (tyName t)) = true) (hs : (!isStar e) = true) (ha : PE X e (rdX X.K g (evX cf a) W)) :
    PE X (.Call (.Name "isinstance" p) [e, .Name (Str.ofString (tyName t)) p2] [] pos) (rdX X.K g (evX cf (.isi a t)) W) := by
  refine (pe_callB call_isi (G.gl h1) (G.bn _ (by decide)) (by decide +kernel) (pa_cons ha (pa_cons (pe_bltn (v := .ty (tyName t)) (G.gl h2) (G.bn _ (tyc_mem t)) (boot_tyc t) rfl (by cases t <;> decide +kernel) (by cases t <;> decide +kernel)) pa_nil rfl) (star_one hs)) (by decide) (by decide) (star_one hs) (by rfl)).imp fun σ H Q ⟨l, e, st, μ, R, S, P⟩ => ?_
  rw [evX] at P
  refine ⟨l, e, st, μ, R, S, P.seq fun x st1 μ1 H1 v1 E1 R1 r1 P1 => ?_⟩
  obtain ⟨d, hd, P2⟩ := P1.ofOpt
  obtain ⟨k, hk, rfl⟩ := Option.map_eq_some_iff.mp hd
  obtain ⟨T, ty, kt⟩ := isi_ty (t := t) R1 r1 hk
  exact ⟨v1, .ty (tyName t), .type T, .type (tyName t), k, rfl, .ty _, ty, kit_ty kt, P2.here R1 (.bl k)⟩
theorem c_frz (ha : PE X e (rdX X.K g (evX cf a) W)) : PE X e (rdX X.K g (evX cf (.frz a)) W) := by
  refine ha.imp fun σ H Q ⟨l, e, st, μ, R, S, P⟩ => ?_
  rw [evX] at P
  refine ⟨l, e, st, μ, R, S, P.seq fun x st1 μ1 H1 v1 E1 R1 r1 P1 => ?_⟩
  cases x with
  | loc i =>
    simp only [] at P1
    split at P1
    · rename_i ds hds
      cases r1 with
      | loc h =>
        obtain ⟨E2, R2, r2⟩ := frz_loc R1 h hds
        exact P1 _ _ _ E2 R2 r2
    · exact P1.elim
  | _ => exact P1.elim

/-! ### targets -/
/-- a target takes a value; what it leaves of the other slots -/
def rdG (K : PySem.W.Frag) (g : G) (tg : Tg) : TG := fun v σ H Q => ∃ l μ st e d e', Rel K (g.h l) μ st H ∧ SlRep K (g.h l) μ st H e σ ∧ Rep K (g.h l) μ st H d v ∧ evTg tg d e = some e' ∧
  ∀ σ', SlRep K (g.h l) μ st H e' σ' → σ'.length = σ.length → (∀ j, j ∉ tg.slots → σ'[j]? = σ[j]?) → Q σ' H
def rdGs (K : PySem.W.Frag) (g : G) (ts : Tgs) : TGs := fun vs σ H Q => ∃ l μ st e ds e', Rel K (g.h l) μ st H ∧ SlRep K (g.h l) μ st H e σ ∧ Reps K (g.h l) μ st H ds vs ∧ evTgs ts ds e = some e' ∧
  ∀ σ', SlRep K (g.h l) μ st H e' σ' → σ'.length = σ.length → (∀ j, j ∉ ts.slots → σ'[j]? = σ[j]?) → Q σ' H
theorem each_one {t : Tg} {e : Expr} {es : List Expr} {env : Env} (h : chkTg Γ t e = true) : assignEach (e :: es) env = (false, assign e env) :: assignEach es env := by
  cases t <;> cases e <;> first | rfl | (simp [chkTg] at h)
theorem each_all {env : Env} : ∀ {ts : Tgs} {es : List Expr}, chkTgs Γ ts es = true → (assignEach es env).length = es.length ∧ (assignEach es env).findIdx? (·.1) = none
  | .nil, [], _ => ⟨rfl, rfl⟩
  | .nil, _ :: _, h => by simp [chkTgs] at h
  | .cons _ _, [], h => by simp [chkTgs] at h
  | .cons t ts, e :: es, h => by
    simp only [chkTgs, Bool.and_eq_true] at h
    obtain ⟨h1, h2⟩ := each_all (env := env) h.2
    rw [each_one h.1]
    refine ⟨by rw [List.length_cons, List.length_cons, h1], ?_⟩
    rw [List.findIdx?_cons, h2]
    rfl
def Tgs.len : Tgs → Nat
  | .nil => 0
  | .cons _ ts => ts.len + 1
theorem chkTgs_len : ∀ {ts : Tgs} {es : List Expr}, chkTgs Γ ts es = true → es.length = ts.len
  | .nil, [], _ => rfl
  | .nil, _ :: _, h => by simp [chkTgs] at h
  | .cons _ _, [], h => by simp [chkTgs] at h
  | .cons t ts, e :: es, h => by
    simp only [chkTgs, Bool.and_eq_true] at h
    rw [List.length_cons, chkTgs_len h.2, Tgs.len]
theorem evTgs_len : ∀ {ts : Tgs} {ds : List D} {e e' : Sl}, evTgs ts ds e = some e' → ds.length = ts.len
  | .nil, [], _, _, _ => rfl
  | .nil, _ :: _, _, _, h => by simp [evTgs] at h
  | .cons _ _, [], _, _, h => by simp [evTgs] at h
  | .cons t ts, d :: ds, e, e', h => by
    rw [evTgs] at h
    obtain ⟨e1, _, h2⟩ := Option.bind_eq_some_iff.mp h
    rw [List.length_cons, evTgs_len h2, Tgs.len]
mutual
theorem tgOk (G : Good g cf Γ X W) : ∀ {t : Tg} {e : Expr}, chkTg Γ t e = true → PG X e (rdG X.K g t)
  | .name i, .Name x p, h => by
    simp only [chkTg, Bool.and_eq_true, decide_eq_true_eq] at h
    obtain ⟨h1, h2⟩ := G.loc h.2
    refine (pg_name G.nd (by rw [G.N]; exact h.1) h1 h2).imp fun v σ H Q ⟨l, μ, st, e, d, e', R, S, r, q, k⟩ => ?_
    rw [evTg] at q
    split at q
    · cases q
      refine k _ (S.set r i) (by rw [List.length_set]) fun j hj => ?_
      rw [List.getElem?_set_ne]
      intro z
      subst z
      exact hj (by simp [Tg.slots])
    · cases q
  | .tup ts, .Tuple es k pos, h => by
    simp only [chkTg, Bool.and_eq_true] at h
    refine (pg_tup (n := es.length) (G.calm h.1) (tgsOk G h.2) (each_all h.2).1 (each_all h.2).2).imp fun v σ H Q ⟨l, μ, st, e, d, e', R, S, r, q, k⟩ => ?_
    cases d with
    | tup ds =>
      rw [evTg] at q
      obtain ⟨a, xs, rfl, h1, h2, h3⟩ := r.seqT
      refine ⟨a, xs, rfl, h1, ?_, l, μ, st, e, ds, e', R, S, h3, q, fun σ' s' hl hj => k σ' s' hl fun j z => hj j (by rw [Tg.slots] at z; exact z)⟩
      rw [← h3.length, evTgs_len q, chkTgs_len h.2]
    | _ => simp [evTg] at q
  | .name i, .Tuple _ _ _, h => by simp [chkTg] at h
  | .tup _, .Name _ _, h => by simp [chkTg] at h
  | .name _, .BoolOp .., h | .name _, .NamedExpr .., h | .name _, .BinOp .., h | .name _, .UnaryOp .., h | .name _, .Lambda .., h | .name _, .IfExp .., h | .name _, .Dict .., h | .name _, .Set .., h | .name _, .ListComp .., h
  | .name _, .SetComp .., h | .name _, .DictComp .., h | .name _, .GeneratorExp .., h | .name _, .Await .., h | .name _, .Yield .., h | .name _, .YieldFrom .., h | .name _, .Compare .., h | .name _, .Call .., h | .name _, .FormattedValue .., h | .name _, .JoinedStr .., h
  | .name _, .Constant .., h | .name _, .Attribute .., h | .name _, .Subscript .., h | .name _, .Starred .., h | .name _, .List .., h | .name _, .Slice .., h => by simp [chkTg] at h
  | .tup _, .BoolOp .., h | .tup _, .NamedExpr .., h | .tup _, .BinOp .., h | .tup _, .UnaryOp .., h | .tup _, .Lambda .., h | .tup _, .IfExp .., h | .tup _, .Dict .., h | .tup _, .Set .., h | .tup _, .ListComp .., h
  | .tup _, .SetComp .., h | .tup _, .DictComp .., h | .tup _, .GeneratorExp .., h | .tup _, .Await .., h | .tup _, .Yield .., h | .tup _, .YieldFrom .., h | .tup _, .Compare .., h | .tup _, .Call .., h | .tup _, .FormattedValue .., h | .tup _, .JoinedStr .., h
  | .tup _, .Constant .., h | .tup _, .Attribute .., h | .tup _, .Subscript .., h | .tup _, .Starred .., h | .tup _, .List .., h | .tup _, .Slice .., h => by simp [chkTg] at h
theorem tgsOk (G : Good g cf Γ X W) : ∀ {ts : Tgs} {es : List Expr}, chkTgs Γ ts es = true → PGs X es (rdGs X.K g ts)
  | .nil, [], _ => by
    refine pgs_nil.imp fun vs σ H Q ⟨l, μ, st, e, ds, e', R, S, r, q, k⟩ => ?_
    cases ds with
    | nil =>
      cases r
      rw [evTgs] at q
      cases q
      exact ⟨rfl, k σ S rfl fun _ _ => rfl⟩
    | cons _ _ => simp [evTgs] at q
  | .nil, _ :: _, h => by simp [chkTgs] at h
  | .cons _ _, [], h => by simp [chkTgs] at h
  | .cons t ts, e :: es, h => by
    simp only [chkTgs, Bool.and_eq_true] at h
    refine (pgs_cons (tgOk G h.1) (tgsOk G h.2) (by rw [each_one h.1]; rfl)).imp fun vs σ H Q ⟨l, μ, st, e, ds, e', R, S, r, q, k⟩ => ?_
    cases ds with
    | nil => simp [evTgs] at q
    | cons d ds =>
      rw [evTgs] at q
      obtain ⟨e1, q1, q2⟩ := Option.bind_eq_some_iff.mp q
      cases r with
      | cons r rr =>
        refine ⟨_, _, rfl, l, μ, st, e, d, e1, R, S, r, q1, fun σ1 S1 l1 j1 => ⟨l, μ, st, e1, ds, e', R, S1, rr, q2, fun σ2 S2 l2 j2 => k σ2 S2 (l2.trans l1) fun j hj => ?_⟩⟩
        rw [Tgs.slots, List.mem_append, not_or] at hj
        rw [j2 j hj.2, j1 j hj.1]
end
end
end EV
/-! EvH: comprehensions; every expression that passes the check is sound. -/
namespace EV
open PySem PySem.Spec PyProof.Rows L2

section
variable {g : G} {cf : Call} {Γ : Gm} {X : Cx} {W : WX} {e e2 ea eb ec etg : Expr} {es : List Expr} {pos p : Pos} {a b c x y : EV.X} {xs : Xs}
abbrev W0 : WX := fun _ _ _ _ => False
theorem Good.blk (G : Good g cf Γ X W) {s : Shared} {H : Hp} {scope : Scope} {cl : List (Str × Addr)} {C : Addr} {fp : List Addr} : Good g cf (Γ.blk scope) (X.blk s H scope (compEnvC scope cl C X.env) fp) W0 where
  N := G.N
  nd := G.nd
  sc := by show relS scope X.env.scope = relS scope Γ.sc; rw [G.sc]
  calm := G.calm
  room := G.room
  hu := G.hu
  tk := fun u s' ⟨a, B, sI, pins, σ, H, cls, d, e, I, nb, up, sky, na, os, ag, w⟩ => w
  po := fun h => by cases h
  fk := fun h => by cases h
  fn := fun x h => by
    have h : scope.names.lookup x = some .cell := h
    show (scope.names.lookup x == some .cell) = true
    rw [h]
    rfl
  stk := fun h => by cases h
  bn := G.bn
  tab := G.tab
  cst := G.cst
theorem ownN_snd {N : List Str} {own : List Nat} : (ownN N own).map (·.2) = own := by
  unfold ownN
  rw [List.map_map]
  conv => rhs; rw [← List.map_id own]
  rfl
theorem wipe_get {σ : L2.St} {j : Nat} : ∀ {vs : List Nat}, j ∉ vs → (wipe σ vs)[j]? = σ[j]?
  | [], _ => rfl
  | v :: vs, h => by
    rw [List.mem_cons, not_or] at h
    rw [L2.wipe, List.getElem?_set_ne (fun z => h.1 z.symm), wipe_get h.2]
theorem wipe_mem {σ : L2.St} {j : Nat} : ∀ {vs : List Nat}, j ∈ vs → j < σ.length → (wipe σ vs)[j]? = some none
  | [], h, _ => by cases h
  | v :: vs, h, hl => by
    rw [L2.wipe]
    by_cases e : v = j
    · subst e
      rw [List.getElem?_set_self (by rw [wipe_length]; exact hl)]
    · rw [List.getElem?_set_ne e]
      rcases List.mem_cons.mp h with z | z
      · exact absurd z.symm e
      · exact wipe_mem z hl
theorem wipe_same {σ σ' : L2.St} {vs : List Nat} (l : σ'.length = σ.length) (h : ∀ j, j ∉ vs → σ'[j]? = σ[j]?) : wipe σ' vs = wipe σ vs := by
  apply List.ext_getElem?
  intro j
  by_cases hj : j ∈ vs
  · by_cases hl : j < σ.length
    · rw [wipe_mem hj (by rw [l]; exact hl), wipe_mem hj hl]
    · rw [List.getElem?_eq_none (by rw [wipe_length]; omega), List.getElem?_eq_none (by rw [wipe_length]; omega)]
  · rw [wipe_get hj, wipe_get hj, h j hj]
theorem wipe_idem {σ : L2.St} {vs : List Nat} : wipe (wipe σ vs) vs = wipe σ vs := wipe_same (wipe_length σ vs) fun j hj => wipe_get hj
theorem sz_most {n : Nat} (h : n ≤ most) : n ≤ sizeLine := by rw [sizeLine_eq]; unfold most at h; omega

/-- what is said of a comprehension's data is what its rule wants -/
theorem lc_rd {mu : Bool} {elt : EV.X} {tg : Tg} {src : Sr} {cond : Xo} {own : List Nat} {K : PySem.W.Frag} (hsub : (tg.slots.all fun j => own.contains j) = true) {σ : L2.St} {H : Hp} {Q : VK} (h : rdX K g (evX cf (.lc mu elt tg src cond own)) W σ H Q) :
    tLc (rdI K g (evSr cf src) W) (rdG K g tg) (rdB K g (evXc cf cond) W0) (rdX K g (evX cf elt) W0) own σ H Q := by
  obtain ⟨l, e, st, μ, R, S, P⟩ := h
  rw [evX] at P
  refine ⟨l, e, st, μ, R, S, P.seq fun items st1 μ1 H1 J E1 R1 ⟨hmost, Gq, Y, wk, hG, hY⟩ P1 D hD => ?_⟩
  have S1 := S.ext R E1
  have nDl : D ∉ l := fun z => by
    obtain ⟨_, xs, q⟩ := R1.hid D z
    rw [hD] at q; cases q
  have hhid : ∀ a ∈ D :: l, a ∈ (g.h l).hid ∨ H1 a = none := fun a ha => by
    rcases List.mem_cons.mp ha with z | z
    · rw [z]; exact .inr hD
    · exact .inl z
  generalize hf : (fun (d : EV.D) (s : Store) => match evTg tg d (wipeE e own) with
      | none => (EV.R.fail : EV.R (Option EV.D))
      | some σ1 => (evXc cf cond σ1 s).bind fun b s1 => if b then (evX cf elt σ1 s1).bind fun x s2 => .ok (some x) s2 else .ok none s1) = f at P1
  refine lc_it wk (fun i H' => ∃ μ' st' acc accV, Ext μ1 st1 H1 μ' st' H' ∧ Rel K (g.h (D :: l)) μ' st' H' ∧ H' D = some (.lst accV) ∧ Reps K (g.h (D :: l)) μ' st' H' acc.reverse accV ∧ acc.length ≤ i ∧
      Post K (g.h l) (Rep K (g.h l)) μ1 st1 H1 ((lcLoop f (items.drop i) acc st').bind fun ds st2 => if mu then .ok (.loc st2.length) (st2 ++ [.lst ds]) else .ok (.lst ds) st2) Q (fun c d H' => W c d σ H')) ?_ ?_ ?_ ?_
  · obtain ⟨R2, E2⟩ := R1.upd_free (o := .lst []) hD
    exact ⟨μ1, st1, [], [], E2, R1.hide hD, upd_same, .nil, Nat.le_refl _, P1⟩
  · rintro i H' hi ⟨μ', st', acc, accV, E, _⟩
    exact hG _ _ _ E
  · rintro i x H2 H3 hi ⟨μ', st', acc, accV, E, R2, hL, rs, hn, PP⟩ y
    have hd : items[i]? = some items[i] := List.getElem?_eq_getElem hi
    obtain ⟨E3, R3, r3⟩ := hY i x H2 H3 items[i] (D :: l) μ' st' hhid E R2 hd y
    have EE := E.trans E3
    have S3 : SlRep K (g.h (D :: l)) μ' st' H3 e σ := ⟨S1.1, fun j d h => let ⟨v, h1, h2⟩ := S1.2 j d h; ⟨v, h1, h2.extH R1 EE hhid⟩⟩
    have S4 := S3.wipe own
    have nLive : ¬ Live μ' st' D := fun ⟨j, o, h1, h2, h3⟩ => (R2.hid D List.mem_cons_self).1 (List.mem_of_getElem? h1)
    have hL3 : H3 D = some (.lst accV) := E3.keep _ _ hL nLive
    have rs3 := rs.ext R2 E3
    rw [List.drop_eq_getElem_cons hi, lcLoop] at PP
    have hfi : f items[i] st' = match evTg tg items[i] (wipeE e own) with
      | none => (EV.R.fail : EV.R (Option EV.D))
      | some σ1 => (evXc cf cond σ1 st').bind fun b s1 => if b then (evX cf elt σ1 s1).bind fun x s2 => .ok (some x) s2 else .ok none s1 := by rw [← hf]
    rw [hfi] at PP
    cases hev : evTg tg items[i] (wipeE e own) with
    | none => rw [hev] at PP; exact PP.elim
    | some e1 =>
      rw [hev] at PP
      simp only [] at PP
      refine ⟨D :: l, μ', st', wipeE e own, items[i], e1, R3, S4, r3, hev, fun σ2 Sσ hσl hσ => ⟨?_, D :: l, e1, st', μ', R3, Sσ, ?_⟩⟩
      · rw [← wipe_idem (σ := σ)]
        refine wipe_same hσl fun j hj => hσ j fun z => hj ?_
        have := List.all_eq_true.mp hsub j z
        simpa using this
      · cases hq : evXc cf cond e1 st' with
        | exc c fs s1 => rw [hq] at PP; exact PP.elim
        | fail => rw [hq] at PP; exact PP.elim
        | ok bv s1 =>
          rw [hq] at PP
          intro μ5 H5 v5 E5 R5 r5
          cases r5
          have nLive3 : ¬ Live μ' st' D := nLive
          have hL5 : H5 D = some (.lst accV) := E5.keep _ _ hL3 nLive3
          cases bv with
          | false =>
            exact ⟨μ5, s1, acc, accV, EE.trans E5, R5, hL5, rs3.ext R3 E5, Nat.le_succ_of_le hn, PP⟩
          | true =>
            refine ⟨D :: l, e1, s1, μ5, R5, Sσ.ext R3 E5, ?_⟩
            simp only [EV.R.bind_ok, if_true] at PP
            cases hq2 : evX cf elt e1 s1 with
            | exc c fs s2 => rw [hq2] at PP; exact PP.elim
            | fail => rw [hq2] at PP; exact PP.elim
            | ok d6 s2 =>
              rw [hq2] at PP
              intro μ6 H6 v6 E6 R6 r6
              have nLive5 : ¬ Live μ5 s1 D := fun ⟨j, o, h1, h2, h3⟩ => (R5.hid D List.mem_cons_self).1 (List.mem_of_getElem? h1)
              have hL6 : H6 D = some (.lst accV) := E6.keep _ _ hL5 nLive5
              have rs6 := (rs3.ext R3 E5).ext R5 E6
              have hlen : accV.length = acc.length := by rw [← rs.length, List.length_reverse]
              refine ⟨accV, hL6, ?_, ?_⟩
              · rw [hlen]
                have : acc.length < most := by omega
                rw [sizeLine_eq]; unfold most at this; omega
              · have rr : Reps K (g.h (D :: l)) μ6 s2 H6 (d6 :: acc).reverse (accV ++ [v6]) := by
                  rw [List.reverse_cons]
                  exact rs6.append (.one r6)
                have hDh : D ∈ (g.h (D :: l)).hid := List.mem_cons_self
                exact ⟨μ6, s2, d6 :: acc, accV ++ [v6], ((EE.trans E5).trans E6).grow hD, R6.grow hDh hL6, upd_same, rr.grow hDh hL6, by rw [List.length_cons]; omega, PP⟩
  · rintro H' ⟨μ', st', acc, accV, E, R2, hL, rs, hn, PP⟩
    rw [List.drop_eq_nil_of_le (Nat.le_refl _), lcLoop] at PP
    have hlen : acc.reverse.length ≤ most := by rw [List.length_reverse]; omega
    have nL := (R2.hid D List.mem_cons_self).1
    cases mu with
    | true =>
      obtain ⟨R3, r3⟩ := R2.adopt hL hlen rs nDl
      exact PP _ _ _ (E.adopt hD) R3 r3
    | false =>
      have R3 := R2.show
      refine PP _ _ _ E R3 (.lst (.inl hL) ?_ nDl hlen rs.show)
      rintro ⟨j, o, h1, h2, h3⟩
      exact nL (List.mem_of_getElem? h1)
theorem set_pure {eiter : Expr} {env : Env} (hs : (!isSet eiter) = true) : ∀ x, foldedSetIterable eiter env x = pure x := by
  intro x
  cases eiter <;> first | rfl | (simp [isSet] at hs)
theorem c_lc {mu : Bool} {elt : EV.X} {tg : Tg} {src : Sr} {cond : Xo} {own : List Nat} {eelt eiter : Expr} {ifs : List Expr} {scope : Scope} (G : Good g cf Γ X W) (hc : Γ.calm = true) (hb : blkC Γ.N Γ.sc scope (ownN Γ.N own) = true)
    (hi : PI X etg eiter (rdI X.K g (evSr cf src) W)) (ht : chkTg (Γ.blk scope) tg etg = true) (hsub : (tg.slots.all fun j => own.contains j) = true)
    (hcnd : ∀ X', X'.K = X.K → Good g cf (Γ.blk scope) X' W0 → PTs X' ifs (rdB X.K g (evXc cf cond) W0)) (he : ∀ X', X'.K = X.K → Good g cf (Γ.blk scope) X' W0 → PE X' eelt (rdX X.K g (evX cf elt) W0)) (hs : (!isSet eiter) = true) :
    PE X (.ListComp eelt [⟨etg, eiter, ifs, 0⟩] scope pos) (rdX X.K g (evX cf (.lc mu elt tg src cond own)) W) := by
  refine (pe_lc (g := rdG X.K g tg) (G.calm hc) G.nd hi (blkOk_by (by rw [G.N, G.sc]; exact hb)) (fun s H C cl fp => tgOk G.blk ht) (fun s H C cl fp => hcnd _ rfl G.blk) (fun s H C cl fp => he _ rfl G.blk) (set_pure hs)).imp fun σ H Q h => ?_
  rw [ownN_snd]
  exact lc_rd hsub h
/-- name = [..] on one line -/
theorem s_lc {mu : Bool} {elt : EV.X} {tg : Tg} {src : Sr} {cond : Xo} {own : List Nat} {eelt eiter : Expr} {ifs : List Expr} {scope : Scope} {i : Nat} {y : Str} {py spos : Pos} (G : Good g cf Γ X W) (hc : Γ.calm = true) (hb : blkC Γ.N Γ.sc scope (ownN Γ.N own) = true)
    (hi : PI X etg eiter (rdI X.K g (evSr cf src) W)) (ht : chkTg (Γ.blk scope) tg etg = true) (hsub : (tg.slots.all fun j => own.contains j) = true)
    (hcnd : ∀ X', X'.K = X.K → Good g cf (Γ.blk scope) X' W0 → PTs X' ifs (rdB X.K g (evXc cf cond) W0)) (he : ∀ X', X'.K = X.K → Good g cf (Γ.blk scope) X' W0 → PE X' eelt (rdX X.K g (evX cf elt) W0)) (hs : (!isSet eiter) = true)
    (hy : Γ.N[i]? = some y) (hyl : Γ.sc.names.lookup y = some .local) (hsw : swapsWith (.ListComp eelt [⟨etg, eiter, ifs, 0⟩] scope pos) (some (.Name y py)) spos.line X.env = pure true) :
    PS X (.Assign [.Name y py] (.ListComp eelt [⟨etg, eiter, ifs, 0⟩] scope pos) spos) (tAsg (rdX X.K g (evX cf (.lc mu elt tg src cond own)) W) (gName i)) := by
  refine (ps_setLc (g := rdG X.K g tg) (G.calm hc) G.nd (by rw [G.N]; exact hy) (by rw [G.sc]; exact hyl) hsw hi (blkOk_by (by rw [G.N, G.sc]; exact hb)) (fun s H C cl fp => tgOk G.blk ht) (fun s H C cl fp => hcnd _ rfl G.blk) (fun s H C cl fp => he _ rfl G.blk) (set_pure hs)).imp fun D σ H h => ?_
  rw [ownN_snd]
  exact lc_rd hsub h
end
end EV
/-! EvK: every expression that passes the check is sound. -/
namespace EV
open PySem PySem.Spec PyProof.Rows L2

theorem plain_he {e : Expr} (h : plainT e = true) {env : Env} : ∀ whole, isTrue e env whole = (do let v ← whole; standAt e.pos; holding [v] (truthy v)) := by
  intro whole
  cases e with
  | UnaryOp op _ _ => cases op <;> first | rfl | (simp [plainT] at h)
  | BoolOp _ _ _ => simp [plainT] at h
  | IfExp _ _ _ _ => simp [plainT] at h
  | Compare _ _ _ _ => simp [plainT] at h
  | _ => rfl

section
variable {g : G} {cf : Call}
theorem both {X : Cx} {W : WX} {e : Expr} {m : Sl → Store → EV.R EV.D} (h : PE X e (rdX X.K g m W)) (hp : plainT e = true) : PE X e (rdX X.K g m W) ∧ PT X e (rdB X.K g (asB m) W) := by
  refine ⟨h, (pt_val h (plain_he hp)).imp fun σ H Q ⟨l, e, st, μ, R, S, P⟩ => ⟨l, e, st, μ, R, S, asB_seq P fun b st1 μ1 H1 E1 R1 q => ⟨b, rfl, q⟩⟩⟩
theorem asB_bop {isAnd : Bool} {x y : EV.X} {ys : Xs} {e : Sl} {st : Store} : asB (evBop cf isAnd (.cons x (.cons y ys))) e st = (asB (evX cf x) e st).bind fun b st1 => if b = isAnd then asB (evBop cf isAnd (.cons y ys)) e st1 else .ok b st1 := by
  unfold asB
  rw [evBop]
  · generalize evX cf x e st = r
    cases r with
    | ok d st1 =>
      cases d with
      | bl b =>
        simp only [EV.R.bind_ok]
        by_cases hb : b = isAnd
        · rw [if_pos hb, if_pos hb]
        · rw [if_neg hb, if_neg hb]; rfl
      | _ => rfl
    | exc c fs st1 => rfl
    | fail => rfl
  · intro h
    cases h
theorem evXc_some {a : EV.X} : evXc cf (.some a) = asB (evX cf a) := by
  funext e st
  rw [evXc]
  rfl
theorem srSet : ∀ (sr : Sr) {Γ : Gm} {etg e : Expr}, chkSr sr Γ etg e = true → (!isSet e) = true
  | .val a, Γ, etg, e, h => by
    simp only [chkSr, Bool.and_eq_true] at h
    exact h.2
  | .rng a, Γ, etg, e, h => by cases e <;> first | (simp [chkSr] at h; done) | rfl
  | .rng2 a b, Γ, etg, e, h => by cases e <;> first | (simp [chkSr] at h; done) | rfl
  | .enm a, Γ, etg, e, h => by cases etg <;> first | (simp [chkSr] at h; done) | (cases e <;> first | (simp [chkSr] at h; done) | rfl)
  | .zip a b, Γ, etg, e, h => by cases etg <;> first | (simp [chkSr] at h; done) | (cases e <;> first | (simp [chkSr] at h; done) | rfl)
mutual
theorem xOk : ∀ (x : EV.X) {Γ : Gm} {e : Expr} {X : Cx} {W : WX}, Good g cf Γ X W → chkX x Γ e = true → PE X e (rdX X.K g (evX cf x) W) ∧ PT X e (rdB X.K g (asB (evX cf x)) W)
  | .var i, Γ, e, X, W, G, h => by
    cases e <;> first | (simp [chkX] at h; done) | skip
    simp only [chkX, Bool.and_eq_true, decide_eq_true_eq] at h
    exact both (c_var (cf := cf) G h.1.1.1 h.1.1.2 h.1.2 h.2) rfl
  | .con d, Γ, e, X, W, G, h => by
    cases e <;> first | (simp [chkX] at h; done) | skip
    · simp only [chkX] at h
      exact both (c_con (g := g) (cf := cf) (X := X) (W := W) h) rfl
    · simp only [chkX, Bool.and_eq_true] at h
      obtain ⟨⟨h1, h2⟩, h3⟩ := h
      split at h3
      · rename_i d' hd
        exact both (c_cst (cf := cf) G h1 h2 hd (D.beq_eq _ _ h3)) rfl
      · cases h3
  | .gfn k, Γ, e, X, W, G, h => by
    cases e <;> first | (simp [chkX] at h; done) | skip
    simp only [chkX, Bool.and_eq_true] at h
    obtain ⟨⟨h1, h2⟩, h3⟩ := h
    split at h3
    · rename_i q hq
      obtain ⟨n, m⟩ := q
      simp only [decide_eq_true_eq] at h3
      subst h3
      exact both (c_gfn (cf := cf) G h1 h2 hq) rfl
    · cases h3
  | .bin op a b, Γ, e, X, W, G, h => by
    cases e <;> first | (simp [chkX] at h; done) | skip
    simp only [chkX, Bool.and_eq_true, decide_eq_true_eq] at h
    obtain ⟨⟨rfl, h1⟩, h2⟩ := h
    exact both (c_bin (op := op) (xOk a G h1).1 (xOk b G h2).1) rfl
  | .neg a, Γ, e, X, W, G, h => by
    cases e <;> first | (simp [chkX] at h; done) | skip
    rename_i op ea p
    cases op <;> first | (simp [chkX] at h; done) | skip
    simp only [chkX] at h
    exact both (c_neg (xOk a G h).1) rfl
  | .not a, Γ, e, X, W, G, h => by
    cases e <;> first | (simp [chkX] at h; done) | skip
    rename_i op ea p
    cases op <;> first | (simp [chkX] at h; done) | skip
    simp only [chkX] at h
    exact ⟨c_not (xOk a G h).1, t_not (xOk a G h).2⟩
  | .bop isAnd xs, Γ, e, X, W, G, h => by
    cases e <;> first | (simp [chkX] at h; done) | skip
    rename_i op es p
    simp only [chkX, Bool.and_eq_true, decide_eq_true_eq] at h
    obtain ⟨rfl, h⟩ := h
    have ee : evX cf (.bop isAnd xs) = evBop cf isAnd xs := by funext σ st; rw [evX]
    rw [ee]
    by_cases hn : es = []
    · subst hn
      cases xs with
      | nil =>
        refine ⟨⟨fun pins s σ H Q I ⟨l, e, st, μ, R, S, P⟩ => ?_⟩, ⟨fun pins s σ H Q I ⟨l, e, st, μ, R, S, P⟩ => ?_⟩⟩
        · rw [evBop] at P; exact P.elim
        · unfold asB at P; rw [evBop] at P; exact P.elim
      | cons _ _ => simp [chkXs] at h
    · obtain ⟨h1, h2⟩ := bopOk isAnd xs (pos := p) G h hn
      exact ⟨h1, h2.pt⟩
  | .cmp op a b, Γ, e, X, W, G, h => by
    cases e <;> first | (simp [chkX] at h; done) | skip
    rename_i ea ops cs p
    match ops, cs, h with
    | [o], [eb], h =>
      simp only [chkX, Bool.and_eq_true, decide_eq_true_eq] at h
      obtain ⟨⟨⟨rfl, h1⟩, h2⟩, h3⟩ := h
      exact ⟨c_cmp G h3 (xOk a G h1).1 (xOk b G h2).1, t_cmp G h3 (xOk a G h1).1 (xOk b G h2).1⟩
    | [], _, h => simp [chkX] at h
    | _ :: _ :: _, _, h => simp [chkX] at h
    | [_], [], h => simp [chkX] at h
    | [_], _ :: _ :: _, h => simp [chkX] at h
  | .chn op op' a b c, Γ, e, X, W, G, h => by
    cases e <;> first | (simp [chkX] at h; done) | skip
    rename_i ea ops cs p
    match ops, cs, h with
    | [o, o'], [eb, ec], h =>
      simp only [chkX, Bool.and_eq_true, decide_eq_true_eq] at h
      obtain ⟨⟨⟨⟨⟨⟨rfl, rfl⟩, h1⟩, h2⟩, h3⟩, h4⟩, h5⟩ := h
      exact ⟨c_chn G h5 (xOk a G h1).1 (xOk b G h2).1 (xOk c G h3).1, t_chn G h5 (xOk a G h1).1 (xOk b G h2).1 (xOk c G h3).1⟩
    | [], _, h => simp [chkX] at h
    | [_], _, h => simp [chkX] at h
    | _ :: _ :: _ :: _, _, h => simp [chkX] at h
    | [_, _], [], h => simp [chkX] at h
    | [_, _], [_], h => simp [chkX] at h
    | [_, _], _ :: _ :: _ :: _, h => simp [chkX] at h
  | .ife c a b, Γ, e, X, W, G, h => by
    cases e <;> first | (simp [chkX] at h; done) | skip
    simp only [chkX, Bool.and_eq_true] at h
    obtain ⟨⟨h1, h2⟩, h3⟩ := h
    exact ⟨c_ife (xOk c G h1).2 (xOk a G h2).1 (xOk b G h3).1, t_ife (xOk c G h1).2 (xOk a G h2).2 (xOk b G h3).2⟩
  | .tup xs, Γ, e, X, W, G, h => by
    cases e <;> first | (simp [chkX] at h; done) | skip
    simp only [chkX, Bool.and_eq_true, decide_eq_true_eq] at h
    exact both (c_tup h.2 h.1 (xsOk xs G h.1)) rfl
  | .lst mu xs, Γ, e, X, W, G, h => by
    cases e <;> first | (simp [chkX] at h; done) | skip
    simp only [chkX, Bool.and_eq_true, decide_eq_true_eq] at h
    exact both (c_lst (mu := mu) h.2 h.1 (xsOk xs G h.1)) rfl
  | .idx a i, Γ, e, X, W, G, h => by
    cases e <;> first | (simp [chkX] at h; done) | skip
    simp only [chkX, Bool.and_eq_true] at h
    exact both (c_idx h.2 (xOk a G h.1.1).1 (xOk i G h.1.2).1) rfl
  | .sl a lo hi, Γ, e, X, W, G, h => by
    cases e <;> first | (simp [chkX] at h; done) | skip
    rename_i ea es p
    cases es <;> first | (simp [chkX] at h; done) | skip
    rename_i l u stp p2
    cases stp with
    | some _ => simp [chkX] at h
    | none =>
      simp only [chkX, Bool.and_eq_true] at h
      exact both (c_sl (p2 := p2) (pos := p) (xOk a G h.1.1).1 (xoOk lo G h.1.2) (xoOk hi G h.2)) rfl
  | .call k args, Γ, e, X, W, G, h => by
    cases e <;> first | (simp [chkX] at h; done) | skip
    rename_i f as kws p
    cases f <;> first | (simp [chkX] at h; done) | skip
    match as, kws, h with
    | e :: es, [], h =>
      simp only [chkX, Bool.and_eq_true, decide_eq_true_eq] at h
      obtain ⟨⟨⟨⟨h1, h2⟩, h3⟩, h4⟩, h5⟩ := h
      exact both (c_call G h1 h2 h3 h4 h5 (xsOk args G h5)) rfl
    | [], _, h => simp [chkX] at h
    | _ :: _, _ :: _, h => simp [chkX] at h
  | .callv i ks args, Γ, e, X, W, G, h => by
    cases e <;> first | (simp [chkX] at h; done) | skip
    rename_i f as kws p
    cases f <;> first | (simp [chkX] at h; done) | skip
    match as, kws, h with
    | e :: es, [], h =>
      simp only [chkX, Bool.and_eq_true, decide_eq_true_eq] at h
      obtain ⟨⟨⟨⟨⟨⟨h1, h2⟩, h3⟩, h4⟩, h5⟩, h6⟩, h7⟩ := h
      have h6' : ∀ k ∈ ks, ∃ x, Γ.fns[k]? = some (x, (e :: es).length) := by
        intro k hk
        have := List.all_eq_true.mp h6 k hk
        split at this
        · rename_i q hq
          obtain ⟨x, m⟩ := q
          simp only [decide_eq_true_eq] at this
          subst this
          exact ⟨x, hq⟩
        · cases this
      exact both (c_callv G h1 h2 h3 h4 h5 h6' h7 (xsOk args G h7)) rfl
    | [], _, h => simp [chkX] at h
    | _ :: _, _ :: _, h => simp [chkX] at h
  | .blt f args, Γ, e, X, W, G, h => by
    cases e <;> first | (simp [chkX] at h; done) | skip
    rename_i fe as kws p
    cases fe <;> first | (simp [chkX] at h; done) | skip
    match as, kws, h with
    | e :: es, [], h =>
      simp only [chkX, Bool.and_eq_true, decide_eq_true_eq] at h
      obtain ⟨⟨⟨⟨h1, h2⟩, h3⟩, h4⟩, h5⟩ := h
      exact both (c_blt G h1 h2 h3 h4 h5 (xsOk args G h5)) rfl
    | [], _, h => simp [chkX] at h
    | _ :: _, _ :: _, h => simp [chkX] at h
  | .isi a t, Γ, e, X, W, G, h => by
    cases e <;> first | (simp [chkX] at h; done) | skip
    rename_i fe as kws p
    cases fe <;> first | (simp [chkX] at h; done) | skip
    match as, kws, h with
    | [ea, .Name y p2], [], h =>
      simp only [chkX, Bool.and_eq_true, decide_eq_true_eq] at h
      obtain ⟨⟨⟨⟨⟨rfl, rfl⟩, h2⟩, h3⟩, h4⟩, h5⟩ := h
      exact both (c_isi (t := t) (p2 := p2) G h2 h3 h5 (xOk a G h4).1) rfl
    | [], _, h => simp [chkX] at h
    | [_], _, h => simp [chkX] at h
    | _ :: _ :: _ :: _, _, h => simp [chkX] at h
    | [_, ty], _ :: _, h => cases ty <;> simp [chkX] at h
    | [_, .BoolOp ..], [], h | [_, .NamedExpr ..], [], h | [_, .BinOp ..], [], h | [_, .UnaryOp ..], [], h | [_, .Lambda ..], [], h | [_, .IfExp ..], [], h | [_, .Dict ..], [], h | [_, .Set ..], [], h | [_, .ListComp ..], [], h
    | [_, .SetComp ..], [], h | [_, .DictComp ..], [], h | [_, .GeneratorExp ..], [], h | [_, .Await ..], [], h | [_, .Yield ..], [], h | [_, .YieldFrom ..], [], h | [_, .Compare ..], [], h | [_, .Call ..], [], h | [_, .FormattedValue ..], [], h
    | [_, .JoinedStr ..], [], h | [_, .Constant ..], [], h | [_, .Attribute ..], [], h | [_, .Subscript ..], [], h | [_, .Starred ..], [], h | [_, .List ..], [], h | [_, .Tuple ..], [], h | [_, .Slice ..], [], h => simp [chkX] at h
  | .mth _ _ _, Γ, e, X, W, G, h => by
    simp [chkX] at h
  | .lc mu elt tg src cond own, Γ, e, X, W, G, h => by
    cases e <;> first | (simp [chkX] at h; done) | skip
    rename_i eelt gs scope p
    match gs, h with
    | [⟨etg, eiter, ifs, ia⟩], h =>
      simp only [chkX, Bool.and_eq_true, decide_eq_true_eq] at h
      obtain ⟨⟨⟨⟨⟨⟨⟨rfl, h1⟩, h2⟩, h3⟩, h4⟩, h5⟩, h6⟩, h7⟩ := h
      have hns : (!isSet eiter) = true := srSet src h3
      exact both (c_lc (mu := mu) G h1 h2 (srOk src G h3) h4 h5 (fun X' hK G' => hK ▸ xcOk cond G' h6) (fun X' hK G' => hK ▸ (xOk elt G' h7).1) hns) rfl
    | [], h => simp [chkX] at h
    | _ :: _ :: _, h => simp [chkX] at h
  | .frz a, Γ, e, X, W, G, h => by
    simp only [chkX, Bool.and_eq_true] at h
    have c := c_frz (xOk a G h.1).1
    exact ⟨c, t_val c (plain_he h.2)⟩
  | .catm a b, Γ, e, X, W, G, h => by
    cases e <;> first | (simp [chkX] at h; done) | skip
    rename_i ea op eb p
    cases op <;> first | (simp [chkX] at h; done) | skip
    simp only [chkX, Bool.and_eq_true] at h
    exact both (c_catm (xOk a G h.1).1 (xOk b G h.2).1) rfl
  | .trg a, Γ, e, X, W, G, h => by
    rw [chkX] at h
    split at h
    · rename_i e1 he1
      have ih := (xOk a G h).1
      unfold trgArg at he1
      split at he1
      · split at he1
        · rename_i hh
          cases he1
          simp only [Bool.and_eq_true, decide_eq_true_eq] at hh
          obtain ⟨⟨⟨⟨⟨h1, rfl⟩, rfl⟩, h3⟩, h4⟩, h6⟩ := hh
          exact both (c_trg G h1 h3 h4 h6 ih) rfl
        · cases he1
      · cases he1
    · cases h
  | .dgt k1 k2 a b c d, Γ, e, X, W, G, h => by
    rw [chkX] at h
    split at h
    · rename_i e1 e2 e3 e4 he1
      simp only [Bool.and_eq_true] at h
      obtain ⟨⟨⟨i1, i2⟩, i3⟩, i4⟩ := h
      have j1 := (xOk a G i1).1
      have j2 := (xOk b G i2).1
      have j3 := (xOk c G i3).1
      have j4 := (xOk d G i4).1
      unfold dgtArg at he1
      split at he1
      · split at he1
        · rename_i hh
          cases he1
          simp only [Bool.and_eq_true, decide_eq_true_eq] at hh
          obtain ⟨⟨⟨⟨⟨⟨rfl, rfl⟩, h3⟩, rfl⟩, h5⟩, h6⟩, h7⟩ := hh
          exact both (c_dgt G h3 h5 h6 h7 j1 j2 j3 j4) rfl
        · cases he1
      · cases he1
    · cases h
  | .srs a, Γ, e, X, W, G, h => by
    rw [chkX] at h
    split at h
    · rename_i e1 he1
      have ih := (xOk a G h).1
      unfold srsArg at he1
      split at he1
      · split at he1
        · rename_i hh
          cases he1
          simp only [Bool.and_eq_true, decide_eq_true_eq] at hh
          obtain ⟨⟨⟨⟨⟨h1, rfl⟩, rfl⟩, h3⟩, h4⟩, h6⟩ := hh
          exact both (c_srs G h1 h3 h4 h6 ih) rfl
        · cases he1
      · cases he1
    · cases h
theorem xsOk : ∀ (xs : Xs) {Γ : Gm} {es : List Expr} {X : Cx} {W : WX}, Good g cf Γ X W → chkXs xs Γ es = true → PA X es (rdXs X.K g (evXs cf xs) W)
  | .nil, Γ, [], X, W, G, h => a_nil
  | .nil, Γ, _ :: _, X, W, G, h => by simp [chkXs] at h
  | .cons x xs, Γ, [], X, W, G, h => by simp [chkXs] at h
  | .cons x xs, Γ, e :: es, X, W, G, h => by
    simp only [chkXs, Bool.and_eq_true] at h
    exact a_cons h.1.2 (xOk x G h.1.1).1 (xsOk xs G h.2)
theorem bopOk (isAnd : Bool) : ∀ (xs : Xs) {Γ : Gm} {es : List Expr} {pos : Pos} {X : Cx} {W : WX}, Good g cf Γ X W → chkXs xs Γ es = true → es ≠ [] →
    PE X (.BoolOp (if isAnd then .And else .Or) es pos) (rdX X.K g (evBop cf isAnd xs) W) ∧ PW X (.BoolOp (if isAnd then .And else .Or) es pos) (rdB X.K g (asB (evBop cf isAnd xs)) W)
  | .nil, Γ, [], pos, X, W, G, h, hn => absurd rfl hn
  | .nil, Γ, _ :: _, pos, X, W, G, h, hn => by simp [chkXs] at h
  | .cons x xs, Γ, [], pos, X, W, G, h, hn => absurd rfl hn
  | .cons x .nil, Γ, [e], pos, X, W, G, h, hn => by
    simp only [chkXs, Bool.and_eq_true] at h
    have ee : evBop cf isAnd (.cons x .nil) = evX cf x := by funext σ st; rw [evBop]
    rw [ee]
    refine ⟨pe_one (xOk x G h.1.1).1, ?_⟩
    cases isAnd with
    | true => exact pw_and1 (xOk x G h.1.1).2
    | false => exact pw_or1 (xOk x G h.1.1).2
  | .cons x .nil, Γ, _ :: _ :: _, pos, X, W, G, h, hn => by simp [chkXs] at h
  | .cons x (.cons y ys), Γ, [_], pos, X, W, G, h, hn => by simp [chkXs] at h
  | .cons x (.cons y ys), Γ, e :: e' :: es, pos, X, W, G, h, hn => by
    rw [chkXs, Bool.and_eq_true, Bool.and_eq_true] at h
    obtain ⟨i1, i2⟩ := xOk x G h.1.1
    obtain ⟨j1, j2⟩ := bopOk isAnd (.cons y ys) (pos := pos) G h.2 (by simp)
    cases isAnd with
    | true =>
      refine ⟨(pe_and i1 j1).imp fun σ H Q ⟨l, e, st, μ, R, S, P⟩ => ?_, (pw_and i2 j2).imp fun σ H Q ⟨l, e, st, μ, R, S, P⟩ => ?_⟩
      · rw [evBop] at P
        · refine ⟨l, e, st, μ, R, S, P.seq fun d st1 μ1 H1 v1 E1 R1 r1 P1 => ?_⟩
          obtain ⟨b, rfl, P2⟩ := P1.bool
          cases r1
          cases b with
          | true => exact ⟨true, rfl, l, e, st1, μ1, R1, S.ext R E1, P2⟩
          | false => exact ⟨false, rfl, P2.here R1 (.bl false)⟩
        · intro z; cases z
      · rw [asB_bop] at P
        refine ⟨l, e, st, μ, R, S, P.seq fun b st1 μ1 H1 v1 E1 R1 r1 P1 => ?_⟩
        cases r1
        cases b with
        | true => exact ⟨l, e, st1, μ1, R1, S.ext R E1, P1⟩
        | false => exact P1.here R1 rfl
    | false =>
      refine ⟨(pe_or i1 j1).imp fun σ H Q ⟨l, e, st, μ, R, S, P⟩ => ?_, (pw_or i2 j2).imp fun σ H Q ⟨l, e, st, μ, R, S, P⟩ => ?_⟩
      · rw [evBop] at P
        · refine ⟨l, e, st, μ, R, S, P.seq fun d st1 μ1 H1 v1 E1 R1 r1 P1 => ?_⟩
          obtain ⟨b, rfl, P2⟩ := P1.bool
          cases r1
          cases b with
          | true => exact ⟨true, rfl, P2.here R1 (.bl true)⟩
          | false => exact ⟨false, rfl, l, e, st1, μ1, R1, S.ext R E1, P2⟩
        · intro z; cases z
      · rw [asB_bop] at P
        refine ⟨l, e, st, μ, R, S, P.seq fun b st1 μ1 H1 v1 E1 R1 r1 P1 => ?_⟩
        cases r1
        cases b with
        | true => exact P1.here R1 rfl
        | false => exact ⟨l, e, st1, μ1, R1, S.ext R E1, P1⟩
theorem xoOk : ∀ (xo : Xo) {Γ : Gm} {eo : Option Expr} {X : Cx} {W : WX}, Good g cf Γ X W → chkXo xo Γ eo = true → PO X eo (rdO X.K g (evXo cf xo) W)
  | .none, Γ, none, X, W, G, h => o_none
  | .none, Γ, some _, X, W, G, h => by simp [chkXo] at h
  | .some x, Γ, none, X, W, G, h => by simp [chkXo] at h
  | .some x, Γ, some e, X, W, G, h => by
    simp only [chkXo] at h
    exact o_some (xOk x G h).1
theorem xcOk : ∀ (xo : Xo) {Γ : Gm} {ifs : List Expr} {X : Cx} {W : WX}, Good g cf Γ X W → chkXc xo Γ ifs = true → PTs X ifs (rdB X.K g (evXc cf xo) W)
  | .none, Γ, [], X, W, G, h => ⟨fun pins s σ H Q I ⟨l, e, st, μ, R, S, P⟩ => pts_nil.run pins s σ H Q I (by rw [evXc] at P; exact P.here R rfl)⟩
  | .none, Γ, _ :: _, X, W, G, h => by simp [chkXc] at h
  | .some x, Γ, [], X, W, G, h => by simp [chkXc] at h
  | .some x, Γ, [e], X, W, G, h => by
    simp only [chkXc] at h
    rw [evXc_some]
    exact pts_one (xOk x G h).2
  | .some x, Γ, _ :: _ :: _, X, W, G, h => by simp [chkXc] at h
theorem srOk : ∀ (sr : Sr) {Γ : Gm} {etg e : Expr} {X : Cx} {W : WX}, Good g cf Γ X W → chkSr sr Γ etg e = true → PI X etg e (rdI X.K g (evSr cf sr) W)
  | .val a, Γ, etg, e, X, W, G, h => by
    simp only [chkSr, Bool.and_eq_true] at h
    exact i_val (xOk a G h.1).1
  | .rng a, Γ, etg, e, X, W, G, h => by
    cases e <;> first | (simp [chkSr] at h; done) | skip
    rename_i f as kws p
    cases f <;> first | (simp [chkSr] at h; done) | skip
    match as, kws, h with
    | [e], [], h =>
      simp only [chkSr, Bool.and_eq_true, decide_eq_true_eq] at h
      obtain ⟨⟨⟨rfl, h1⟩, h2⟩, h3⟩ := h
      exact i_rng G h1 h3 (xOk a G h2).1
    | [], _, h => simp [chkSr] at h
    | _ :: _ :: _, _, h => simp [chkSr] at h
    | [_], _ :: _, h => simp [chkSr] at h
  | .rng2 a b, Γ, etg, e, X, W, G, h => by
    cases e <;> first | (simp [chkSr] at h; done) | skip
    rename_i f as kws p
    cases f <;> first | (simp [chkSr] at h; done) | skip
    match as, kws, h with
    | [e, e2], [], h =>
      simp only [chkSr, Bool.and_eq_true, decide_eq_true_eq] at h
      obtain ⟨⟨⟨⟨⟨rfl, h1⟩, h2⟩, h3⟩, h4⟩, h5⟩ := h
      exact i_rng2 G h1 h4 h5 (xOk a G h2).1 (xOk b G h3).1
    | [], _, h => simp [chkSr] at h
    | [_], _, h => simp [chkSr] at h
    | _ :: _ :: _ :: _, _, h => simp [chkSr] at h
    | [_, _], _ :: _, h => simp [chkSr] at h
  | .enm a, Γ, etg, e, X, W, G, h => by
    cases etg <;> first | (simp [chkSr] at h; done) | skip
    cases e <;> first | (simp [chkSr] at h; done) | skip
    rename_i f as kws p
    cases f <;> first | (simp [chkSr] at h; done) | skip
    match as, kws, h with
    | [e], [], h =>
      simp only [chkSr, Bool.and_eq_true, decide_eq_true_eq] at h
      obtain ⟨⟨⟨rfl, h1⟩, h2⟩, h3⟩ := h
      exact i_enm G h1 h3 (xOk a G h2).1
    | [], _, h => simp [chkSr] at h
    | _ :: _ :: _, _, h => simp [chkSr] at h
    | [_], _ :: _, h => simp [chkSr] at h
  | .zip a b, Γ, etg, e, X, W, G, h => by
    cases etg <;> first | (simp [chkSr] at h; done) | skip
    cases e <;> first | (simp [chkSr] at h; done) | skip
    rename_i f as kws p
    cases f <;> first | (simp [chkSr] at h; done) | skip
    match as, kws, h with
    | [e, e2], [], h =>
      simp only [chkSr, Bool.and_eq_true, decide_eq_true_eq] at h
      obtain ⟨⟨⟨⟨⟨rfl, h1⟩, h2⟩, h3⟩, h4⟩, h5⟩ := h
      exact i_zip G h1 h4 h5 (xOk a G h2).1 (xOk b G h3).1
    | [], _, h => simp [chkSr] at h
    | [_], _, h => simp [chkSr] at h
    | _ :: _ :: _ :: _, _, h => simp [chkSr] at h
    | [_, _], _ :: _, h => simp [chkSr] at h
end
end
end EV
/-! EvL: statements that pass the check are sound. -/
namespace EV
open PySem PySem.Spec PyProof.Rows L2

/-! ### readings -/
section
variable {K : PySem.W.Frag} {g : G} {μ μ' μ1 : List Addr} {st st' st1 : Store} {H H' H1 : Hp} {α β : Type} {D D' : Ends} {W W' : WX}
def PostS (K : PySem.W.Frag) (g : G) (μ : List Addr) (st : Store) (H : Hp) (r : RS) (D : Ends) (W : WX) : Prop :=
  match r with
  | .nx e' st' => ∀ μ' H' σ', Ext μ st H μ' st' H' → Rel K g μ' st' H' → SlRep K g μ' st' H' e' σ' → D.nx σ' H'
  | .rt d st' => ∀ μ' H' v, Ext μ st H μ' st' H' → Rel K g μ' st' H' → Rep K g μ' st' H' d v → D.rt v H'
  | .bk e' st' => ∀ μ' H' σ', Ext μ st H μ' st' H' → Rel K g μ' st' H' → SlRep K g μ' st' H' e' σ' → D.bk σ' H'
  | .ct e' st' => ∀ μ' H' σ', Ext μ st H μ' st' H' → Rel K g μ' st' H' → SlRep K g μ' st' H' e' σ' → D.ct σ' H'
  | .exc c fs e' st' => ∀ μ' H' σ' cls dd, Ext μ st H μ' st' H' → Rel K g μ' st' H' → SlRep K g μ' st' H' e' σ' → XRep K g μ' st' H' c fs cls dd → W cls dd σ' H'
  | .fail => False
theorem PostS.rebase {r : RS} (h : PostS K g μ st H r D W) (E : Ext μ st H μ1 st1 H1) : PostS K g μ1 st1 H1 r D W := by
  cases r with
  | nx e' st' => intro μ' H' σ' E' R' S'; exact h μ' H' σ' (E.trans E') R' S'
  | rt d st' => intro μ' H' v E' R' r'; exact h μ' H' v (E.trans E') R' r'
  | bk e' st' => intro μ' H' σ' E' R' S'; exact h μ' H' σ' (E.trans E') R' S'
  | ct e' st' => intro μ' H' σ' E' R' S'; exact h μ' H' σ' (E.trans E') R' S'
  | exc c fs e' st' => intro μ' H' σ' cls dd E' R' S' x; exact h μ' H' σ' cls dd (E.trans E') R' S' x
  | fail => exact h
/-- an expression, then a statement -/
theorem PostS.thn {RA : List Addr → Store → Hp → α → β → Prop} {r : R α} {f : α → Store → RS} {e : Sl} {σ : L2.St} {Q1 : β → Hp → Prop} (h : PostS K g μ st H (r.thn e f) D W) (R : Rel K g μ st H) (S : SlRep K g μ st H e σ)
    (k : ∀ a st1 μ1 H1 v1, Ext μ st H μ1 st1 H1 → Rel K g μ1 st1 H1 → RA μ1 st1 H1 a v1 → PostS K g μ1 st1 H1 (f a st1) D W → Q1 v1 H1) : Post K g RA μ st H r Q1 (fun c d H' => W c d σ H') := by
  cases r with
  | ok a st' => intro μ' H' v E' R' r'; exact k a st' μ' H' v E' R' r' (PostS.rebase h E')
  | exc c fs st' => intro μ' H' cls dd E' R' x; exact h μ' H' σ cls dd E' R' (S.ext R E') x
  | fail => exact h
def rdS (K : PySem.W.Frag) (g : G) (m : Sl → Store → RS) (W : WX) : TS := fun D σ H => ∃ l e st μ, Rel K (g.h l) μ st H ∧ SlRep K (g.h l) μ st H e σ ∧ PostS K (g.h l) μ st H (m e st) D W
end

/-! ### the check -/
def Gm.suite (Γ : Gm) : Gm := { Γ with calm := false, top := false }
/-- the comprehension stores by itself -/
def swB (sc : Scope) (v t : Expr) : Bool := match v, t with
  | .ListComp _ _ scope pos, .Name y py => sc.names.lookup y == some .local && py.line == pos.line && !(scope.names.any fun (n, k) => n == y && (k == .local || k == .cell))
  | _, _ => false
def isLC : Expr → Bool
  | .ListComp _ _ _ _ => true
  | _ => false
def isSC : Expr → Bool
  | .SetComp _ _ _ _ => true
  | .DictComp _ _ _ _ _ => true
  | _ => false
def plainBase : Expr → Bool
  | .Call _ _ _ _ => false
  | _ => true
/-- how an assignment is done -/
def asgMode (Γ : Gm) (tg : Tg) (x : EV.X) (t v : Expr) : Bool :=
  !isSC v && (match v, t with
    | .ListComp _ _ _ _, .Name y _ => Γ.top && (!swB Γ.sc v t || (match x, tg with
      | .lc _ _ _ _ _ _, .name _ => Γ.sc.names.lookup y == some .local
      | _, _ => false))
    | .Tuple vs _ _, .Tuple ts _ _ => Γ.top && Γ.sc.kind == .function && (match swOpt Γ.sc ts vs with
      | none => false
      | some none => true
      | some (some names) => (match tg, ts, x, vs with
        | .tup (.cons (.name i) (.cons (.name j) .nil)), [.Name a _, .Name b _], .tup (.cons _ (.cons _ .nil)), [_, _] =>
          decide (i ≠ j) && decide (names = [a, b]) && Γ.sc.names.lookup a == some .local && Γ.sc.names.lookup b == some .local
        | .tup (.cons (.name i) (.cons (.name j) (.cons (.name l) .nil))), [.Name a _, .Name b _, .Name c _], .tup (.cons _ (.cons _ (.cons _ .nil))), [_, _, _] =>
          decide (i ≠ j) && decide (i ≠ l) && decide (j ≠ l) && decide (names = [a, b, c]) && Γ.sc.names.lookup a == some .local && Γ.sc.names.lookup b == some .local && Γ.sc.names.lookup c == some .local
        | _, _, _, _ => false))
    | _, _ => true)
def chkRse (c : Nat) (Γ : Gm) (st : Stmt) : Bool := match st with
  | .Raise (some (.Call (.Name x _) [.Constant (.str _) _ _] [] _)) none _ => Γ.calm && decide (Γ.cls[c]? = some x) && Γ.rs.contains c && glb Γ.sc x && !dbg x
  | _ => false
mutual
def chkS : S → Gm → Stmt → Bool
  | .asg tg x, Γ, .Assign [t] v _ => chkX x Γ v && chkTg Γ tg t && asgMode Γ tg x t v
  | .sto o i x, Γ, .Assign [.Subscript eo ei _] v _ => !isLC v && !isSC v && chkX x Γ v && chkX o Γ eo && chkX i Γ ei && !isSlice ei
  | .app o x, Γ, .Expr (.Call (.Attribute eo m apos) [e] [] cpos) _ => decide (m = ("append" : Str)) && plainBase eo && apos.endLine == cpos.line && chkX o Γ eo && chkX x Γ e && !isStar e
  | .ex x, Γ, .Expr e _ => chkX x Γ e && !isLC e && !isSC e
  | .ret x, Γ, .Return (some e) _ => chkX x Γ e
  | .retN, _, .Return none _ => true
  | .ite c a b, Γ, .If ec sa sb _ => chkX c Γ ec && chkSs a Γ sa && chkSs b Γ sb
  | .for tg src body, Γ, .For etg eiter sbody [] _ => Γ.calm && Γ.top && chkSr src Γ etg eiter && chkTg Γ tg etg && chkSs body Γ sbody
  | .whl c body, Γ, .While ec sbody [] _ => Γ.top && chkX c Γ ec && chkSs body Γ sbody
  | .rse c, Γ, st => chkRse c Γ st
  | .tryc body hs, Γ, .Try sbody shs [] [] _ => Γ.top && chkSs body Γ sbody && chkHs hs Γ shs && !shs.isEmpty
  | .nev, _, _ => true
  | _, _, _ => false
def chkSs : Ss → Gm → List Stmt → Bool
  | .nil, _, [] => true
  | .cons (.frzv _) ss, Γ, sts => chkSs ss Γ sts
  | .cons s ss, Γ, t :: ts => chkS s Γ t && chkSs ss Γ ts
  | _, _, _ => false
def chkHs : Hs → Gm → List ExceptHandler → Bool
  | .nil, _, [] => true
  | .cons c body hs, Γ, .ExceptHandler (some (.Name x _)) none (b₀ :: suite) _ :: r => decide (Γ.cls[c]? = some x) && glb Γ.sc x && !dbg x && chkSs body Γ.suite (b₀ :: suite) && chkHs hs Γ r
  | _, _, _ => false
end

structure GoodS (g : G) (cf : Call) (sub : Nat → Nat → Bool) (Γ : Gm) (X : Cx) (W : WX) : Prop extends Good g cf Γ X W where
  cls : ∀ k x, Γ.cls[k]? = some x → X.mg x = some (.ref (g.ca k)) ∧ PySem.W.keepIn X.K (.ref (g.ca k)) = true
  raw : ∀ k, Γ.rs.contains k = true → PySem.W.excIn X.K (g.ca k) [.type "ValueError", .type "Exception", .type "BaseException", .type "object"] "ValueError.__new__" = true ∧ Raises X (.ref (g.ca k))
  exm : ∀ c k, k < Γ.cls.length → PySem.W.exmOne X.K (.ref (g.ca c)) (.ref (g.ca k)) = some (sub c k)

section
variable {g : G} {cf : Call} {sub : Nat → Nat → Bool} {fu : Nat} {Γ : Gm} {X : Cx} {W : WX} {e v t ea eb ec etg : Expr} {es : List Expr} {pos p : Pos} {a b c x y : EV.X} {xs : Xs} {tg : Tg}
theorem GoodS.tr (G : GoodS g cf sub Γ X W) {W' : WX} {pn : List (Addr × Obj)} {xe : Value → Shared → Prop} (tk : Takes (X.tr pn xe) W') (po : PassesOwn (model X.prog X.w) X.A X.env xe) : GoodS g cf sub Γ (X.tr pn xe) W' where
  N := G.N
  nd := G.nd
  sc := G.sc
  calm := G.calm
  room := G.room
  hu := G.hu
  tk := tk
  po := fun _ => po
  fk := G.fk
  fn := G.fn
  stk := G.stk
  bn := G.bn
  tab := G.tab
  cst := G.cst
  cls := G.cls
  raw := G.raw
  exm := G.exm
theorem GoodS.suite (G : GoodS g cf sub Γ X W) {a : Addr} {pn : List (Addr × Obj)} : GoodS g cf sub Γ.suite (X.suite a pn) W0 where
  N := G.N
  nd := G.nd
  sc := G.sc
  calm := fun h => by cases h
  room := fun h => by cases h
  hu := G.hu
  tk := fun u s' ⟨a, B, sI, pins, σ, H, cls, d, e, I, nb, up, sky, na, os, ag, w⟩ => w
  po := fun h => by cases h
  fk := fun h => by cases h
  fn := G.fn
  stk := fun h => by cases h
  bn := G.bn
  tab := G.tab
  cst := G.cst
  cls := G.cls
  raw := G.raw
  exm := G.exm

/-! ### assignments -/
theorem swaps_no {line : Nat} {env : Env} (h1 : isSC v = false) (h2 : isLC v = false) : swapsWithSole [t] v line env = pure false := by
  cases v <;> first | rfl | (simp [isSC] at h1; done) | (simp [isLC] at h2)
theorem swaps_lc {line : Nat} {env : Env} (hk : env.scope.kind = .function) {eelt : Expr} {gs : List Comprehension} {scope : Scope} {p2 : Pos} : swapsWithSole [t] (.ListComp eelt gs scope p2) line env = pure (swB env.scope (.ListComp eelt gs scope p2) t) := by
  have hb : env.blockKind = .function := by unfold Env.blockKind; rw [hk]; rfl
  cases t <;> first | rfl | skip
  rename_i y py
  have hkd : env.kindOf y = env.scope.names.lookup y := rfl
  unfold swapsWithSole swapsWith swB
  simp only [hb, hkd]
  rfl
theorem sw_none {env : Env} (h : ∀ vs k p, v = .Tuple vs k p → ∀ ts k' p', t ≠ .Tuple ts k' p') (h2 : ∀ ts p', t ≠ .List ts p') : swappedStores [t] v env = pure none := by
  cases t <;> first | rfl | skip
  · rename_i es p; exact absurd rfl (h2 es p)
  · cases v <;> first | rfl | skip
    exact absurd rfl (h _ _ _ rfl _ _ _)
theorem sw_unf {env : Env} {ts vs : List Expr} {k k2 : Nat} {p p2 : Pos} : swappedStores [.Tuple ts k p] (.Tuple vs k2 p2) env =
    (if !(ts.length == 2 || ts.length == 3) || vs.length != ts.length || env.blockKind != .function then pure none
    else if vs.any isStar then pure none
    else if (ts.filterMap (locN env.scope ((ts.head?.map (·.pos.line)).getD 0))).length != ts.length || (ts.filterMap (locN env.scope ((ts.head?.map (·.pos.line)).getD 0))).eraseDups.length != (ts.filterMap (locN env.scope ((ts.head?.map (·.pos.line)).getD 0))).length then pure none
    else if vs.all (foldedForSure 8) then pure none
    else if vs.all (constantsAlone 8) then (do unsupported "assign.tuple-of-constant-expressions:order-of-the-stores"; pure (some (ts.filterMap (locN env.scope ((ts.head?.map (·.pos.line)).getD 0)))))
    else pure (some (ts.filterMap (locN env.scope ((ts.head?.map (·.pos.line)).getD 0))))) := by
  with_unfolding_all rfl
theorem sw_opt {env : Env} (hk : env.scope.kind = .function) {ts vs : List Expr} {k k2 : Nat} {p p2 : Pos} {o : Option (List Str)} (h : swOpt env.scope ts vs = some o) : swappedStores [.Tuple ts k p] (.Tuple vs k2 p2) env = pure o := by
  have hb : env.blockKind = .function := by unfold Env.blockKind; rw [hk]; rfl
  have ebk : (env.blockKind != .function) = false := by rw [hb]; rfl
  rw [sw_unf, ebk, Bool.or_false]
  unfold swOpt at h
  split at h
  · rename_i c; rw [if_pos c]; cases h; rfl
  · rename_i c
    rw [if_neg c]
    split at h
    · rename_i c; rw [if_pos c]; cases h; rfl
    · rename_i c
      rw [if_neg c]
      split at h
      · rename_i c; rw [if_pos c]; cases h; rfl
      · rename_i c
        rw [if_neg c]
        split at h
        · rename_i c; rw [if_pos c]; cases h; rfl
        · rename_i c
          rw [if_neg c]
          split at h
          · cases h
          · rename_i c; rw [if_neg c]; cases h; rfl
theorem asg_rd {K : PySem.W.Frag} {D : Ends} {σ : L2.St} {H : Hp} (h : rdS K g (fun e st => (evX cf x e st).thn e fun d st1 => evAsg tg d e st1) W D σ H) :
    rdX K g (evX cf x) W σ H fun v H1 => rdG K g tg v σ H1 D.nx := by
  obtain ⟨l, e, st, μ, R, S, P⟩ := h
  refine ⟨l, e, st, μ, R, S, P.thn R S fun d st1 μ1 H1 v1 E1 R1 r1 P1 => ?_⟩
  unfold evAsg at P1
  split at P1
  · rename_i e' he'
    exact ⟨l, μ1, st1, e, d, e', R1, S.ext R E1, r1, he', fun σ' S' _ _ => P1 _ _ _ (Ext.refl R1.len) R1 S'⟩
  · exact P1.elim
theorem s_asg (G : Good g cf Γ X W) (hx : PE X v (rdX X.K g (evX cf x) W)) (ht : chkTg Γ tg t = true) (hs : swapsWithSole [t] v pos.line X.env = pure false) (hw : swappedStores [t] v X.env = pure none) :
    PS X (.Assign [t] v pos) (rdS X.K g (fun e st => (evX cf x e st).thn e fun d st1 => evAsg tg d e st1) W) :=
  (ps_asg hx (tgOk G ht) hs hw (by rw [each_one ht]; rfl)).imp fun D σ H h => asg_rd h
/-- one name by itself -/
theorem name_rd {K : PySem.W.Frag} {D : Ends} {σ : L2.St} {H : Hp} {i : Nat} (h : rdS K g (fun e st => (evX cf x e st).thn e fun d st1 => evAsg (.name i) d e st1) W D σ H) :
    tAsg (rdX K g (evX cf x) W) (gName i) D σ H := by
  obtain ⟨l, e, st, μ, R, S, P⟩ := h
  refine ⟨l, e, st, μ, R, S, P.thn R S fun d st1 μ1 H1 v1 E1 R1 r1 P1 => ?_⟩
  unfold evAsg at P1
  rw [evTg] at P1
  split at P1
  · rename_i e' he'
    split at he'
    · cases he'
      exact P1 _ _ _ (Ext.refl R1.len) R1 ((S.ext R E1).set r1 i)
    · cases he'
  · exact P1.elim
theorem set_len {σ : Sl} {i : Nat} {o : Option EV.D} : (σ.set i o).length = σ.length := List.length_set
theorem par_rd {K : PySem.W.Frag} {D : Ends} {σ : L2.St} {H : Hp} {i j : Nat} (h : rdS K g (fun e st => (evX cf (.tup (.cons a (.cons b .nil))) e st).thn e fun d st1 => evAsg (.tup (.cons (.name i) (.cons (.name j) .nil))) d e st1) W D σ H) :
    tPar i j (rdXs K g (evXs cf (.cons a (.cons b .nil))) W) D σ H := by
  obtain ⟨l, e, st, μ, R, S, P⟩ := h
  have P : PostS K (g.h l) μ st H ((evX cf (.tup (.cons a (.cons b .nil))) e st).thn e fun d st1 => evAsg (.tup (.cons (.name i) (.cons (.name j) .nil))) d e st1) D W := P
  have P' : PostS K (g.h l) μ st H ((evXs cf (.cons a (.cons b .nil)) e st).thn e fun ds st1 => evAsg (.tup (.cons (.name i) (.cons (.name j) .nil))) (.tup ds) e st1) D W := by
    rw [evX] at P
    generalize evXs cf (.cons a (.cons b .nil)) e st = r at P ⊢
    cases r <;> exact P
  refine ⟨l, e, st, μ, R, S, P'.thn R S fun ds st1 μ1 H1 vs E1 R1 rs P1 => ?_⟩
  unfold evAsg at P1
  rw [evTg] at P1
  match ds, rs with
  | [d1, d2], .cons r1 (.cons r2 .nil) =>
    simp only [evTgs, evTg] at P1
    refine ⟨_, _, rfl, ?_⟩
    split at P1
    · rename_i e' he'
      split at he'
      · simp only [Option.bind_some] at he'
        split at he'
        · simp only [Option.bind_some] at he'
          cases he'
          exact P1 _ _ _ (Ext.refl R1.len) R1 (((S.ext R E1).set r1 i).set r2 j)
        · cases he'
      · cases he'
    · exact P1.elim
  | [], _ => simp [evTgs] at P1; exact P1.elim
  | [_], _ =>
    simp only [evTgs, evTg] at P1
    split at P1
    · rename_i e' he'
      split at he' <;> simp at he'
    · exact P1.elim
  | _ :: _ :: _ :: _, _ =>
    simp only [evTgs, evTg] at P1
    split at P1
    · rename_i e' he'
      split at he' <;> simp at he'
    · exact P1.elim
theorem par3_rd {K : PySem.W.Frag} {D : Ends} {σ : L2.St} {H : Hp} {i j k : Nat} (h : rdS K g (fun e st => (evX cf (.tup (.cons a (.cons b (.cons c .nil)))) e st).thn e fun d st1 => evAsg (.tup (.cons (.name i) (.cons (.name j) (.cons (.name k) .nil)))) d e st1) W D σ H) :
    tPar3 i j k (rdXs K g (evXs cf (.cons a (.cons b (.cons c .nil)))) W) D σ H := by
  obtain ⟨l, e, st, μ, R, S, P⟩ := h
  have P : PostS K (g.h l) μ st H ((evX cf (.tup (.cons a (.cons b (.cons c .nil)))) e st).thn e fun d st1 => evAsg (.tup (.cons (.name i) (.cons (.name j) (.cons (.name k) .nil)))) d e st1) D W := P
  have P' : PostS K (g.h l) μ st H ((evXs cf (.cons a (.cons b (.cons c .nil))) e st).thn e fun ds st1 => evAsg (.tup (.cons (.name i) (.cons (.name j) (.cons (.name k) .nil)))) (.tup ds) e st1) D W := by
    rw [evX] at P
    generalize evXs cf (.cons a (.cons b (.cons c .nil))) e st = r at P ⊢
    cases r <;> exact P
  refine ⟨l, e, st, μ, R, S, P'.thn R S fun ds st1 μ1 H1 vs E1 R1 rs P1 => ?_⟩
  unfold evAsg at P1
  rw [evTg] at P1
  match ds, rs with
  | [d1, d2, d3], .cons r1 (.cons r2 (.cons r3 .nil)) =>
    simp only [evTgs, evTg] at P1
    refine ⟨_, _, _, rfl, ?_⟩
    split at P1
    · rename_i e' he'
      split at he'
      · simp only [Option.bind_some] at he'
        split at he'
        · simp only [Option.bind_some] at he'
          split at he'
          · simp only [Option.bind_some] at he'
            cases he'
            exact P1 _ _ _ (Ext.refl R1.len) R1 ((((S.ext R E1).set r1 i).set r2 j).set r3 k)
          · cases he'
        · cases he'
      · cases he'
    · exact P1.elim
  | [], _ => simp [evTgs] at P1; exact P1.elim
  | [_], _ =>
    simp only [evTgs, evTg] at P1
    split at P1
    · rename_i e' he'
      split at he' <;> simp at he'
    · exact P1.elim
  | [_, _], _ =>
    simp only [evTgs, evTg] at P1
    split at P1
    · rename_i e' he'
      split at he'
      · simp only [Option.bind_some] at he'
        split at he' <;> simp at he'
      · simp at he'
    · exact P1.elim
  | _ :: _ :: _ :: _ :: _, _ =>
    simp only [evTgs, evTg] at P1
    split at P1
    · rename_i e' he'
      split at he'
      · simp only [Option.bind_some] at he'
        split at he'
        · simp only [Option.bind_some] at he'
          split at he' <;> simp at he'
        · simp at he'
      · simp at he'
    · exact P1.elim

/-! ### small statements -/
theorem ixN_of {n : Nat} {i : Int} {j : Nat} (h : ixOf n i = some j) : ixN n i = some j := h
theorem s_sto {o i : EV.X} {eo ei : Expr} (h1 : isSC v = false) (h2 : isLC v = false) (h3 : (!isSlice ei) = true) (hx : PE X v (rdX X.K g (evX cf x) W)) (ho : PE X eo (rdX X.K g (evX cf o) W)) (hi : PE X ei (rdX X.K g (evX cf i) W)) :
    PS X (.Assign [.Subscript eo ei p] v pos) (rdS X.K g (fun e st => (evX cf x e st).thn e fun d st1 => (evX cf o e st1).thn e fun y st2 => (evX cf i e st2).thn e fun z st3 => evSto y z d e st3) W) := by
  refine (ps_asg hx (pg_sub ho hi set_list (by intro _; cases ei <;> first | rfl | (simp [isSlice] at h3))) (swaps_no h1 h2) (by cases v <;> rfl) (by rfl)).imp fun D σ H ⟨l, e, st, μ, R, S, P⟩ => ?_
  refine ⟨l, e, st, μ, R, S, P.thn R S fun d st1 μ1 H1 v1 E1 R1 r1 P1 => ?_⟩
  have S1 := S.ext R E1
  refine ⟨l, e, st1, μ1, R1, S1, P1.thn R1 S1 fun y st2 μ2 H2 v2 E2 R2 r2 P2 => ?_⟩
  have S2 := S1.ext R1 E2
  refine ⟨l, e, st2, μ2, R2, S2, P2.thn R2 S2 fun z st3 μ3 H3 v3 E3 R3 r3 P3 => ?_⟩
  have S3 := S2.ext R2 E3
  unfold evSto at P3
  split at P3
  · rename_i q k
    split at P3
    · rename_i ds hds
      split at P3
      · rename_i j hj
        obtain ⟨ad, xs, rfl, m1, h4, hz, rs⟩ := Rep.locL R3 (r2.ext R2 E3) hds
        cases r3
        refine ⟨ad, xs, k, j, rfl, rfl, h4, by rw [← rs.length]; exact ixN_of hj, ?_⟩
        have rd := (r1.ext R1 E2).ext R2 E3
        obtain ⟨E4, R4⟩ := put_loc R3 (ds := ds.set j d) (xs := xs.set j v1) (u := .lst (xs.set j v1)) m1 hds trivial (by rw [List.length_set]; exact hz) (rs.set rd j)
        exact P3 _ _ _ E4 R4 (S3.ext R3 E4)
      · exact P3.elim
    · exact P3.elim
  · exact P3.elim
theorem s_app {o : EV.X} {eo : Expr} {apos cpos : Pos} (hb : plainBase eo = true) (hl : (apos.endLine == cpos.line) = true) (hs : (!isStar e) = true) (ho : PE X eo (rdX X.K g (evX cf o) W)) (hx : PE X e (rdX X.K g (evX cf x) W)) :
    PS X (.Expr (.Call (.Attribute eo "append" apos) [e] [] cpos) pos) (rdS X.K g (fun e st => (evX cf o e st).thn e fun y st1 => if isLoc st1 y then (evX cf x e st1).thn e fun d st2 => evApp y d e st2 else .fail) W) := by
  refine (ps_expr (pe_bm PySem.F.plainAttrs_list PySem.F.slot_list_append PySem.F.type_list_append mt_append ho (pa_cons hx pa_nil (star_one hs)) (by cases eo <;> first | rfl | (simp [plainBase] at hb)) (by rw [star_one hs]; rfl) hl (star_one hs) rfl) rfl).imp fun D σ H ⟨l, e, st, μ, R, S, P⟩ => ?_
  refine ⟨l, e, st, μ, R, S, P.thn R S fun y st1 μ1 H1 v1 E1 R1 r1 P1 => ?_⟩
  have S1 := S.ext R E1
  split at P1
  · rename_i hy
    unfold isLoc at hy
    split at hy
    · rename_i q
      split at hy
      · rename_i ds hds
        obtain ⟨ad, xs, rfl, m1, h4, hz, rs⟩ := Rep.locL R1 r1 hds
        refine ⟨.inl ⟨rfl, xs, SqL.of h4⟩, l, e, st1, μ1, R1, S1, P1.thn R1 S1 fun d st2 μ2 H2 v2 E2 R2 r2 P2 => ?_⟩
        have S2 := S1.ext R1 E2
        unfold evApp at P2
        simp only [] at P2
        split at P2
        · rename_i ds2 hds2
          split at P2
          · rename_i hlt
            simp only [decide_eq_true_eq] at hlt
            obtain ⟨ad2, xs2, e2, m2, h5, hz2, rs2⟩ := Rep.locL R2 (r1.ext R1 E2) hds2
            cases e2
            refine ⟨ad, xs2, v2, rfl, rfl, h5, ?_, ?_⟩
            · rw [← rs2.length, sizeLine_eq]; unfold most at hlt; omega
            · obtain ⟨E4, R4⟩ := put_loc R2 (ds := ds2 ++ [d]) (xs := xs2 ++ [v2]) (u := .lst (xs2 ++ [v2])) m2 hds2 trivial (by rw [List.length_append, List.length_singleton]; omega) (rs2.append (.one r2))
              exact P2 _ _ _ E4 R4 (S2.ext R2 E4)
          · exact P2.elim
        · exact P2.elim
      · cases hy
    · cases hy
  · exact P1.elim
theorem s_ex (h1 : (!isLC e) = true) (h2 : (!isSC e) = true) (hx : PE X e (rdX X.K g (evX cf x) W)) : PS X (.Expr e pos) (rdS X.K g (fun e st => (evX cf x e st).thn e fun _ st1 => .nx e st1) W) := by
  refine (ps_expr hx (by cases e <;> first | rfl | (simp [isLC] at h1; done) | (simp [isSC] at h2))).imp fun D σ H ⟨l, e, st, μ, R, S, P⟩ => ?_
  exact ⟨l, e, st, μ, R, S, P.thn R S fun y st1 μ1 H1 v1 E1 R1 r1 P1 => P1 _ _ _ (Ext.refl R1.len) R1 (S.ext R E1)⟩
theorem s_ret (hx : PE X e (rdX X.K g (evX cf x) W)) : PS X (.Return (some e) pos) (rdS X.K g (fun e st => (evX cf x e st).thn e fun d st1 => .rt d st1) W) := by
  refine (ps_ret hx).imp fun D σ H ⟨l, e, st, μ, R, S, P⟩ => ?_
  exact ⟨l, e, st, μ, R, S, P.thn R S fun y st1 μ1 H1 v1 E1 R1 r1 P1 => P1 _ _ _ (Ext.refl R1.len) R1 r1⟩
theorem s_retN : PS X (.Return none pos) (rdS X.K g (fun _ st => .rt .non st) W) := by
  refine ps_retN.imp fun D σ H ⟨l, e, st, μ, R, S, P⟩ => ?_
  exact P _ _ _ (Ext.refl R.len) R .non
theorem s_ite {c : EV.X} {sa sb : List Stmt} {ma mb : Sl → Store → RS} (hc : PT X ec (rdB X.K g (asB (evX cf c)) W)) (ha : PSs X sa (rdS X.K g ma W)) (hb : PSs X sb (rdS X.K g mb W)) :
    PS X (.If ec sa sb pos) (rdS X.K g (fun e st => (evX cf c e st).thn e fun d st1 => match d with | .bl true => ma e st1 | .bl false => mb e st1 | _ => .fail) W) := by
  refine (ps_if hc ha hb).imp fun D σ H ⟨l, e, st, μ, R, S, P⟩ => ⟨l, e, st, μ, R, S, ?_⟩
  simp only [] at P
  unfold asB
  generalize evX cf c e st = r at P ⊢
  cases r with
  | ok d st1 =>
    cases d with
    | bl k =>
      intro μ' H' k' E' R' r'
      cases r'
      cases k with
      | true => exact ⟨l, e, st1, μ', R', S.ext R E', PostS.rebase P E'⟩
      | false => exact ⟨l, e, st1, μ', R', S.ext R E', PostS.rebase P E'⟩
    | _ => exact P.elim
  | exc c fs st1 => exact fun μ' H' cls dd E' R' x' => P μ' H' σ cls dd E' R' (S.ext R E') x'
  | fail => exact P.elim

/-! ### loops -/
theorem s_for {src : Sr} {eiter : Expr} {sbody : List Stmt} {mb : Sl → Store → RS} (G : Good g cf Γ X W) (hc : Γ.calm = true) (htp : Γ.top = true) (ht : chkTg Γ tg etg = true) (hi : PI X etg eiter (rdI X.K g (evSr cf src) W)) (hs : (!isSet eiter) = true) (hb : PSs X sbody (rdS X.K g mb W)) :
    PS X (.For etg eiter sbody [] pos) (rdS X.K g (fun e st => (evSr cf src e st).thn e fun items st1 => forLoop (fun d e1 s => match evTg tg d e1 with | some e2 => mb e2 s | none => .fail) items e st1) W) := by
  refine (ps_for (G.po htp) (G.calm hc) hi (tgOk G ht) hb (set_pure hs)).imp fun D σ H ⟨l, e, st, μ, R, S, P⟩ => ?_
  refine ⟨l, e, st, μ, R, S, P.thn R S fun items st1 μ1 H1 J E1 R1 ⟨hmost, Gq, Y, wk, hG, hY⟩ P1 => ?_⟩
  have hhid : ∀ a ∈ l, a ∈ (g.h l).hid ∨ H1 a = none := fun a ha => .inl ha
  refine for_it wk (fun i σ' H' => ∃ μ' st' e', Ext μ1 st1 H1 μ' st' H' ∧ Rel X.K (g.h l) μ' st' H' ∧ SlRep X.K (g.h l) μ' st' H' e' σ' ∧
      PostS X.K (g.h l) μ1 st1 H1 (forLoop (fun d e1 s => match evTg tg d e1 with | some e2 => mb e2 s | none => .fail) (items.drop i) e' st') D W) ?_ ?_ ?_ ?_
  · exact ⟨μ1, st1, e, Ext.refl R1.len, R1, S.ext R E1, P1⟩
  · rintro i σ' H' hi ⟨μ', st', e', E, _⟩
    exact hG _ _ _ E
  · rintro i x σ' H2 H3 hi ⟨μ', st', e', E, R2, S2, PP⟩ y
    have hd : items[i]? = some items[i] := List.getElem?_eq_getElem hi
    obtain ⟨E3, R3, r3⟩ := hY i x H2 H3 items[i] l μ' st' hhid E R2 hd y
    have EE := E.trans E3
    rw [List.drop_eq_getElem_cons hi, forLoop] at PP
    cases hev : evTg tg items[i] e' with
    | none => simp only [hev] at PP; exact PP.elim
    | some e2 =>
      simp only [hev] at PP
      refine ⟨l, μ', st', e', items[i], e2, R3, S2.ext R2 E3, r3, hev, fun σ2 Sσ hσl hσ => ⟨l, e2, st', μ', R3, Sσ, ?_⟩⟩
      generalize mb e2 st' = r at PP ⊢
      cases r with
      | nx e3 st3 => exact fun μ4 H4 σ4 E4 R4 S4 => ⟨μ4, st3, e3, EE.trans E4, R4, S4, PP⟩
      | ct e3 st3 => exact fun μ4 H4 σ4 E4 R4 S4 => ⟨μ4, st3, e3, EE.trans E4, R4, S4, PP⟩
      | bk e3 st3 => exact fun μ4 H4 σ4 E4 R4 S4 => PP μ4 H4 σ4 (EE.trans E4) R4 S4
      | rt d st3 => exact fun μ4 H4 v4 E4 R4 r4 => PP μ4 H4 v4 (EE.trans E4) R4 r4
      | exc c fs e3 st3 => exact fun μ4 H4 σ4 cls dd E4 R4 S4 x4 => PP μ4 H4 σ4 cls dd (EE.trans E4) R4 S4 x4
      | fail => exact PP.elim
  · rintro σ' H' ⟨μ', st', e', E, R2, S2, PP⟩
    rw [List.drop_eq_nil_of_le (Nat.le_refl _), forLoop] at PP
    exact PP μ' H' σ' E R2 S2
theorem s_whl {c : EV.X} {sbody : List Stmt} {mb : Sl → Store → RS} (G : Good g cf Γ X W) (htp : Γ.top = true) (hc : PT X ec (rdB X.K g (asB (evX cf c)) W)) (hb : PSs X sbody (rdS X.K g mb W)) :
    PS X (.While ec sbody [] pos) (rdS X.K g (fun e st => whlLoop (evX cf c) mb fu e st) W) := by
  refine (ps_while (G.po htp) hc hb).imp fun D σ H ⟨l, e, st, μ, R, S, P⟩ => ?_
  refine ⟨fun m σ' H' => ∃ μ' st' e', Ext μ st H μ' st' H' ∧ Rel X.K (g.h l) μ' st' H' ∧ SlRep X.K (g.h l) μ' st' H' e' σ' ∧ PostS X.K (g.h l) μ st H (whlLoop (evX cf c) mb m e' st') D W, ⟨fu, μ, st, e, Ext.refl R.len, R, S, P⟩, ?_⟩
  rintro m σ' H' ⟨μ', st', e', E, R2, S2, PP⟩
  cases m with
  | zero => rw [whlLoop] at PP; exact PP.elim
  | succ m =>
    rw [whlLoop] at PP
    refine ⟨l, e', st', μ', R2, S2, ?_⟩
    unfold asB
    generalize evX cf c e' st' = r at PP ⊢
    cases r with
    | ok d st1 =>
      cases d with
      | bl k =>
        intro μ3 H3 k' E3 R3 r3
        cases r3
        have EE := E.trans E3
        cases k with
        | true =>
          rw [if_pos rfl]
          refine ⟨fun σ'' H'' => ∃ μ' st' e', Ext μ st H μ' st' H'' ∧ Rel X.K (g.h l) μ' st' H'' ∧ SlRep X.K (g.h l) μ' st' H'' e' σ'' ∧ PostS X.K (g.h l) μ st H (whlLoop (evX cf c) mb m e' st') D W, fun σ'' H'' h => ⟨m, Nat.lt_succ_self m, h⟩, l, e', st1, μ3, R3, S2.ext R2 E3, ?_⟩
          simp only [] at PP
          generalize mb e' st1 = r at PP ⊢
          cases r with
          | nx e3 st3 => exact fun μ4 H4 σ4 E4 R4 S4 => ⟨μ4, st3, e3, EE.trans E4, R4, S4, PP⟩
          | ct e3 st3 => exact fun μ4 H4 σ4 E4 R4 S4 => ⟨μ4, st3, e3, EE.trans E4, R4, S4, PP⟩
          | bk e3 st3 => exact fun μ4 H4 σ4 E4 R4 S4 => PP μ4 H4 σ4 (EE.trans E4) R4 S4
          | rt d st3 => exact fun μ4 H4 v4 E4 R4 r4 => PP μ4 H4 v4 (EE.trans E4) R4 r4
          | exc c fs e3 st3 => exact fun μ4 H4 σ4 cls dd E4 R4 S4 x4 => PP μ4 H4 σ4 cls dd (EE.trans E4) R4 S4 x4
          | fail => exact PP.elim
        | false =>
          rw [if_neg Bool.false_ne_true]
          exact PP μ3 H3 σ' EE R3 (S2.ext R2 E3)
      | _ => exact PP.elim
    | exc c fs st1 => exact fun μ3 H3 cls dd E3 R3 x3 => PP μ3 H3 σ' cls dd (E.trans E3) R3 (S2.ext R2 E3) x3
    | fail => exact PP.elim
theorem s_rse {k : Nat} {n : Str} {m : Str} {j : Nat} {p2 p3 : Pos} (G : GoodS g cf sub Γ X W) (hc : Γ.calm = true) (h1 : Γ.cls[k]? = some n) (h2 : Γ.rs.contains k = true) (h3 : glb Γ.sc n = true) (h4 : (!dbg n) = true) :
    PS X (.Raise (some (.Call (.Name n p) [.Constant (.str m) j p2] [] p3)) none pos) (rdS X.K g (fun e st => .exc k [] e st) W) := by
  obtain ⟨m1, k1⟩ := G.cls k n h1
  obtain ⟨x1, r1⟩ := G.raw k h2
  refine (ps_raise (G.calm hc) G.tk (pmk_own PySem.F.excBase_ValueError x1 m1 k1 r1 (G.gl h3) (dbg_ne h4))).imp fun D σ H ⟨l, e, st, μ, R, S, P⟩ => ?_
  exact P _ _ _ _ _ (Ext.refl R.len) R S ⟨rfl, rfl⟩
end
end EV
/-! EvM: every statement that passes the check is sound; defs. -/
namespace EV
open PySem PySem.Spec PyProof.Rows L2

section
variable {g : G} {cf : Call} {sub : Nat → Nat → Bool} {fu : Nat}
theorem frz_rd {K : PySem.W.Frag} {W : WX} {D : Ends} {σ : L2.St} {H : Hp} {i : Nat} {m : Sl → Store → RS} (h : rdS K g (fun e st => (evFrzv i e st).then m) W D σ H) : rdS K g m W D σ H := by
  obtain ⟨l, e, st, μ, R, S, P⟩ := h
  simp only [] at P
  unfold evFrzv at P
  split at P
  · rename_i q hq
    split at P
    · rename_i ds hds
      obtain ⟨v, hv, rv⟩ := S.2 i _ hq
      cases rv with
      | loc hm =>
        obtain ⟨E2, R2, r2⟩ := frz_loc R hm hds
        have S2 := (S.ext R E2).set r2 i
        rw [show σ.set i (some (.ref _)) = σ from by
          apply List.ext_getElem?
          intro j
          by_cases hj : i = j
          · subst hj
            rw [List.getElem?_set_self (List.getElem?_eq_some_iff.mp hv).1, hv]
          · rw [List.getElem?_set_ne hj]] at S2
        exact ⟨l, _, _, μ, R2, S2, P.rebase E2⟩
    · exact P.elim
  · exact P.elim
mutual
theorem sOk : ∀ (s : S) {Γ : Gm} {st : Stmt} {X : Cx} {W : WX}, GoodS g cf sub Γ X W → chkS s Γ st = true → PS X st (rdS X.K g (evS cf sub fu s) W)
  | .asg tg x, Γ, st, X, W, G, h => by
    have ee : evS cf sub fu (.asg tg x) = fun e st => (evX cf x e st).thn e fun d st1 => evAsg tg d e st1 := by funext e st; rw [evS]
    rw [ee]
    cases st <;> first | (simp [chkS] at h; done) | skip
    rename_i ts v pos
    match ts, h with
    | [t], h =>
      simp only [chkS, Bool.and_eq_true] at h
      obtain ⟨⟨h1, h2⟩, h3⟩ := h
      have hx := (xOk x G.toGood h1).1
      unfold asgMode at h3
      rw [Bool.and_eq_true] at h3
      obtain ⟨hsc, h3⟩ := h3
      have hsc : isSC v = false := by simpa using hsc
      cases v with
      | ListComp eelt gs scope p2 =>
        cases t with
        | Name y py =>
          simp only [Bool.and_eq_true] at h3
          obtain ⟨htp, h3⟩ := h3
          have hk := G.fk htp
          cases hsw : swB Γ.sc (.ListComp eelt gs scope p2) (.Name y py) with
          | false =>
            refine s_asg G.toGood hx h2 ?_ (sw_none (fun _ _ _ z => by cases z) (fun _ _ z => by cases z))
            rw [swaps_lc hk, G.sc, hsw]
          | true =>
            rw [hsw] at h3
            simp only [Bool.not_true, Bool.false_or] at h3
            split at h3
            · rename_i mu elt tg2 src cond own i
              simp only [beq_iff_eq] at h3
              match gs, h1, hsw with
              | [⟨etg, eiter, ifs, ia⟩], h1, hsw =>
                simp only [chkX, Bool.and_eq_true, decide_eq_true_eq] at h1
                obtain ⟨⟨⟨⟨⟨⟨⟨rfl, k1⟩, k2⟩, k3⟩, k4⟩, k5⟩, k6⟩, k7⟩ := h1
                simp only [chkTg, Bool.and_eq_true, decide_eq_true_eq] at h2
                have sw : swapsWith (.ListComp eelt [⟨etg, eiter, ifs, 0⟩] scope p2) (some (.Name y py)) pos.line X.env = pure true := by
                  have := swaps_lc (t := .Name y py) (line := pos.line) hk (eelt := eelt) (gs := [⟨etg, eiter, ifs, 0⟩]) (scope := scope) (p2 := p2)
                  rw [G.sc, hsw] at this
                  exact this
                refine (s_lc (mu := mu) (elt := elt) (tg := tg2) (src := src) (cond := cond) (own := own) (i := i) G.toGood k1 k2 (srOk src G.toGood k3) k4 k5 (fun X' hK G' => hK ▸ xcOk cond G' k6) (fun X' hK G' => hK ▸ (xOk elt G' k7).1) (srSet src k3) h2.1 h3 sw).imp fun D σ H q => name_rd q
              | [], h1, _ => simp [chkX] at h1
              | _ :: _ :: _, h1, _ => simp [chkX] at h1
            · cases h3
        | _ =>
          refine s_asg G.toGood hx h2 (by rfl) ?_
          exact sw_none (fun _ _ _ z => by cases z) (fun _ _ z => by cases z <;> (cases tg <;> simp [chkTg] at h2))
      | Tuple vs k2 p2 =>
        cases t with
        | Tuple ts k3 p3 =>
          simp only [Bool.and_eq_true] at h3
          obtain ⟨⟨htp, hkd⟩, h3⟩ := h3
          have hk := G.fk htp
          split at h3
          · cases h3
          · rename_i ho
            refine s_asg G.toGood hx h2 (by rfl) (sw_opt hk (by rw [G.sc]; exact ho))
          · rename_i names ho
            have hsw := sw_opt (k := k3) (k2 := k2) (p := p3) (p2 := p2) hk (by rw [G.sc]; exact ho)
            split at h3
            · rename_i i j a pa b pb xa xb ea eb
              simp only [Bool.and_eq_true, decide_eq_true_eq, beq_iff_eq] at h3
              obtain ⟨⟨⟨q1, q2⟩, q3⟩, q4⟩ := h3
              subst q2
              simp only [chkTg, chkTgs, Bool.and_eq_true, decide_eq_true_eq] at h2
              simp only [chkX, Bool.and_eq_true] at h1
              exact (ps_par (G.calm h2.1) G.nd (by rw [G.N]; exact h2.2.1.1) (by rw [G.N]; exact h2.2.2.1.1) q1 (by rw [G.sc]; exact q3) (by rw [G.sc]; exact q4) (xsOk _ G.toGood h1.1) hsw (by rfl)).imp fun D σ H q => par_rd q
            · rename_i i j l a pa b pb c pc xa xb xc ea eb ec
              simp only [Bool.and_eq_true, decide_eq_true_eq, beq_iff_eq] at h3
              obtain ⟨⟨⟨⟨⟨⟨q1, q2⟩, q3⟩, q4⟩, q5⟩, q6⟩, q7⟩ := h3
              subst q4
              simp only [chkTg, chkTgs, Bool.and_eq_true, decide_eq_true_eq] at h2
              simp only [chkX, Bool.and_eq_true] at h1
              exact (ps_par3 (G.calm h2.1) G.nd (by rw [G.N]; exact h2.2.1.1) (by rw [G.N]; exact h2.2.2.1.1) (by rw [G.N]; exact h2.2.2.2.1.1) q1 q2 q3 (by rw [G.sc]; exact q5) (by rw [G.sc]; exact q6) (by rw [G.sc]; exact q7) (xsOk _ G.toGood h1.1) hsw (by rfl)).imp fun D σ H q => par3_rd q
            · cases h3
        | _ =>
          refine s_asg G.toGood hx h2 (by rfl) ?_
          exact sw_none (fun _ _ _ z _ _ _ z2 => by cases z2) (fun _ _ z => by cases z <;> (cases tg <;> simp [chkTg] at h2))
      | _ =>
        refine s_asg G.toGood hx h2 (swaps_no hsc (by rfl)) (sw_none (fun _ _ _ z => by cases z) (fun _ _ z => ?_))
        cases z <;> (cases tg <;> simp [chkTg] at h2)
    | [], h => exact absurd h (by clear h; simp [chkS])
    | _ :: _ :: _, h => exact absurd h (by clear h; simp [chkS])
  | .sto o i x, Γ, st, X, W, G, h => by
    have ee : evS cf sub fu (.sto o i x) = fun e st => (evX cf x e st).thn e fun d st1 => (evX cf o e st1).thn e fun y st2 => (evX cf i e st2).thn e fun z st3 => evSto y z d e st3 := by funext e st; rw [evS]
    rw [ee]
    cases st <;> first | (simp [chkS] at h; done) | skip
    rename_i ts v pos
    match ts, h with
    | [.Subscript eo ei p], h =>
      simp only [chkS, Bool.and_eq_true, Bool.not_eq_true'] at h
      obtain ⟨⟨⟨⟨⟨h1, h2⟩, h3⟩, h4⟩, h5⟩, h6⟩ := h
      exact s_sto h2 h1 (by simpa using h6) (xOk x G.toGood h3).1 (xOk o G.toGood h4).1 (xOk i G.toGood h5).1
    | [], h => exact absurd h (by clear h; simp [chkS])
    | t :: _ :: _, h => exact absurd h (by clear h; cases t <;> simp [chkS])
    | [.BoolOp ..], h | [.NamedExpr ..], h | [.BinOp ..], h | [.UnaryOp ..], h | [.Lambda ..], h | [.IfExp ..], h | [.Dict ..], h | [.Set ..], h | [.ListComp ..], h
    | [.SetComp ..], h | [.DictComp ..], h | [.GeneratorExp ..], h | [.Await ..], h | [.Yield ..], h | [.YieldFrom ..], h | [.Compare ..], h | [.Call ..], h | [.FormattedValue ..], h
    | [.JoinedStr ..], h | [.Constant ..], h | [.Attribute ..], h | [.Name ..], h | [.Starred ..], h | [.List ..], h | [.Tuple ..], h | [.Slice ..], h => exact absurd h (by clear h; simp [chkS])
  | .app o x, Γ, st, X, W, G, h => by
    have ee : evS cf sub fu (.app o x) = fun e st => (evX cf o e st).thn e fun y st1 => if isLoc st1 y then (evX cf x e st1).thn e fun d st2 => evApp y d e st2 else .fail := by funext e st; rw [evS]
    rw [ee]
    cases st <;> first | (simp [chkS] at h; done) | skip
    rename_i v pos
    cases v <;> first | (simp [chkS] at h; done) | skip
    rename_i f as kws cpos
    cases f <;> first | (simp [chkS] at h; done) | skip
    rename_i eo m apos
    match as, kws, h with
    | [e], [], h =>
      simp only [chkS, Bool.and_eq_true, decide_eq_true_eq] at h
      obtain ⟨⟨⟨⟨⟨rfl, h1⟩, h2⟩, h3⟩, h4⟩, h5⟩ := h
      exact s_app h1 h2 h5 (xOk o G.toGood h3).1 (xOk x G.toGood h4).1
    | [], _, h => exact absurd h (by clear h; simp [chkS])
    | _ :: _ :: _, _, h => exact absurd h (by clear h; simp [chkS])
    | [_], _ :: _, h => exact absurd h (by clear h; simp [chkS])
  | .ex x, Γ, st, X, W, G, h => by
    have ee : evS cf sub fu (.ex x) = fun e st => (evX cf x e st).thn e fun _ st1 => .nx e st1 := by funext e st; rw [evS]
    rw [ee]
    cases st <;> first | (simp [chkS] at h; done) | skip
    simp only [chkS, Bool.and_eq_true] at h
    exact s_ex h.1.2 h.2 (xOk x G.toGood h.1.1).1
  | .ret x, Γ, st, X, W, G, h => by
    have ee : evS cf sub fu (.ret x) = fun e st => (evX cf x e st).thn e fun d st1 => .rt d st1 := by funext e st; rw [evS]
    rw [ee]
    cases st <;> first | (simp [chkS] at h; done) | skip
    rename_i o pos
    cases o with
    | none => exact absurd h (by clear h; simp [chkS])
    | some e =>
      simp only [chkS] at h
      exact s_ret (xOk x G.toGood h).1
  | .retN, Γ, st, X, W, G, h => by
    have ee : evS cf sub fu .retN = fun _ st => .rt .non st := by funext e st; rw [evS]
    rw [ee]
    cases st <;> first | (simp [chkS] at h; done) | skip
    rename_i o pos
    cases o with
    | none => exact s_retN
    | some e => exact absurd h (by clear h; simp [chkS])
  | .ite c a b, Γ, st, X, W, G, h => by
    have ee : evS cf sub fu (.ite c a b) = fun e st => (evX cf c e st).thn e fun d st1 => match d with | .bl true => evSs cf sub fu a e st1 | .bl false => evSs cf sub fu b e st1 | _ => .fail := by funext e st; rw [evS] <;> rfl
    rw [ee]
    cases st <;> first | (simp [chkS] at h; done) | skip
    simp only [chkS, Bool.and_eq_true] at h
    exact s_ite (xOk c G.toGood h.1.1).2 (ssOk a G h.1.2) (ssOk b G h.2)
  | .for tg src body, Γ, st, X, W, G, h => by
    have ee : evS cf sub fu (.for tg src body) = fun e st => (evSr cf src e st).thn e fun items st1 => forLoop (fun d e1 s => match evTg tg d e1 with | some e2 => evSs cf sub fu body e2 s | none => .fail) items e st1 := by funext e st; rw [evS] <;> rfl
    rw [ee]
    cases st <;> first | (simp [chkS] at h; done) | skip
    rename_i etg eiter sbody orelse pos
    cases orelse with
    | cons _ _ => exact absurd h (by clear h; simp [chkS])
    | nil =>
      simp only [chkS, Bool.and_eq_true] at h
      obtain ⟨⟨⟨⟨h1, h2⟩, h3⟩, h4⟩, h5⟩ := h
      exact s_for G.toGood h1 h2 h4 (srOk src G.toGood h3) (srSet src h3) (ssOk body G h5)
  | .whl c body, Γ, st, X, W, G, h => by
    have ee : evS cf sub fu (.whl c body) = fun e st => whlLoop (evX cf c) (evSs cf sub fu body) fu e st := by funext e st; rw [evS]
    rw [ee]
    cases st <;> first | (simp [chkS] at h; done) | skip
    rename_i ec sbody orelse pos
    cases orelse with
    | cons _ _ => exact absurd h (by clear h; simp [chkS])
    | nil =>
      simp only [chkS, Bool.and_eq_true] at h
      exact s_whl G.toGood h.1.1 (xOk c G.toGood h.1.2).2 (ssOk body G h.2)
  | .rse c, Γ, st, X, W, G, h => by
    have ee : evS cf sub fu (.rse c) = fun e st => .exc c [] e st := by funext e st; rw [evS]
    rw [ee]
    rw [chkS] at h
    unfold chkRse at h
    split at h
    · simp only [Bool.and_eq_true, decide_eq_true_eq] at h
      obtain ⟨⟨⟨⟨h1, h2⟩, h3⟩, h4⟩, h5⟩ := h
      exact s_rse G h1 h2 h3 h4 h5
    · cases h
  | .rseA c e, Γ, st, X, W, G, h => by simp [chkS] at h
  | .tryc body hs, Γ, st, X, W, G, h => by
    have ee : evS cf sub fu (.tryc body hs) = fun e st => match evSs cf sub fu body e st with | .exc c fs σ1 st1 => evHs cf sub fu hs c fs σ1 st1 | r => r := by funext e st; rw [evS] <;> rfl
    rw [ee]
    cases st <;> first | (simp [chkS] at h; done) | skip
    rename_i sbody shs orelse fin pos
    cases orelse with
    | cons _ _ => exact absurd h (by clear h; simp [chkS])
    | nil =>
      cases fin with
      | cons _ _ => exact absurd h (by clear h; simp [chkS])
      | nil =>
        simp only [chkS, Bool.and_eq_true] at h
        obtain ⟨⟨⟨h1, h2⟩, h3⟩, h4⟩ := h
        obtain ⟨lst, hd, k⟩ := hsOk hs G h3
        cases shs with
        | nil => simp at h4
        | cons h₀ hds =>
          refine (ps_try_many (tb := fun W' => rdS X.K g (evSs cf sub fu body) W') (G.stk h1).1 (G.stk h1).2 G.tk (fun W' pn xe tk po => ssOk body (G.tr tk po) h2) hd).imp fun D σ H ⟨l, e, st, μ, R, S, P⟩ => ?_
          refine ⟨l, e, st, μ, R, S, ?_⟩
          simp only [] at P
          generalize evSs cf sub fu body e st = r at P ⊢
          cases r with
          | exc c fs e1 st1 => exact fun μ' H' σ' cls dd E' R' S' x' => k W D l μ st H c fs e1 st1 P μ' H' σ' cls dd E' R' S' x'
          | nx e1 st1 => exact P
          | rt d st1 => exact P
          | bk e1 st1 => exact P
          | ct e1 st1 => exact P
          | fail => exact P
  | .frzv i, Γ, st, X, W, G, h => by cases st <;> simp [chkS] at h
  | .nev, Γ, st, X, W, G, h => by
    have ee : evS cf sub fu .nev = fun _ _ => .fail := by funext e st; rw [evS]
    rw [ee]
    exact ⟨fun pins s σ H D I ⟨l, e, st, μ, R, S, P⟩ => P.elim⟩
theorem ssOk : ∀ (ss : Ss) {Γ : Gm} {sts : List Stmt} {X : Cx} {W : WX}, GoodS g cf sub Γ X W → chkSs ss Γ sts = true → PSs X sts (rdS X.K g (evSs cf sub fu ss) W)
  | .nil, Γ, [], X, W, G, h => by
    refine pss_nil.imp fun D σ H ⟨l, e, st, μ, R, S, P⟩ => ?_
    rw [evSs] at P
    exact P _ _ _ (Ext.refl R.len) R S
  | .nil, Γ, _ :: _, X, W, G, h => by simp [chkSs] at h
  | .cons s ss, Γ, sts, X, W, G, h => by
    have ee : evSs cf sub fu (.cons s ss) = fun e st => (evS cf sub fu s e st).then fun σ1 st1 => evSs cf sub fu ss σ1 st1 := by funext e st; rw [evSs]
    rw [ee]
    by_cases hf : ∃ i, s = .frzv i
    · obtain ⟨i, rfl⟩ := hf
      rw [chkSs] at h
      have e2 : (fun e st => (evS cf sub fu (.frzv i) e st).then fun σ1 st1 => evSs cf sub fu ss σ1 st1) = fun e st => (evFrzv i e st).then (evSs cf sub fu ss) := by funext e st; rw [evS]
      rw [e2]
      exact (ssOk ss G h).imp fun D σ H q => frz_rd q
    · cases sts with
      | nil => cases s <;> first | (simp [chkSs] at h; done) | exact absurd ⟨_, rfl⟩ hf
      | cons t ts =>
        have h : chkS s Γ t = true ∧ chkSs ss Γ ts = true := by
          cases s <;> first | exact absurd ⟨_, rfl⟩ hf | (simpa only [chkSs, Bool.and_eq_true] using h)
        refine (pss_cons (sOk s G h.1) (ssOk ss G h.2)).imp fun D σ H ⟨l, e, st, μ, R, S, P⟩ => ?_
        refine ⟨l, e, st, μ, R, S, ?_⟩
        simp only [] at P
        generalize evS cf sub fu s e st = r at P ⊢
        cases r with
        | nx e1 st1 => exact fun μ' H' σ' E' R' S' => ⟨l, e1, st1, μ', R', S', PostS.rebase P E'⟩
        | rt d st1 => exact P
        | bk e1 st1 => exact P
        | ct e1 st1 => exact P
        | exc c fs e1 st1 => exact P
        | fail => exact P
theorem hsOk : ∀ (hs : Hs) {Γ : Gm} {shs : List ExceptHandler} {X : Cx} {W : WX}, GoodS g cf sub Γ X W → chkHs hs Γ shs = true → ∃ lst, HdsOk X shs lst ∧
    ∀ (Wo : WX) (D : Ends) (l μ : List Addr) (st : Store) (H : Hp) (c : Nat) (fs : List EV.D) (e1 : Sl) (st1 : Store), PostS X.K (g.h l) μ st H (evHs cf sub fu hs c fs e1 st1) D Wo →
      ∀ μ' H' σ' cls dd, Ext μ st H μ' st1 H' → Rel X.K (g.h l) μ' st1 H' → SlRep X.K (g.h l) μ' st1 H' e1 σ' → XRep X.K (g.h l) μ' st1 H' c fs cls dd → wMany X.K Wo D lst cls dd σ' H'
  | .nil, Γ, [], X, W, G, h => by
    refine ⟨[], .nil, fun Wo D l μ st H c fs e1 st1 P μ' H' σ' cls dd E' R' S' x' => ?_⟩
    rw [evHs] at P
    exact P μ' H' σ' cls dd E' R' S' x'
  | .nil, Γ, _ :: _, X, W, G, h => by simp [chkHs] at h
  | .cons k body hs, Γ, [], X, W, G, h => by simp [chkHs] at h
  | .cons k body hs, Γ, h₀ :: hds, X, W, G, h => by
    obtain ⟨ty, nm, sb, pos⟩ := h₀
    cases ty with
    | none => simp [chkHs] at h
    | some ty =>
      cases ty <;> first | (simp [chkHs] at h; done) | skip
      rename_i x np
      cases nm with
      | some _ => simp [chkHs] at h
      | none =>
        cases sb with
        | nil => simp [chkHs] at h
        | cons b₀ suite =>
          simp only [chkHs, Bool.and_eq_true, decide_eq_true_eq] at h
          obtain ⟨⟨⟨⟨h1, h2⟩, h3⟩, h4⟩, h5⟩ := h
          obtain ⟨lst, hd, kk⟩ := hsOk hs G h5
          obtain ⟨m1, kp⟩ := G.cls k x h1
          refine ⟨(.ref (g.ca k), fun _ _ _ => rdS X.K g (evSs cf sub fu body) W0) :: lst, .cons ⟨G.gl h2, dbg_ne h3, .inl m1⟩ (fun a oe cls d pn _ _ => ssOk body G.suite h4) hd, fun Wo D l μ st H c fs e1 st1 P μ' H' σ' cls dd E' R' S' x' => ?_⟩
          refine ⟨sub c k, ?_, fun hs a na => ?_, fun hs => ?_⟩
          · rw [x'.1]
            exact G.exm c k (List.getElem?_eq_some_iff.mp h1).1
          · rw [evHs, if_pos hs] at P
            refine ⟨l, e1, st1, μ', R', S', ?_⟩
            generalize evSs cf sub fu body e1 st1 = r at P ⊢
            cases r with
            | nx e2 st2 => exact PostS.rebase (r := .nx e2 st2) P E'
            | rt d st2 => exact PostS.rebase (r := .rt d st2) P E'
            | bk e2 st2 => exact PostS.rebase (r := .bk e2 st2) P E'
            | ct e2 st2 => exact PostS.rebase (r := .ct e2 st2) P E'
            | exc c fs e2 st2 => exact P.elim
            | fail => exact P.elim
          · rw [evHs, if_neg (by simp [hs])] at P
            exact kk Wo D l μ st H c fs e1 st1 P μ' H' σ' cls dd E' R' S' x'
end
end
end EV
/-! EvN: defs, tables of defs, refinement, the law's end. -/
namespace EV
open PySem PySem.Spec PyProof.Rows L2

/-! ### what is left over in the store may go -/
mutual
def D.und (n : Nat) : D → Bool
  | .non | .bl _ | .int _ | .str _ | .fn _ => true
  | .tup ds => D.unds n ds
  | .lst ds => D.unds n ds
  | .rol ds => D.unds n ds
  | .dct _ _ => false
  | .loc l => decide (l < n)
def D.unds (n : Nat) : List D → Bool
  | [] => true
  | d :: ds => d.und n && D.unds n ds
end
def O.und (n : Nat) : O → Bool
  | .lst ds => D.unds n ds
  | .dct _ _ => false
  | .gone => true
section
variable {K : PySem.W.Frag} {g : G} {μ μ' μ1 : List Addr} {st st' st1 : Store} {H H' H1 : Hp} {d : D} {v : V} {ds es : List D} {vs us : List V} {a : Addr}
theorem live_take {n : Nat} {junk : Store} (hn : n = st.length) (h : Live (μ.take n) st a) : Live μ (st ++ junk) a := by
  obtain ⟨l, o, h1, h2, h3⟩ := h
  have hl : l < st.length := (List.getElem?_eq_some_iff.mp h2).1
  refine ⟨l, o, ?_, by rw [List.getElem?_append_left hl]; exact h2, h3⟩
  rw [List.getElem?_take] at h1
  split at h1
  · exact h1
  · cases h1
mutual
theorem Rep.trim {n : Nat} {junk : Store} (hn : n = st.length) : ∀ {d : D} {v : V}, Rep K g μ (st ++ junk) H d v → d.und n = true → Rep K g (μ.take n) st H d v
  | _, _, .non, _ => .non
  | _, _, .bl b, _ => .bl b
  | _, _, .int i, _ => .int i
  | _, _, .str x, _ => .str x
  | _, _, .tup h l r, e => .tup h l (Reps.trim hn r (by rw [D.und] at e; exact e))
  | _, _, .lst h n nh l r, e => .lst h (fun z => n (live_take hn z)) nh l (Reps.trim hn r (by rw [D.und] at e; exact e))
  | _, _, .lstK h l r, e => .lstK h l (Reps.trim hn r (by rw [D.und] at e; exact e))
  | _, _, .rol h l r, e => .rol h l (Reps.trim hn r (by rw [D.und] at e; exact e))
  | _, _, .loc h, e => .loc (by rw [D.und, decide_eq_true_eq] at e; rw [List.getElem?_take, if_pos e]; exact h)
  | _, _, .fn k, _ => .fn k
theorem Reps.trim {n : Nat} {junk : Store} (hn : n = st.length) : ∀ {ds : List D} {vs : List V}, Reps K g μ (st ++ junk) H ds vs → D.unds n ds = true → Reps K g (μ.take n) st H ds vs
  | _, _, .nil, _ => .nil
  | _, _, .cons r t, e => by
    rw [D.unds, Bool.and_eq_true] at e
    exact .cons (Rep.trim hn r e.1) (Reps.trim hn t e.2)
end
theorem Rel.trim {junk : Store} (R : Rel K g μ (st ++ junk) H) (hu : ∀ o ∈ st, O.und st.length o = true) : Rel K g (μ.take st.length) st H := by
  have hl : μ.length = st.length + junk.length := by rw [R.len, List.length_append]
  refine ⟨by rw [List.length_take]; omega, R.nd.sublist (List.take_sublist _ _), fun a ha => R.there a (List.mem_of_mem_take ha), fun l ob a h1 h2 => ?_, fun a ha => ⟨fun z => (R.hid a ha).1 (List.mem_of_mem_take z), (R.hid a ha).2⟩⟩
  have hlt : l < st.length := (List.getElem?_eq_some_iff.mp h1).1
  rw [List.getElem?_take, if_pos hlt] at h2
  have q := R.obj l ob a (by rw [List.getElem?_append_left hlt]; exact h1) h2
  have u := hu ob (List.mem_of_getElem? h1)
  cases ob with
  | lst ds =>
    obtain ⟨xs, q1, q2, q3⟩ := q
    exact ⟨xs, q1, q2, q3.trim rfl u⟩
  | dct _ _ => exact q
  | gone => trivial
theorem Ext.trim {junk : Store} (E : Ext μ st H μ' (st' ++ junk) H') (hl : st.length ≤ st'.length) : Ext μ st H (μ'.take st'.length) st' H' := by
  obtain ⟨more, e, hm⟩ := E.pre
  refine ⟨E.len, ⟨more.take (st'.length - μ.length), ?_, fun a ha => hm a (List.mem_of_mem_take ha)⟩, E.keep, fun l h => ?_, E.here⟩
  · rw [e, List.take_append, List.take_of_length_le (by rw [E.len]; exact hl)]
  · have q := E.gone l h
    have hlt : l < st'.length := Nat.lt_of_lt_of_le (List.getElem?_eq_some_iff.mp h).1 hl
    rw [List.getElem?_append_left hlt] at q
    exact q
end
def stUnd (st : Store) : Bool := st.all (O.und st.length)
/-- m' is m, but for what is left over in the store -/
def Ref (m m' : List D → Store → R D) : Prop := ∀ as st, match m as st with
  | .ok d st1 => ∃ junk, m' as st = .ok d (st1 ++ junk) ∧ (junk = [] ∨ (st.length ≤ st1.length ∧ d.und st1.length = true ∧ stUnd st1 = true))
  | .exc c fs st1 => ∃ junk, m' as st = .exc c fs (st1 ++ junk) ∧ (junk = [] ∨ (st.length ≤ st1.length ∧ D.unds st1.length fs = true ∧ stUnd st1 = true))
  | .fail => True
theorem Ref.spec {K : PySem.W.Frag} {g : G} {m m' : List D → Store → R D} (r : Ref m m') {n : Nat} {vs : List V} {H : Hp} {Q : VK} {E : XK} (h : spOf K g n m vs H Q E) : spOf K g n m' vs H Q E := by
  obtain ⟨hl, l, μ, st, ds, R, rs, P⟩ := h
  refine ⟨hl, l, μ, st, ds, R, rs, ?_⟩
  have q := r ds st
  cases e : m ds st with
  | fail => rw [e] at P; exact P.elim
  | ok d st1 =>
    rw [e] at P q
    obtain ⟨junk, e', hu⟩ := q
    rw [e']
    intro μ' H' v E' R' r'
    rcases hu with rfl | ⟨hle, hd, hs⟩
    · rw [List.append_nil] at E' R' r'
      exact P μ' H' v E' R' r'
    · exact P _ H' v (E'.trim hle) (R'.trim fun o ho => List.all_eq_true.mp hs o ho) (r'.trim rfl hd)
  | exc c fs st1 =>
    rw [e] at P q
    obtain ⟨junk, e', hu⟩ := q
    rw [e']
    intro μ' H' cls dd E' R' x'
    rcases hu with rfl | ⟨hle, hd, hs⟩
    · rw [List.append_nil] at E' R' x'
      exact P μ' H' cls dd E' R' x'
    · refine P _ H' cls dd (E'.trim hle) (R'.trim fun o ho => List.all_eq_true.mp hs o ho) ⟨x'.1, ?_⟩
      have x2 := x'.2
      match fs, x2, hd with
      | [], x2, _ => exact x2
      | [d], ⟨dx, v, h1, h2, h3⟩, hd =>
        rw [D.unds, Bool.and_eq_true] at hd
        exact ⟨dx, v, h1, h2, h3.trim rfl hd.1⟩
/-- what a def leaves over goes -/
def trimR (st : Store) (r : R D) : R D := match r with
  | .ok d st1 => if decide (st.length ≤ st1.length) && d.und st.length && stUnd (st1.take st.length) then .ok d (st1.take st.length) else .ok d st1
  | .exc c fs st1 => if decide (st.length ≤ st1.length) && D.unds st.length fs && stUnd (st1.take st.length) then .exc c fs (st1.take st.length) else .exc c fs st1
  | .fail => .fail
theorem trim_ref (m : List D → Store → R D) : Ref (fun as st => trimR st (m as st)) m := by
  intro as st
  show (match trimR st (m as st) with
    | .ok d st1 => ∃ junk, m as st = .ok d (st1 ++ junk) ∧ (junk = [] ∨ (st.length ≤ st1.length ∧ d.und st1.length = true ∧ stUnd st1 = true))
    | .exc c fs st1 => ∃ junk, m as st = .exc c fs (st1 ++ junk) ∧ (junk = [] ∨ (st.length ≤ st1.length ∧ D.unds st1.length fs = true ∧ stUnd st1 = true))
    | .fail => True)
  cases e : m as st with
  | fail => trivial
  | ok d st1 =>
    unfold trimR
    by_cases c : (decide (st.length ≤ st1.length) && d.und st.length && stUnd (st1.take st.length)) = true
    · simp only [c, if_true]
      simp only [Bool.and_eq_true, decide_eq_true_eq] at c
      have hl : (st1.take st.length).length = st.length := by rw [List.length_take]; omega
      exact ⟨st1.drop st.length, by rw [List.take_append_drop], .inr ⟨by omega, by rw [hl]; exact c.1.2, c.2⟩⟩
    · simp only [if_neg c]
      exact ⟨[], by rw [List.append_nil], .inl rfl⟩
  | exc c0 fs st1 =>
    unfold trimR
    by_cases c : (decide (st.length ≤ st1.length) && D.unds st.length fs && stUnd (st1.take st.length)) = true
    · simp only [c, if_true]
      simp only [Bool.and_eq_true, decide_eq_true_eq] at c
      have hl : (st1.take st.length).length = st.length := by rw [List.length_take]; omega
      exact ⟨st1.drop st.length, by rw [List.take_append_drop], .inr ⟨by omega, by rw [hl]; exact c.1.2, c.2⟩⟩
    · simp only [if_neg c]
      exact ⟨[], by rw [List.append_nil], .inl rfl⟩
theorem trim_same {st st1 : Store} {d : D} (h : st1.length = st.length) : trimR st (.ok d st1) = .ok d st1 := by
  unfold trimR
  have : st1.take st.length = st1 := List.take_of_length_le (by omega)
  simp only [this]
  split <;> rfl
theorem trim_exc {st st1 : Store} {c : Nat} {fs : List D} (h : st1.length = st.length) : trimR st (.exc c fs st1) = .exc c fs st1 := by
  unfold trimR
  have : st1.take st.length = st1 := List.take_of_length_le (by omega)
  simp only [this]
  split <;> rfl
theorem trim_junk {st st1 junk : Store} {d : D} (h : st1.length = st.length) (hd : d.und st.length = true) (hs : stUnd st1 = true) : trimR st (.ok d (st1 ++ junk)) = .ok d st1 := by
  unfold trimR
  have e : (st1 ++ junk).take st.length = st1 := by rw [← h, List.take_left']; rfl
  simp only [e]
  rw [if_pos]
  simp only [Bool.and_eq_true, decide_eq_true_eq]
  exact ⟨⟨by rw [List.length_append]; omega, hd⟩, hs⟩
/-- the table of the defs: slots and body, the last one first -/
def cfL (sub : Nat → Nat → Bool) (fu : Nat) : List (Nat × Ss) → Call
  | [], _, _, _ => .fail
  | (n, b) :: r, k, as, st => if k = r.length then trimR st (evDef (cfL sub fu r) sub fu n b as st) else cfL sub fu r k as st
theorem cfL_top {sub : Nat → Nat → Bool} {fu n : Nat} {b : Ss} {r : List (Nat × Ss)} {as : List D} {st : Store} : cfL sub fu ((n, b) :: r) r.length as st = trimR st (evDef (cfL sub fu r) sub fu n b as st) := by
  rw [cfL, if_pos rfl]
theorem cfL_low {sub : Nat → Nat → Bool} {fu : Nat} {e : Nat × Ss} {r : List (Nat × Ss)} {k : Nat} (h : k < r.length) : cfL sub fu (e :: r) k = cfL sub fu r k := by
  funext as st
  obtain ⟨n, b⟩ := e
  rw [cfL, if_neg (by omega)]

theorem cfL_app {sub : Nat → Nat → Bool} {fu : Nat} {r : List (Nat × Ss)} {k : Nat} (h : k < r.length) : ∀ pre : List (Nat × Ss), cfL sub fu (pre ++ r) k = cfL sub fu r k
  | [] => rfl
  | e :: pre => by
    rw [List.cons_append, cfL_low (by rw [List.length_append]; omega)]
    exact cfL_app h pre
theorem pure_top {sub : Nat → Nat → Bool} {fu n k : Nat} {b : Ss} {r : List (Nat × Ss)} {as : List D} {st : Store} {d : D} (hk : k = r.length) (h : evDef (cfL sub fu r) sub fu n b as st = .ok d st) : cfL sub fu ((n, b) :: r) k as st = .ok d st := by
  subst hk
  rw [cfL_top, h]
  exact trim_same rfl
theorem st_top {sub : Nat → Nat → Bool} {fu n k : Nat} {b : Ss} {r : List (Nat × Ss)} {as : List D} {st st' : Store} {d : D} (hk : k = r.length) (h : evDef (cfL sub fu r) sub fu n b as st = .ok d st') (hl : st'.length = st.length) : cfL sub fu ((n, b) :: r) k as st = .ok d st' := by
  subst hk
  rw [cfL_top, h]
  exact trim_same hl
theorem loc_top {sub : Nat → Nat → Bool} {fu n k : Nat} {b : Ss} {r : List (Nat × Ss)} {as : List D} {st st' : Store} (hk : k = r.length) (h : evDef (cfL sub fu r) sub fu n b as st = .ok (.loc st.length) st') : cfL sub fu ((n, b) :: r) k as st = .ok (.loc st.length) st' := by
  subst hk
  rw [cfL_top, h]
  simp [trimR, D.und]

/-! ### a def -/
/-- what is known of the module: built-ins, constants, own errors -/
structure Kn (g : G) (sub : Nat → Nat → Bool) (cs : List (Str × D)) (cl : List Str) (rs : List Nat) (K : PySem.W.Frag) (mg : Str → Option Value) : Prop where
  bn : ∀ x ∈ bnames, mg x = none
  cst : ∀ x d, cs.lookup x = some d → ∃ u v, mg x = some u ∧ RelV v u ∧ ∀ l μ st H, Rep K (g.h l) μ st H d v
  cls : ∀ k x, cl[k]? = some x → mg x = some (.ref (g.ca k)) ∧ PySem.W.keepIn K (.ref (g.ca k)) = true
  raw : ∀ k, rs.contains k = true → PySem.W.excIn K (g.ca k) [.type "ValueError", .type "Exception", .type "BaseException", .type "object"] "ValueError.__new__" = true ∧ PySem.W.subIn K (.ref (g.ca k)) (.type "BaseException") = some true ∧ PySem.W.typeIn K (.ref (g.ca k)) = some (.type "type")
  exm : ∀ c k, k < cl.length → PySem.W.exmOne K (.ref (g.ca c)) (.ref (g.ca k)) = some (sub c k)
section
variable {P : Program} {w : World} {K : PySem.W.Frag} {mg : Str → Option Value} {base : Heap} {g : G} {cf : Call} {sub : Nat → Nat → Bool} {fu : Nat} {cs : List (Str × D)} {cls : List Str} {rs : List Nat} {fns : List (Str × Nat)} {lv : Nat}
theorem slots_of {μ : List Addr} {st : Store} {H : Hp} {ds : List D} {vs : List V} {N : List Str} (r : Reps K g μ st H ds vs) : SlRep K g μ st H (ds.map some ++ List.replicate (N.length - ds.length) none) (L2.start N vs) := by
  have hl := r.length
  unfold L2.start
  refine ⟨by simp [hl], fun i d h => ?_⟩
  by_cases hi : i < ds.length
  · rw [List.getElem?_append_left (by rw [List.length_map]; exact hi), List.getElem?_map] at h
    obtain ⟨d', h1, h2⟩ := Option.map_eq_some_iff.mp h
    cases h2
    obtain ⟨v, hv, rv⟩ := r.get h1
    refine ⟨v, ?_, rv⟩
    rw [List.getElem?_append_left (by rw [List.length_map, ← hl]; exact hi), List.getElem?_map, hv]
    rfl
  · rw [List.getElem?_append_right (by rw [List.length_map]; omega)] at h
    rw [List.getElem?_replicate] at h
    split at h <;> cases h
theorem defOk {x : Str} {stm : Stmt} {f : Addr} {fd : FuncData} {N ps : List Str} {b : Ss} (F : Fun K x x stm f fd) (S : FnScope N ps (defScope stm)) (kn : Kn g sub cs cls rs K mg) (T : TabOk g cf fns lv P w K mg base)
    (chk : chkSs b { N := N, sc := defScope stm, fns := fns, cs := cs, cls := cls, rs := rs, lvl := lv } (defBody stm) = true) :
    FnOk P w K mg base (L2.CX P w) (lv + 1) f fd ps (spOf K g ps.length (evDef cf sub fu N.length b)) := by
  refine F.okX S (fun vs H Q E h => h.1) fun cdv A outer s H vs Q E hr h => ?_
  have G : GoodS g cf sub { N := N, sc := defScope stm, fns := fns, cs := cs, cls := cls, rs := rs, lvl := lv } (cxOf (L2.CX P w) P w K mg base N x (defScope stm) f cdv A outer s H E) (fun cls d _ H => E cls d H) :=
    { N := rfl, nd := S.nd, sc := rfl, calm := fun _ => rfl, room := fun _ => hr, hu := (show (A.deeper (envOfC x (defScope stm) s.heap.objs.size f cdv)).units + 65 < cLine by have := hr.un; omega), tk := takes_of rfl rfl rfl rfl, po := fun _ => passes_of rfl, fk := fun _ => S.kind, fn := fun _ _ => rfl, stk := fun _ => ⟨rfl, rfl⟩, bn := kn.bn, tab := T, cst := kn.cst, cls := kn.cls, raw := fun k h => ⟨(kn.raw k h).1, raises_own (kn.raw k h).2.1 (kn.raw k h).2.2⟩, exm := kn.exm }
  refine ⟨_, ssOk (fu := fu) b G chk, ?_⟩
  obtain ⟨hl, l, μ, st, ds, R, rs, Pq⟩ := h
  refine ⟨l, ds.map some ++ List.replicate (N.length - ds.length) none, st, μ, R, slots_of rs, ?_⟩
  unfold evDef at Pq
  generalize evSs cf sub fu b (ds.map some ++ List.replicate (N.length - ds.length) none) st = r at Pq ⊢
  cases r with
  | nx e1 st1 => exact fun μ' H' σ' E' R' S' => Pq μ' H' .non E' R' .non
  | rt d st1 => exact fun μ' H' v E' R' r' => Pq μ' H' v E' R' r'
  | bk e1 st1 => exact Pq.elim
  | ct e1 st1 => exact Pq.elim
  | exc c fs e1 st1 => exact fun μ' H' σ' cls dd E' R' S' x' => Pq μ' H' cls dd E' R' x'
  | fail => exact Pq.elim
theorem tab_nil : TabOk g cf [] 0 P w K mg base := fun k x n h => by simp at h
/-- one more def -/
theorem tab_step {x : Str} {stm : Stmt} {fd : FuncData} {N ps : List Str} {b : Ss} (T : TabOk g cf fns lv P w K mg base) (kn : Kn g sub cs cls rs K mg) {n : Nat} (hn : fns.length = n) (F : Fun K x x stm (g.fa n) fd) (hb : Binds K fd ps []) (hm : mg x = some (.ref (g.fa n))) (S : FnScope N ps (defScope stm))
    (chk : chkSs b { N := N, sc := defScope stm, fns := fns, cs := cs, cls := cls, rs := rs, lvl := lv } (defBody stm) = true) (hr : Ref (cf n) (evDef cf sub fu N.length b)) : TabOk g cf (fns ++ [(x, ps.length)]) (lv + 1) P w K mg base := by
  intro k y m h
  by_cases hk : k < fns.length
  · rw [List.getElem?_append_left hk] at h
    obtain ⟨fd', ps', lv', h1, h2, h3, h4, h5, h6⟩ := T k y m h
    exact ⟨fd', ps', lv', h1, h2, h3, h4, Nat.le_succ_of_le h5, h6⟩
  · have hk2 : k = fns.length := by
      have := (List.getElem?_eq_some_iff.mp h).1
      rw [List.length_append, List.length_singleton] at this
      omega
    subst hk2
    rw [List.getElem?_append_right (Nat.le_refl _), Nat.sub_self] at h
    cases h
    rw [hn]
    exact ⟨fd, ps, lv + 1, rfl, hm, F.kp, hb, Nat.le_refl _, (defOk (fu := fu) F S kn T chk).imp fun vs H Q E h => hr.spec h⟩

theorem TabOk.congr {cf' : Call} (T : TabOk g cf fns lv P w K mg base) (h : ∀ k, k < fns.length → cf' k = cf k) : TabOk g cf' fns lv P w K mg base := fun k x n e => by
  obtain ⟨fd, ps, lv', h1, h2, h3, h4, h5, h6⟩ := T k x n e
  refine ⟨fd, ps, lv', h1, h2, h3, h4, h5, ?_⟩
  rw [h k (List.getElem?_eq_some_iff.mp e).1]
  exact h6
/-- one more def of the table -/
theorem tab_cfL {r : List (Nat × Ss)} {x : Str} {stm : Stmt} {fd : FuncData} {N ps : List Str} {b : Ss} {n : Nat} (T : TabOk g (cfL sub fu r) (fns.take n) n P w K mg base) (kn : Kn g sub cs cls rs K mg) (hr : r.length = n) (hx : fns[n]? = some (x, ps.length)) (F : Fun K x x stm (g.fa n) fd) (hb : Binds K fd ps []) (hm : mg x = some (.ref (g.fa n))) (S : FnScope N ps (defScope stm))
    (chk : chkSs b { N := N, sc := defScope stm, fns := fns.take n, cs := cs, cls := cls, rs := rs, lvl := n } (defBody stm) = true) : TabOk g (cfL sub fu ((N.length, b) :: r)) (fns.take (n + 1)) (n + 1) P w K mg base := by
  have hl : n < fns.length := (List.getElem?_eq_some_iff.mp hx).1
  have hlt : (fns.take n).length = n := by rw [List.length_take]; omega
  have T' : TabOk g (cfL sub fu ((N.length, b) :: r)) (fns.take n) n P w K mg base := T.congr fun k hk => cfL_low (by omega)
  rw [List.take_add_one, hx]
  intro k y m h
  by_cases hk : k < (fns.take n).length
  · rw [List.getElem?_append_left hk] at h
    obtain ⟨fd', ps', lv', h1, h2, h3, h4, h5, h6⟩ := T' k y m h
    exact ⟨fd', ps', lv', h1, h2, h3, h4, Nat.le_succ_of_le h5, h6⟩
  · have hk2 : k = n := by
      have := (List.getElem?_eq_some_iff.mp h).1
      rw [List.length_append] at this
      simp at this
      omega
    subst hk2
    rw [List.getElem?_append_right (by omega), hlt, Nat.sub_self] at h
    cases h
    refine ⟨fd, ps, k + 1, rfl, hm, F.kp, hb, Nat.le_refl _, (defOk (fu := fu) F S kn T chk).imp fun vs H Q E h => ?_⟩
    have e : cfL sub fu ((N.length, b) :: r) k = fun as st => trimR st (evDef (cfL sub fu r) sub fu N.length b as st) := by
      funext as st
      rw [← hr, cfL_top]
    rw [e] at h
    exact (trim_ref _).spec h

/-! ### the law's end -/
/-- the law's promise: at a script of ints it gives True -/
def spLaw (K : PySem.W.Frag) (m : List D → Store → R D) : Sp := fun vs H Q _ => ∃ (a : Addr) (ns : List Int), vs = [.ref a] ∧ ns.length ≤ 63 ∧ Only H ∧ SqL K H a (ns.map V.int) ∧ m [.rol (ns.map .int)] [] = .ok (.bl true) [] ∧ ∀ H', Q (.bl true) H'
theorem spLaw.of {vs : List V} {H : Hp} {Q : VK} {E : XK} {m : List D → Store → R D} (h : spLaw K m vs H Q E) : spOf K g 1 m vs H Q E := by
  obtain ⟨a, ns, rfl, hl, hO, hS, hm, q⟩ := h
  refine ⟨rfl, [], [], [], [.rol (ns.map .int)], ⟨rfl, List.nodup_nil, (fun _ h => by cases h), (fun _ _ _ h => by simp at h), (fun _ h => by cases h)⟩, .one ?_, ?_⟩
  · have hz : (ns.map D.int).length ≤ most := by rw [List.length_map]; unfold most; omega
    rcases hS with h | h
    · rcases h with h | ⟨o, h⟩
      · rcases hO a with z | ⟨o, xs, z⟩
        · rw [h] at z; cases z
        · rw [h] at z; cases z
      · exact .rol h hz (Reps.ofInts ns)
    · exact .lstK h hz (Reps.ofInts ns)
  · rw [hm]
    intro μ' H' v E' R' r'
    cases r'
    exact q H'
end
end EV
/-! EvO: from the facts of the written part to the tables. -/
namespace EV
open PySem PySem.Spec PyProof.Rows L2

section
variable {P : Program} {w : World} {K : PySem.W.Frag} {mg : Str → Option Value} {base : Heap} {g : G} {cf : Call} {sub : Nat → Nat → Bool} {fu : Nat} {cs : List (Str × D)} {cls : List Str} {rs : List Nat} {fns : List (Str × Nat)} {lv : Nat}
/-! ### constants -/
/-- a constant by its fact: a number, a text; a tuple of such -/
def litB : Value → D → Bool
  | .none, .non => true
  | .bool a, .bl b => a == b
  | .int i _, .int j => decide (i = j)
  | .str x _, .str y => decide (x = y)
  | _, _ => false
def litsB : List Value → List D → Bool
  | [], [] => true
  | u :: us, d :: ds => litB u d && litsB us ds
  | _, _ => false
theorem lit_rep : ∀ {u : Value} {d : D}, litB u d = true → ∃ v, RelV v u ∧ ∀ l μ st H, Rep K (g.h l) μ st H d v := by
  intro u d h
  cases u <;> cases d <;> first | (simp [litB] at h; done) | skip
  · exact ⟨.non, rfl, fun _ _ _ _ => .non⟩
  · simp [litB] at h; subst h; exact ⟨.bl _, rfl, fun _ _ _ _ => .bl _⟩
  · simp [litB] at h; subst h; exact ⟨.int _, ⟨_, rfl⟩, fun _ _ _ _ => .int _⟩
  · simp [litB] at h; subst h; exact ⟨.str _, ⟨_, rfl⟩, fun _ _ _ _ => .str _⟩
theorem lits_rep : ∀ {us : List Value} {ds : List D}, litsB us ds = true → ∃ vs, Vals vs us ∧ ∀ l μ st H, Reps K (g.h l) μ st H ds vs
  | [], [], _ => ⟨[], .nil, fun _ _ _ _ => .nil⟩
  | [], _ :: _, h => by simp [litsB] at h
  | _ :: _, [], h => by simp [litsB] at h
  | u :: us, d :: ds, h => by
    rw [litsB, Bool.and_eq_true] at h
    obtain ⟨v, r1, r2⟩ := lit_rep (K := K) (g := g) h.1
    obtain ⟨vs, q1, q2⟩ := lits_rep h.2
    exact ⟨v :: vs, .cons r1 q1, fun l μ st H => .cons (r2 l μ st H) (q2 l μ st H)⟩
theorem cst_lit {h : Heap} {x : Str} {u : Value} {d : D} (X : K.In h) (G : h.Ns mainGlobals mg) (a : PySem.W.nsIn K mainGlobals x = some (some u)) (c : litB u d = true) : ∃ u v, mg x = some u ∧ RelV v u ∧ ∀ l μ st H, Rep K (g.h l) μ st H d v :=
  let ⟨v, r, rr⟩ := lit_rep (K := K) (g := g) c
  ⟨u, v, PySem.W.mg_of X G a, r, rr⟩
theorem cst_tup {h : Heap} {x : Str} {a : Addr} {ds : List D} {od : Option Addr} {its : Array Value} {n : Nat} {sl : Array (Option Value)} (X : K.In h) (G : h.Ns mainGlobals mg) (e : PySem.W.nsIn K mainGlobals x = some (some (.ref a))) (l : K.lookup a = some ⟨.type "tuple", od, .seq its n, sl⟩) (hz : decide (its.size ≤ 1000) = true) (c : litsB its.toList ds = true) :
    ∃ u v, mg x = some u ∧ RelV v u ∧ ∀ l μ st H, Rep K (g.h l) μ st H (.tup ds) v := by
  obtain ⟨vs, rv, rr⟩ := lits_rep (K := K) (g := g) c
  have hz : its.size ≤ 1000 := of_decide_eq_true hz
  refine ⟨.ref a, .ref a, PySem.W.mg_of X G e, rfl, fun m μ st H => .tup (xs := vs) (.inr ⟨_, its, n, l, rfl, rfl, by rw [sizeLine_eq]; omega, rv⟩) ?_ (rr m μ st H)⟩
  have h5 : ds.length = vs.length := (rr m μ st H).length
  have h4 : vs.length = its.toList.length := rv.length
  have h6 : its.toList.length = its.size := Array.length_toList
  unfold most
  omega
/-- class c is k, or below it, or apart from it -/
theorem exm_by {S C : Addr} {b : Bool} (h1 : PySem.W.subIn K (.ref S) (.type "BaseException") = some true) (h2 : PySem.W.isClsIn K S = true) (h3 : PySem.W.typeIn K (.ref S) = some (.type "type")) (h4 : PySem.W.subIn K (.ref C) (.ref S) = some b) : PySem.W.exmOne K (.ref C) (.ref S) = some b := by
  have h5 : (PySem.W.clsIn K S).isSome = true := by
    unfold PySem.W.isClsIn at h2
    exact h2
  unfold PySem.W.exmOne PySem.W.kitCls
  rw [h1, if_pos (by rfl)]
  show (if ((PySem.W.clsIn K S).isSome && PySem.W.typeIn K (.ref S) == some (.type "type")) = true then PySem.W.subIn K (.ref C) (.ref S) else none) = some b
  rw [h5, h3, if_pos (by rfl), h4]
end
end EV
/-! EvQ: the evaluator's equations, each continuation a word of its own: simp works out what comes first first. -/
namespace EV
open PySem
section
variable {cf : Call} {sub : Nat → Nat → Bool} {fu : Nat} {σ : Sl} {st : Store}
def getV (o : Option (Option D)) (st : Store) : R D := match o with
  | some (some d) => .ok d st
  | _ => .fail
@[simp] theorem getV_some (d : D) : getV (some (some d)) st = .ok d st := rfl
@[simp] theorem evX_var (i : Nat) : evX cf (.var i) σ st = getV σ[i]? st := by rw [evX]; rfl
@[simp] theorem evX_con (d : D) : evX cf (.con d) σ st = .ok d st := by rw [evX]
@[simp] theorem evX_gfn (k : Nat) : evX cf (.gfn k) σ st = .ok (.fn k) st := by rw [evX]
def k_bin2 (op : Bop) (x y : D) (st : Store) : R D := ofOpt (evBin op x y) st
@[simp] theorem k_bin2_eq (op : Bop) (x y : D) : k_bin2 op x y st = ofOpt (evBin op x y) st := id rfl
def k_bin1 (cf : Call) (op : Bop) (b : X) (σ : Sl) (x : D) (st : Store) : R D := (evX cf b σ st).bind (k_bin2 op x)
@[simp] theorem k_bin1_eq (op : Bop) (b : X) (x : D) : k_bin1 cf op b σ x st = (evX cf b σ st).bind (k_bin2 op x) := id rfl
@[simp] theorem evX_bin (op : Bop) (a b : X) : evX cf (.bin op a b) σ st = (evX cf a σ st).bind (k_bin1 cf op b σ) := by rw [evX]; rfl
def k_neg (x : D) (st : Store) : R D := match x with
  | .int i => .ok (.int (-i)) st
  | _ => .fail
@[simp] theorem k_neg_eq (i : Int) : k_neg (.int i) st = .ok (.int (-i)) st := rfl
@[simp] theorem evX_neg (a : X) : evX cf (.neg a) σ st = (evX cf a σ st).bind k_neg := by rw [evX]; rfl
def k_not (x : D) (st : Store) : R D := match x with
  | .bl b => .ok (.bl (!b)) st
  | _ => .fail
@[simp] theorem k_not_eq (b : Bool) : k_not (.bl b) st = .ok (.bl (!b)) st := rfl
@[simp] theorem evX_not (a : X) : evX cf (.not a) σ st = (evX cf a σ st).bind k_not := by rw [evX]; rfl
@[simp] theorem evX_bop (isAnd : Bool) (xs : Xs) : evX cf (.bop isAnd xs) σ st = evBop cf isAnd xs σ st := by rw [evX]
@[simp] theorem evBop_one (isAnd : Bool) (x : X) : evBop cf isAnd (.cons x .nil) σ st = evX cf x σ st := by rw [evBop]
def k_bop (cf : Call) (isAnd : Bool) (xs : Xs) (σ : Sl) (d : D) (st : Store) : R D := match d with
  | .bl b => if b = isAnd then evBop cf isAnd xs σ st else .ok (.bl b) st
  | _ => .fail
@[simp] theorem k_bop_tt (xs : Xs) : k_bop cf true xs σ (.bl true) st = evBop cf true xs σ st := rfl
@[simp] theorem k_bop_tf (xs : Xs) : k_bop cf true xs σ (.bl false) st = .ok (.bl false) st := rfl
@[simp] theorem k_bop_ff (xs : Xs) : k_bop cf false xs σ (.bl false) st = evBop cf false xs σ st := rfl
@[simp] theorem k_bop_ft (xs : Xs) : k_bop cf false xs σ (.bl true) st = .ok (.bl true) st := rfl
@[simp] theorem evBop_more (isAnd : Bool) (x y : X) (ys : Xs) : evBop cf isAnd (.cons x (.cons y ys)) σ st = (evX cf x σ st).bind (k_bop cf isAnd (.cons y ys) σ) := by
  rw [evBop]
  · rfl
  · intro z; cases z
def k_cmp2 (op : Cop) (x y : D) (st : Store) : R D := ofOpt ((evCmp st op x y).map .bl) st
@[simp] theorem k_cmp2_eq (op : Cop) (x y : D) : k_cmp2 op x y st = ofOpt ((evCmp st op x y).map .bl) st := rfl
def k_cmp1 (cf : Call) (op : Cop) (b : X) (σ : Sl) (x : D) (st : Store) : R D := (evX cf b σ st).bind (k_cmp2 op x)
@[simp] theorem k_cmp1_eq (op : Cop) (b : X) (x : D) : k_cmp1 cf op b σ x st = (evX cf b σ st).bind (k_cmp2 op x) := rfl
@[simp] theorem evX_cmp (op : Cop) (a b : X) : evX cf (.cmp op a b) σ st = (evX cf a σ st).bind (k_cmp1 cf op b σ) := by rw [evX]; rfl
def k_chn3 (cf : Call) (op' : Cop) (c : X) (σ : Sl) (y : D) (o : Option Bool) (st : Store) : R D := match o with
  | none => .fail
  | some false => .ok (.bl false) st
  | some true => (evX cf c σ st).bind (k_cmp2 op' y)
@[simp] theorem k_chn3_f (op' : Cop) (c : X) (y : D) : k_chn3 cf op' c σ y (some false) st = .ok (.bl false) st := rfl
@[simp] theorem k_chn3_t (op' : Cop) (c : X) (y : D) : k_chn3 cf op' c σ y (some true) st = (evX cf c σ st).bind (k_cmp2 op' y) := rfl
def k_chn2 (cf : Call) (op op' : Cop) (c : X) (σ : Sl) (x y : D) (st : Store) : R D := k_chn3 cf op' c σ y (evCmp st op x y) st
@[simp] theorem k_chn2_eq (op op' : Cop) (c : X) (x y : D) : k_chn2 cf op op' c σ x y st = k_chn3 cf op' c σ y (evCmp st op x y) st := rfl
def k_chn1 (cf : Call) (op op' : Cop) (b c : X) (σ : Sl) (x : D) (st : Store) : R D := (evX cf b σ st).bind (k_chn2 cf op op' c σ x)
@[simp] theorem k_chn1_eq (op op' : Cop) (b c : X) (x : D) : k_chn1 cf op op' b c σ x st = (evX cf b σ st).bind (k_chn2 cf op op' c σ x) := rfl
@[simp] theorem evX_chn (op op' : Cop) (a b c : X) : evX cf (.chn op op' a b c) σ st = (evX cf a σ st).bind (k_chn1 cf op op' b c σ) := by
  rw [evX]
  first | rfl | (congr 1)
def k_ife (cf : Call) (a b : X) (σ : Sl) (x : D) (st : Store) : R D := match x with
  | .bl true => evX cf a σ st
  | .bl false => evX cf b σ st
  | _ => .fail
@[simp] theorem k_ife_t (a b : X) : k_ife cf a b σ (.bl true) st = evX cf a σ st := rfl
@[simp] theorem k_ife_f (a b : X) : k_ife cf a b σ (.bl false) st = evX cf b σ st := rfl
@[simp] theorem evX_ife (c a b : X) : evX cf (.ife c a b) σ st = (evX cf c σ st).bind (k_ife cf a b σ) := by rw [evX]; rfl
def k_tup (ds : List D) (st : Store) : R D := .ok (.tup ds) st
@[simp] theorem k_tup_eq (ds : List D) : k_tup ds st = .ok (.tup ds) st := rfl
@[simp] theorem evX_tup (xs : Xs) : evX cf (.tup xs) σ st = (evXs cf xs σ st).bind k_tup := by rw [evX]; rfl
def k_lst (mu : Bool) (ds : List D) (st : Store) : R D := if mu then .ok (.loc st.length) (st ++ [.lst ds]) else .ok (.lst ds) st
@[simp] theorem k_lst_t (ds : List D) : k_lst true ds st = .ok (.loc st.length) (st ++ [.lst ds]) := rfl
@[simp] theorem k_lst_f (ds : List D) : k_lst false ds st = .ok (.lst ds) st := rfl
@[simp] theorem evX_lst (mu : Bool) (xs : Xs) : evX cf (.lst mu xs) σ st = (evXs cf xs σ st).bind (k_lst mu) := by rw [evX]; rfl
def k_idx2 (x y : D) (st : Store) : R D := ofOpt (evIdx st x y) st
@[simp] theorem k_idx2_eq (x y : D) : k_idx2 x y st = ofOpt (evIdx st x y) st := rfl
def k_idx1 (cf : Call) (b : X) (σ : Sl) (x : D) (st : Store) : R D := (evX cf b σ st).bind (k_idx2 x)
@[simp] theorem k_idx1_eq (b : X) (x : D) : k_idx1 cf b σ x st = (evX cf b σ st).bind (k_idx2 x) := rfl
@[simp] theorem evX_idx (a i : X) : evX cf (.idx a i) σ st = (evX cf a σ st).bind (k_idx1 cf i σ) := by rw [evX]; rfl
def k_sl3 (x : D) (l h : Option Int) (st : Store) : R D := ofOpt (evSl st x l h) st
@[simp] theorem k_sl3_eq (x : D) (l h : Option Int) : k_sl3 x l h st = ofOpt (evSl st x l h) st := rfl
def k_sl2 (cf : Call) (hi : Xo) (σ : Sl) (x : D) (l : Option Int) (st : Store) : R D := (evXo cf hi σ st).bind (k_sl3 x l)
@[simp] theorem k_sl2_eq (hi : Xo) (x : D) (l : Option Int) : k_sl2 cf hi σ x l st = (evXo cf hi σ st).bind (k_sl3 x l) := rfl
def k_sl1 (cf : Call) (lo hi : Xo) (σ : Sl) (x : D) (st : Store) : R D := (evXo cf lo σ st).bind (k_sl2 cf hi σ x)
@[simp] theorem k_sl1_eq (lo hi : Xo) (x : D) : k_sl1 cf lo hi σ x st = (evXo cf lo σ st).bind (k_sl2 cf hi σ x) := rfl
@[simp] theorem evX_sl (a : X) (lo hi : Xo) : evX cf (.sl a lo hi) σ st = (evX cf a σ st).bind (k_sl1 cf lo hi σ) := by rw [evX]; rfl
@[simp] theorem evXo_none : evXo cf .none σ st = .ok none st := by rw [evXo]
def k_xo (d : D) (st : Store) : R (Option Int) := match d with
  | .int i => .ok (some i) st
  | _ => .fail
@[simp] theorem k_xo_eq (i : Int) : k_xo (.int i) st = .ok (some i) st := rfl
@[simp] theorem evXo_some (a : X) : evXo cf (.some a) σ st = (evX cf a σ st).bind k_xo := by rw [evXo]; rfl
@[simp] theorem evX_call (k : Nat) (args : Xs) : evX cf (.call k args) σ st = (evXs cf args σ st).bind (cf k) := by rw [evX]
def k_callv (cf : Call) (ks : List Nat) (args : Xs) (σ : Sl) (o : Option (Option D)) (st : Store) : R D := match o with
  | some (some (.fn k)) => if ks.contains k then (evXs cf args σ st).bind (cf k) else .fail
  | _ => .fail
@[simp] theorem k_callv_eq (ks : List Nat) (args : Xs) (k : Nat) : k_callv cf ks args σ (some (some (.fn k))) st = if ks.contains k then (evXs cf args σ st).bind (cf k) else .fail := rfl
@[simp] theorem evX_callv (i : Nat) (ks : List Nat) (args : Xs) : evX cf (.callv i ks args) σ st = k_callv cf ks args σ σ[i]? st := by rw [evX]; rfl
def k_blt (f : Blt) (ds : List D) (st : Store) : R D := ofOpt (evBlt st f ds) st
@[simp] theorem k_blt_eq (f : Blt) (ds : List D) : k_blt f ds st = ofOpt (evBlt st f ds) st := rfl
@[simp] theorem evX_blt (f : Blt) (args : Xs) : evX cf (.blt f args) σ st = (evXs cf args σ st).bind (k_blt f) := by rw [evX]; rfl
def k_isi (t : Tyc) (d : D) (st : Store) : R D := ofOpt ((evIsi d t).map .bl) st
@[simp] theorem k_isi_eq (t : Tyc) (d : D) : k_isi t d st = ofOpt ((evIsi d t).map .bl) st := rfl
@[simp] theorem evX_isi (a : X) (t : Tyc) : evX cf (.isi a t) σ st = (evX cf a σ st).bind (k_isi t) := by rw [evX]; rfl
def k_srs (d : D) (st : Store) : R D := ofOpt (evSrs d) st
@[simp] theorem k_srs_eq (d : D) : k_srs d st = ofOpt (evSrs d) st := rfl
@[simp] theorem evX_srs (a : X) : evX cf (.srs a) σ st = (evX cf a σ st).bind k_srs := by rw [evX]; rfl
def k_trg (d : D) (st : Store) : R D := ofOpt (evTrg d) st
@[simp] theorem k_trg_eq (d : D) : k_trg d st = ofOpt (evTrg d) st := rfl
@[simp] theorem evX_trg (a : X) : evX cf (.trg a) σ st = (evX cf a σ st).bind k_trg := by rw [evX]; rfl
def k_dgt4 (k1 k2 : Str) (x y u z : D) (st : Store) : R D := ofOpt (evDgt k1 k2 x y u z) st
@[simp] theorem k_dgt4_eq (k1 k2 : Str) (x y u z : D) : k_dgt4 k1 k2 x y u z st = ofOpt (evDgt k1 k2 x y u z) st := rfl
def k_dgt3 (cf : Call) (k1 k2 : Str) (d : X) (σ : Sl) (x y u : D) (st : Store) : R D := (evX cf d σ st).bind (k_dgt4 k1 k2 x y u)
@[simp] theorem k_dgt3_eq (k1 k2 : Str) (d : X) (x y u : D) : k_dgt3 cf k1 k2 d σ x y u st = (evX cf d σ st).bind (k_dgt4 k1 k2 x y u) := rfl
def k_dgt2 (cf : Call) (k1 k2 : Str) (k d : X) (σ : Sl) (x y : D) (st : Store) : R D := (evX cf k σ st).bind (k_dgt3 cf k1 k2 d σ x y)
@[simp] theorem k_dgt2_eq (k1 k2 : Str) (k d : X) (x y : D) : k_dgt2 cf k1 k2 k d σ x y st = (evX cf k σ st).bind (k_dgt3 cf k1 k2 d σ x y) := rfl
def k_dgt1 (cf : Call) (k1 k2 : Str) (b k d : X) (σ : Sl) (x : D) (st : Store) : R D := (evX cf b σ st).bind (k_dgt2 cf k1 k2 k d σ x)
@[simp] theorem k_dgt1_eq (k1 k2 : Str) (b k d : X) (x : D) : k_dgt1 cf k1 k2 b k d σ x st = (evX cf b σ st).bind (k_dgt2 cf k1 k2 k d σ x) := rfl
@[simp] theorem evX_dgt (k1 k2 : Str) (a b k d : X) : evX cf (.dgt k1 k2 a b k d) σ st = (evX cf a σ st).bind (k_dgt1 cf k1 k2 b k d σ) := by rw [evX]; rfl
@[simp] theorem evCatm_eq (xs ys : List D) : evCatm (.lst xs) (.lst ys) st = if decide (xs.length + ys.length ≤ most) then .ok (.loc st.length) (st ++ [.lst (xs ++ ys)]) else .fail := rfl
def k_catm (cf : Call) (b : X) (σ : Sl) (x : D) (st : Store) : R D := (evX cf b σ st).bind (evCatm x)
@[simp] theorem k_catm_eq (b : X) (x : D) : k_catm cf b σ x st = (evX cf b σ st).bind (evCatm x) := rfl
@[simp] theorem evX_catm (a b : X) : evX cf (.catm a b) σ st = (evX cf a σ st).bind (k_catm cf b σ) := by rw [evX]; rfl
def k_frz1 (l : Nat) (o : Option O) (st : Store) : R D := match o with
  | some (.lst ds) => .ok (.lst ds) (st.set l .gone)
  | _ => .fail
@[simp] theorem k_frz1_eq (l : Nat) (ds : List D) : k_frz1 l (some (.lst ds)) st = .ok (.lst ds) (st.set l .gone) := rfl
def k_frz (d : D) (st : Store) : R D := match d with
  | .loc l => k_frz1 l st[l]? st
  | _ => .fail
@[simp] theorem k_frz_eq (l : Nat) : k_frz (.loc l) st = k_frz1 l st[l]? st := rfl
@[simp] theorem evX_frz (a : X) : evX cf (.frz a) σ st = (evX cf a σ st).bind k_frz := by rw [evX]; rfl
def k_lc2 (mu : Bool) (ds : List D) (st : Store) : R D := if mu then .ok (.loc st.length) (st ++ [.lst ds]) else .ok (.lst ds) st
@[simp] theorem k_lc2_t (ds : List D) : k_lc2 true ds st = .ok (.loc st.length) (st ++ [.lst ds]) := rfl
@[simp] theorem k_lc2_f (ds : List D) : k_lc2 false ds st = .ok (.lst ds) st := rfl
def k_elt2 (x : D) (st : Store) : R (Option D) := .ok (some x) st
@[simp] theorem k_elt2_eq (x : D) : k_elt2 x st = .ok (some x) st := rfl
def k_elt (cf : Call) (elt : X) (σ : Sl) (b : Bool) (st : Store) : R (Option D) := if b then (evX cf elt σ st).bind k_elt2 else .ok none st
@[simp] theorem k_elt_t (elt : X) : k_elt cf elt σ true st = (evX cf elt σ st).bind k_elt2 := rfl
@[simp] theorem k_elt_f (elt : X) : k_elt cf elt σ false st = .ok none st := rfl
def k_turn1 (cf : Call) (elt : X) (cond : Xo) (o : Option Sl) (st : Store) : R (Option D) := match o with
  | none => .fail
  | some σ1 => (evXc cf cond σ1 st).bind (k_elt cf elt σ1)
@[simp] theorem k_turn1_eq (elt : X) (cond : Xo) : k_turn1 cf elt cond (some σ) st = (evXc cf cond σ st).bind (k_elt cf elt σ) := rfl
/-- a comprehension's turn -/
def k_turn (cf : Call) (elt : X) (tg : Tg) (cond : Xo) (σ : Sl) (d : D) (st : Store) : R (Option D) := k_turn1 cf elt cond (evTg tg d σ) st
theorem k_turn_eq (elt : X) (tg : Tg) (cond : Xo) (d : D) : k_turn cf elt tg cond σ d st = k_turn1 cf elt cond (evTg tg d σ) st := rfl
def k_lc1 (cf : Call) (mu : Bool) (elt : X) (tg : Tg) (cond : Xo) (σ : Sl) (items : List D) (st : Store) : R D := (lcLoop (k_turn cf elt tg cond σ) items [] st).bind (k_lc2 mu)
@[simp] theorem k_lc1_eq (mu : Bool) (elt : X) (tg : Tg) (cond : Xo) (items : List D) : k_lc1 cf mu elt tg cond σ items st = (lcLoop (k_turn cf elt tg cond σ) items [] st).bind (k_lc2 mu) := rfl
@[simp] theorem evX_lc (mu : Bool) (elt : X) (tg : Tg) (src : Sr) (cond : Xo) (own : List Nat) : evX cf (.lc mu elt tg src cond own) σ st = (evSr cf src σ st).bind (k_lc1 cf mu elt tg cond (wipeE σ own)) := by
  rw [evX]
  first | rfl | (congr 1)
@[simp] theorem evXc_none : evXc cf .none σ st = .ok true st := by rw [evXc]
def k_xc (d : D) (st : Store) : R Bool := match d with
  | .bl b => .ok b st
  | _ => .fail
@[simp] theorem k_xc_eq (b : Bool) : k_xc (.bl b) st = .ok b st := rfl
@[simp] theorem evXc_one (a : X) : evXc cf (.some a) σ st = (evX cf a σ st).bind k_xc := by rw [evXc]; rfl
@[simp] theorem evXs_nil : evXs cf .nil σ st = .ok [] st := by rw [evXs]
def k_xs2 (d : D) (ds : List D) (st : Store) : R (List D) := .ok (d :: ds) st
@[simp] theorem k_xs2_eq (d : D) (ds : List D) : k_xs2 d ds st = .ok (d :: ds) st := rfl
def k_xs1 (cf : Call) (xs : Xs) (σ : Sl) (d : D) (st : Store) : R (List D) := (evXs cf xs σ st).bind (k_xs2 d)
@[simp] theorem k_xs1_eq (xs : Xs) (d : D) : k_xs1 cf xs σ d st = (evXs cf xs σ st).bind (k_xs2 d) := rfl
@[simp] theorem evXs_cons (x : X) (xs : Xs) : evXs cf (.cons x xs) σ st = (evX cf x σ st).bind (k_xs1 cf xs σ) := by rw [evXs]; rfl
/-! what is walked -/
def k_val (x : D) (st : Store) : R (List D) := match x with
  | .tup ds => .ok ds st
  | .lst ds => .ok ds st
  | .rol ds => .ok ds st
  | _ => .fail
@[simp] theorem k_val_tup (ds : List D) : k_val (.tup ds) st = .ok ds st := rfl
@[simp] theorem k_val_lst (ds : List D) : k_val (.lst ds) st = .ok ds st := rfl
@[simp] theorem k_val_rol (ds : List D) : k_val (.rol ds) st = .ok ds st := rfl
@[simp] theorem evSr_val (a : X) : evSr cf (.val a) σ st = (evX cf a σ st).bind k_val := by rw [evSr]; rfl
def k_rng (x : D) (st : Store) : R (List D) := match x with
  | .int n => if decide (n ≤ most ∧ -(2 ^ 62) ≤ n) then .ok ((List.range n.toNat).map fun (i : Nat) => .int (i : Int)) st else .fail
  | _ => .fail
@[simp] theorem k_rng_eq (n : Int) : k_rng (.int n) st = if decide (n ≤ most ∧ -(2 ^ 62) ≤ n) then .ok ((List.range n.toNat).map fun (i : Nat) => .int (i : Int)) st else .fail := rfl
@[simp] theorem evSr_rng (a : X) : evSr cf (.rng a) σ st = (evX cf a σ st).bind k_rng := by rw [evSr]; rfl
def k_rngB (x y : D) (st : Store) : R (List D) := match x, y with
  | .int lo, .int hi => if decide (-(2 ^ 62) ≤ lo ∧ lo < 2 ^ 62 ∧ -(2 ^ 62) ≤ hi ∧ hi < 2 ^ 62 ∧ hi - lo ≤ most) then .ok ((List.range (hi - lo).toNat).map fun (i : Nat) => .int (lo + (i : Int))) st else .fail
  | _, _ => .fail
@[simp] theorem k_rngB_eq (lo hi : Int) : k_rngB (.int lo) (.int hi) st = if decide (-(2 ^ 62) ≤ lo ∧ lo < 2 ^ 62 ∧ -(2 ^ 62) ≤ hi ∧ hi < 2 ^ 62 ∧ hi - lo ≤ most) then .ok ((List.range (hi - lo).toNat).map fun (i : Nat) => .int (lo + (i : Int))) st else .fail := rfl
def k_rngA (cf : Call) (b : X) (σ : Sl) (x : D) (st : Store) : R (List D) := (evX cf b σ st).bind (k_rngB x)
@[simp] theorem k_rngA_eq (b : X) (x : D) : k_rngA cf b σ x st = (evX cf b σ st).bind (k_rngB x) := rfl
@[simp] theorem evSr_rng2 (a b : X) : evSr cf (.rng2 a b) σ st = (evX cf a σ st).bind (k_rngA cf b σ) := by rw [evSr]; rfl
def k_enm (x : D) (st : Store) : R (List D) := match x with
  | .tup ds => .ok (ds.mapIdx fun i d => .tup [.int i, d]) st
  | .lst ds => .ok (ds.mapIdx fun i d => .tup [.int i, d]) st
  | _ => .fail
@[simp] theorem k_enm_tup (ds : List D) : k_enm (.tup ds) st = .ok (ds.mapIdx fun i d => .tup [.int i, d]) st := rfl
@[simp] theorem k_enm_lst (ds : List D) : k_enm (.lst ds) st = .ok (ds.mapIdx fun i d => .tup [.int i, d]) st := rfl
@[simp] theorem evSr_enm (a : X) : evSr cf (.enm a) σ st = (evX cf a σ st).bind k_enm := by rw [evSr]; rfl
def k_zip2 (x y : D) (st : Store) : R (List D) := match x, y with
  | .tup xs, .tup ys => .ok (List.zipWith (fun p q => .tup [p, q]) xs ys) st
  | .lst xs, .lst ys => .ok (List.zipWith (fun p q => .tup [p, q]) xs ys) st
  | .tup xs, .lst ys => .ok (List.zipWith (fun p q => .tup [p, q]) xs ys) st
  | .lst xs, .tup ys => .ok (List.zipWith (fun p q => .tup [p, q]) xs ys) st
  | _, _ => .fail
@[simp] theorem k_zip2_tt (xs ys : List D) : k_zip2 (.tup xs) (.tup ys) st = .ok (List.zipWith (fun p q => .tup [p, q]) xs ys) st := rfl
@[simp] theorem k_zip2_ll (xs ys : List D) : k_zip2 (.lst xs) (.lst ys) st = .ok (List.zipWith (fun p q => .tup [p, q]) xs ys) st := rfl
@[simp] theorem k_zip2_tl (xs ys : List D) : k_zip2 (.tup xs) (.lst ys) st = .ok (List.zipWith (fun p q => .tup [p, q]) xs ys) st := rfl
@[simp] theorem k_zip2_lt (xs ys : List D) : k_zip2 (.lst xs) (.tup ys) st = .ok (List.zipWith (fun p q => .tup [p, q]) xs ys) st := rfl
def k_zip1 (cf : Call) (b : X) (σ : Sl) (x : D) (st : Store) : R (List D) := (evX cf b σ st).bind (k_zip2 x)
@[simp] theorem k_zip1_eq (b : X) (x : D) : k_zip1 cf b σ x st = (evX cf b σ st).bind (k_zip2 x) := rfl
@[simp] theorem evSr_zip (a b : X) : evSr cf (.zip a b) σ st = (evX cf a σ st).bind (k_zip1 cf b σ) := by rw [evSr]; rfl

/-! ### statements -/
@[simp] theorem evSs_nil : evSs cf sub fu .nil σ st = .nx σ st := by rw [evSs]
@[simp] theorem evSs_cons (s : S) (ss : Ss) : evSs cf sub fu (.cons s ss) σ st = (evS cf sub fu s σ st).then (evSs cf sub fu ss) := by rw [evSs]
def k_asg1 (st : Store) (o : Option Sl) : RS := match o with
  | some σ1 => .nx σ1 st
  | none => .fail
@[simp] theorem k_asg1_eq : k_asg1 st (some σ) = .nx σ st := rfl
def k_asg (tg : Tg) (σ : Sl) (d : D) (st : Store) : RS := k_asg1 st (evTg tg d σ)
@[simp] theorem k_asg_eq (tg : Tg) (d : D) : k_asg tg σ d st = k_asg1 st (evTg tg d σ) := rfl
@[simp] theorem evS_asg (tg : Tg) (e : X) : evS cf sub fu (.asg tg e) σ st = (evX cf e σ st).thn σ (k_asg tg σ) := by rw [evS]; rfl
def k_sto3 (σ : Sl) (d o i : D) (st : Store) : RS := evSto o i d σ st
@[simp] theorem k_sto3_eq (d o i : D) : k_sto3 σ d o i st = evSto o i d σ st := rfl
def k_sto2 (cf : Call) (i : X) (σ : Sl) (d o : D) (st : Store) : RS := (evX cf i σ st).thn σ (k_sto3 σ d o)
@[simp] theorem k_sto2_eq (i : X) (d o : D) : k_sto2 cf i σ d o st = (evX cf i σ st).thn σ (k_sto3 σ d o) := rfl
def k_sto1 (cf : Call) (o i : X) (σ : Sl) (d : D) (st : Store) : RS := (evX cf o σ st).thn σ (k_sto2 cf i σ d)
@[simp] theorem k_sto1_eq (o i : X) (d : D) : k_sto1 cf o i σ d st = (evX cf o σ st).thn σ (k_sto2 cf i σ d) := rfl
@[simp] theorem evS_sto (o i e : X) : evS cf sub fu (.sto o i e) σ st = (evX cf e σ st).thn σ (k_sto1 cf o i σ) := by rw [evS]; rfl
def k_app2 (σ : Sl) (o d : D) (st : Store) : RS := evApp o d σ st
@[simp] theorem k_app2_eq (o d : D) : k_app2 σ o d st = evApp o d σ st := rfl
def k_app1 (cf : Call) (e : X) (σ : Sl) (o : D) (st : Store) : RS := if isLoc st o then (evX cf e σ st).thn σ (k_app2 σ o) else .fail
@[simp] theorem k_app1_eq (e : X) (o : D) : k_app1 cf e σ o st = if isLoc st o then (evX cf e σ st).thn σ (k_app2 σ o) else .fail := rfl
@[simp] theorem evS_app (o e : X) : evS cf sub fu (.app o e) σ st = (evX cf o σ st).thn σ (k_app1 cf e σ) := by rw [evS]; rfl
def k_ex (σ : Sl) (_ : D) (st : Store) : RS := .nx σ st
@[simp] theorem k_ex_eq (d : D) : k_ex σ d st = .nx σ st := rfl
@[simp] theorem evS_ex (e : X) : evS cf sub fu (.ex e) σ st = (evX cf e σ st).thn σ (k_ex σ) := by rw [evS]; rfl
def k_ret (d : D) (st : Store) : RS := .rt d st
@[simp] theorem k_ret_eq (d : D) : k_ret d st = .rt d st := rfl
@[simp] theorem evS_ret (e : X) : evS cf sub fu (.ret e) σ st = (evX cf e σ st).thn σ k_ret := by rw [evS]; rfl
@[simp] theorem evS_retN : evS cf sub fu .retN σ st = .rt .non st := by rw [evS]
def k_ite (cf : Call) (sub : Nat → Nat → Bool) (fu : Nat) (a b : Ss) (σ : Sl) (d : D) (st : Store) : RS := match d with
  | .bl true => evSs cf sub fu a σ st
  | .bl false => evSs cf sub fu b σ st
  | _ => .fail
@[simp] theorem k_ite_t (a b : Ss) : k_ite cf sub fu a b σ (.bl true) st = evSs cf sub fu a σ st := rfl
@[simp] theorem k_ite_f (a b : Ss) : k_ite cf sub fu a b σ (.bl false) st = evSs cf sub fu b σ st := rfl
@[simp] theorem evS_ite (c : X) (a b : Ss) : evS cf sub fu (.ite c a b) σ st = (evX cf c σ st).thn σ (k_ite cf sub fu a b σ) := by rw [evS]; rfl
def k_ft1 (cf : Call) (sub : Nat → Nat → Bool) (fu : Nat) (body : Ss) (st : Store) (o : Option Sl) : RS := match o with
  | some σ2 => evSs cf sub fu body σ2 st
  | none => .fail
@[simp] theorem k_ft1_eq (body : Ss) : k_ft1 cf sub fu body st (some σ) = evSs cf sub fu body σ st := rfl
/-- a loop's turn -/
def k_ft (cf : Call) (sub : Nat → Nat → Bool) (fu : Nat) (tg : Tg) (body : Ss) (d : D) (σ : Sl) (st : Store) : RS := k_ft1 cf sub fu body st (evTg tg d σ)
theorem k_ft_eq (tg : Tg) (body : Ss) (d : D) : k_ft cf sub fu tg body d σ st = k_ft1 cf sub fu body st (evTg tg d σ) := rfl
def k_for (cf : Call) (sub : Nat → Nat → Bool) (fu : Nat) (tg : Tg) (body : Ss) (σ : Sl) (items : List D) (st : Store) : RS := forLoop (k_ft cf sub fu tg body) items σ st
@[simp] theorem k_for_eq (tg : Tg) (body : Ss) (items : List D) : k_for cf sub fu tg body σ items st = forLoop (k_ft cf sub fu tg body) items σ st := rfl
@[simp] theorem evS_for (tg : Tg) (src : Sr) (body : Ss) : evS cf sub fu (.for tg src body) σ st = (evSr cf src σ st).thn σ (k_for cf sub fu tg body σ) := by rw [evS]; rfl
@[simp] theorem evS_whl (c : X) (body : Ss) : evS cf sub fu (.whl c body) σ st = whlLoop (evX cf c) (evSs cf sub fu body) fu σ st := by rw [evS]
@[simp] theorem evS_rse (c : Nat) : evS cf sub fu (.rse c) σ st = .exc c [] σ st := by rw [evS]
@[simp] theorem evS_frzv (i : Nat) : evS cf sub fu (.frzv i) σ st = evFrzv i σ st := by rw [evS]
def k_try (cf : Call) (sub : Nat → Nat → Bool) (fu : Nat) (hs : Hs) (r : RS) : RS := match r with
  | .exc c fs σ1 st1 => evHs cf sub fu hs c fs σ1 st1
  | r => r
@[simp] theorem k_try_exc (hs : Hs) (c : Nat) (fs : List D) : k_try cf sub fu hs (.exc c fs σ st) = evHs cf sub fu hs c fs σ st := rfl
@[simp] theorem k_try_nx (hs : Hs) : k_try cf sub fu hs (.nx σ st) = .nx σ st := rfl
@[simp] theorem k_try_rt (hs : Hs) (d : D) : k_try cf sub fu hs (.rt d st) = .rt d st := rfl
@[simp] theorem evS_try (body : Ss) (hs : Hs) : evS cf sub fu (.tryc body hs) σ st = k_try cf sub fu hs (evSs cf sub fu body σ st) := by rw [evS]; rfl
@[simp] theorem evHs_nil (c : Nat) (fs : List D) : evHs cf sub fu .nil c fs σ st = .exc c fs σ st := by rw [evHs]
@[simp] theorem evHs_cons (k : Nat) (body : Ss) (hs : Hs) (c : Nat) (fs : List D) : evHs cf sub fu (.cons k body hs) c fs σ st = if sub c k then (evSs cf sub fu body σ st).noX else evHs cf sub fu hs c fs σ st := by rw [evHs]
@[simp] theorem noX_nx : (RS.nx σ st).noX = .nx σ st := rfl
@[simp] theorem noX_rt (d : D) : (RS.rt d st).noX = .rt d st := rfl
/-- a def's end -/
def RS.fin (r : RS) : R D := match r with
  | .nx _ st1 => .ok .non st1
  | .rt d st1 => .ok d st1
  | .exc c fs _ st1 => .exc c fs st1
  | _ => .fail
@[simp] theorem RS.fin_nx (σ : Sl) (st : Store) : (RS.nx σ st).fin = .ok .non st := rfl
@[simp] theorem RS.fin_rt (d : D) (st : Store) : (RS.rt d st).fin = .ok d st := rfl
@[simp] theorem RS.fin_exc (c : Nat) (fs : List D) (σ : Sl) (st : Store) : (RS.exc c fs σ st).fin = .exc c fs st := rfl
theorem evDef_fin {n : Nat} {body : Ss} {as : List D} : evDef cf sub fu n body as st = (evSs cf sub fu body (as.map some ++ List.replicate (n - as.length) none) st).fin := by
  unfold evDef RS.fin
  cases evSs cf sub fu body (as.map some ++ List.replicate (n - as.length) none) st <;> rfl
end
/-! what the operations give, by their kinds -/
section
variable {st : Store}
@[simp] theorem seqOf_tup (ds : List D) : seqOf st (.tup ds) = some ds := rfl
@[simp] theorem seqOf_lst (ds : List D) : seqOf st (.lst ds) = some ds := rfl
@[simp] theorem seqOf_rol (ds : List D) : seqOf st (.rol ds) = some ds := rfl
@[simp] theorem deref_tup' (ds : List D) : deref st (.tup ds) = .tup ds := rfl
@[simp] theorem deref_lst' (ds : List D) : deref st (.lst ds) = .lst ds := rfl
@[simp] theorem deref_str (x : Str) : deref st (.str x) = .str x := rfl
@[simp] theorem deref_int (x : Int) : deref st (.int x) = .int x := rfl
@[simp] theorem deref_bl (x : Bool) : deref st (.bl x) = .bl x := rfl
@[simp] theorem deref_non : deref st .non = .non := rfl
@[simp] theorem isi_int_int (i : Int) : evIsi (.int i) .int = some true := rfl
@[simp] theorem isi_int_bool (i : Int) : evIsi (.int i) .bool = some false := rfl
@[simp] theorem isi_int_str (i : Int) : evIsi (.int i) .str = some false := rfl
@[simp] theorem isi_int_tuple (i : Int) : evIsi (.int i) .tuple = some false := rfl
@[simp] theorem isi_bl_int (b : Bool) : evIsi (.bl b) .int = some true := rfl
@[simp] theorem isi_bl_bool (b : Bool) : evIsi (.bl b) .bool = some true := rfl
@[simp] theorem isi_bl_str (b : Bool) : evIsi (.bl b) .str = some false := rfl
@[simp] theorem isi_bl_tuple (b : Bool) : evIsi (.bl b) .tuple = some false := rfl
@[simp] theorem isi_str_int (x : Str) : evIsi (.str x) .int = some false := rfl
@[simp] theorem isi_str_bool (x : Str) : evIsi (.str x) .bool = some false := rfl
@[simp] theorem isi_str_str (x : Str) : evIsi (.str x) .str = some true := rfl
@[simp] theorem isi_str_tuple (x : Str) : evIsi (.str x) .tuple = some false := rfl
@[simp] theorem isi_tup_int (ds : List D) : evIsi (.tup ds) .int = some false := rfl
@[simp] theorem isi_tup_bool (ds : List D) : evIsi (.tup ds) .bool = some false := rfl
@[simp] theorem isi_tup_str (ds : List D) : evIsi (.tup ds) .str = some false := rfl
@[simp] theorem isi_tup_tuple (ds : List D) : evIsi (.tup ds) .tuple = some true := rfl
@[simp] theorem isi_lst_int (ds : List D) : evIsi (.lst ds) .int = some false := rfl
@[simp] theorem isi_lst_bool (ds : List D) : evIsi (.lst ds) .bool = some false := rfl
@[simp] theorem isi_lst_str (ds : List D) : evIsi (.lst ds) .str = some false := rfl
@[simp] theorem isi_lst_tuple (ds : List D) : evIsi (.lst ds) .tuple = some false := rfl
@[simp] theorem isi_non_int  : evIsi .non .int = some false := rfl
@[simp] theorem isi_non_bool  : evIsi .non .bool = some false := rfl
@[simp] theorem isi_non_str  : evIsi .non .str = some false := rfl
@[simp] theorem isi_non_tuple  : evIsi .non .tuple = some false := rfl
@[simp] theorem ixOf_if (n : Nat) (i : Int) : ixOf n i = if 0 ≤ i then (if i < n then some i.toNat else none) else if -(n : Int) ≤ i then some (i + n).toNat else none := rfl
@[simp] theorem evIdx_tup (ds : List D) (k : Int) : evIdx st (.tup ds) (.int k) = (ixOf ds.length k).bind fun j => ds[j]? := rfl
@[simp] theorem evIdx_lst (ds : List D) (k : Int) : evIdx st (.lst ds) (.int k) = (ixOf ds.length k).bind fun j => ds[j]? := rfl
@[simp] theorem evIdx_rol (ds : List D) (k : Int) : evIdx st (.rol ds) (.int k) = (ixOf ds.length k).bind fun j => ds[j]? := rfl
@[simp] theorem cmp_lt_i (i j : Int) : evCmp st .lt (.int i) (.int j) = some (decide (i < j)) := rfl
@[simp] theorem cmp_le_i (i j : Int) : evCmp st .le (.int i) (.int j) = some (decide (i ≤ j)) := rfl
@[simp] theorem cmp_gt_i (i j : Int) : evCmp st .gt (.int i) (.int j) = some (decide (j < i)) := rfl
@[simp] theorem cmp_ge_i (i j : Int) : evCmp st .ge (.int i) (.int j) = some (decide (j ≤ i)) := rfl
theorem okD_int (i : Int) : okD (.int i) = true := by simp [okD, D.good, D.dep]
theorem okD_bl (b : Bool) : okD (.bl b) = true := by simp [okD, D.good, D.dep]
theorem okD_non : okD .non = true := by simp [okD, D.good, D.dep]
@[simp] theorem cmp_eq_i (i j : Int) : evCmp st .eq (.int i) (.int j) = some (decide (i = j)) := by
  simp only [evCmp, deref_int, okD_int]
  simp only [eqv, D.py, PyData.eqv, Bool.and_self, if_true]
  rfl
@[simp] theorem cmp_ne_i (i j : Int) : evCmp st .ne (.int i) (.int j) = some (!decide (i = j)) := by
  simp only [evCmp, deref_int, okD_int]
  simp only [eqv, D.py, PyData.eqv, Bool.and_self, if_true]
  rfl
@[simp] theorem bin_add_i (i j : Int) : evBin .add (.int i) (.int j) = some (.int (i + j)) := rfl
@[simp] theorem bin_sub_i (i j : Int) : evBin .sub (.int i) (.int j) = some (.int (i - j)) := rfl
@[simp] theorem blt_len_tup (ds : List D) : evBlt st .len [.tup ds] = some (.int ds.length) := rfl
@[simp] theorem blt_len_lst (ds : List D) : evBlt st .len [.lst ds] = some (.int ds.length) := rfl
@[simp] theorem blt_len_rol (ds : List D) : evBlt st .len [.rol ds] = some (.int ds.length) := rfl
@[simp] theorem blt_int_i (i : Int) : evBlt st .int [.int i] = some (.int i) := rfl
@[simp] theorem blt_abs_i (i : Int) : evBlt st .abs [.int i] = some (.int (if i < 0 then -i else i)) := rfl
@[simp] theorem blt_tuple_lst (ds : List D) : evBlt st .tuple [.lst ds] = some (.tup ds) := rfl
@[simp] theorem blt_tuple_tup (ds : List D) : evBlt st .tuple [.tup ds] = some (.tup ds) := rfl
@[simp] theorem blt_list_tup (ds : List D) : evBlt st .list [.tup ds] = some (.lst ds) := rfl
@[simp] theorem blt_list_lst (ds : List D) : evBlt st .list [.lst ds] = some (.lst ds) := rfl
@[simp] theorem blt_min2_i (i j : Int) : evBlt st .min2 [.int i, .int j] = some (.int (if j < i then j else i)) := rfl
@[simp] theorem blt_max2_i (i j : Int) : evBlt st .max2 [.int i, .int j] = some (.int (if j > i then j else i)) := rfl
@[simp] theorem evTg_name (i : Nat) (d : D) (σ : Sl) : evTg (.name i) d σ = if i < σ.length then some (σ.set i (some d)) else none := by rw [evTg]
@[simp] theorem evTg_tup (ts : Tgs) (ds : List D) (σ : Sl) : evTg (.tup ts) (.tup ds) σ = evTgs ts ds σ := by rw [evTg]
@[simp] theorem evTgs_nil (σ : Sl) : evTgs .nil [] σ = some σ := by rw [evTgs]
@[simp] theorem evTgs_cons (t : Tg) (ts : Tgs) (d : D) (ds : List D) (σ : Sl) : evTgs (.cons t ts) (d :: ds) σ = (evTg t d σ).bind (evTgs ts ds) := by rw [evTgs]
@[simp] theorem wipeE_nil (σ : Sl) : wipeE σ [] = σ := rfl
@[simp] theorem wipeE_cons (σ : Sl) (v : Nat) (vs : List Nat) : wipeE σ (v :: vs) = (wipeE σ vs).set v none := rfl
end
end EV
/-! EvP: plain lemmas for the laws. -/
namespace EV
open PySem

/-! ### comprehensions and loops of pure turns -/
theorem lc_map {f : D → Store → R (Option D)} {F : D → D} {st : Store} : ∀ (ds acc : List D), (∀ d ∈ ds, f d st = .ok (some (F d)) st) → lcLoop f ds acc st = .ok (acc.reverse ++ ds.map F) st
  | [], acc, _ => by rw [lcLoop]; simp
  | d :: ds, acc, h => by
    rw [lcLoop, h d List.mem_cons_self]
    simp only [R.noX, R.bind_ok]
    rw [lc_map ds (F d :: acc) fun e he => h e (List.mem_cons_of_mem _ he)]
    simp
theorem lc_filter {f : D → Store → R (Option D)} {p : D → Bool} {st : Store} : ∀ (ds acc : List D), (∀ d ∈ ds, f d st = .ok (if p d then some d else none) st) → lcLoop f ds acc st = .ok (acc.reverse ++ ds.filter p) st
  | [], acc, _ => by rw [lcLoop]; simp
  | d :: ds, acc, h => by
    rw [lcLoop, h d List.mem_cons_self]
    simp only [R.noX, R.bind_ok]
    by_cases hp : p d = true
    · simp only [hp, if_true]
      rw [lc_filter ds (d :: acc) fun e he => h e (List.mem_cons_of_mem _ he)]
      simp [hp]
    · simp only [hp]
      rw [if_neg (by simp)]
      simp only []
      rw [lc_filter ds acc fun e he => h e (List.mem_cons_of_mem _ he)]
      simp [hp]
/-- a comprehension whose turns change the store -/
theorem lc_inv {f : D → Store → R (Option D)} (I : Store → Prop) (Pd : D → Prop) {st : Store} : ∀ (ds acc : List D), I st → (∀ d ∈ ds, ∀ s, I s → ∃ x s', f d s = .ok (some x) s' ∧ I s' ∧ Pd x) →
    ∃ xs st', lcLoop f ds acc st = .ok (acc.reverse ++ xs) st' ∧ I st' ∧ xs.length = ds.length ∧ ∀ x ∈ xs, Pd x := by
  intro ds
  induction ds generalizing st with
  | nil => intro acc hI _; exact ⟨[], st, by rw [lcLoop]; simp, hI, rfl, fun _ h => by cases h⟩
  | cons d ds ih =>
    intro acc hI h
    obtain ⟨x, s', h1, h2, h3⟩ := h d List.mem_cons_self st hI
    obtain ⟨xs, st', q1, q2, q3, q4⟩ := ih (st := s') (x :: acc) h2 fun e he => h e (List.mem_cons_of_mem _ he)
    refine ⟨x :: xs, st', ?_, q2, by simp [q3], fun y hy => ?_⟩
    · rw [lcLoop, h1]
      simp only [R.noX, R.bind_ok]
      rw [q1]
      simp
    · rcases List.mem_cons.mp hy with e | e
      · subst e; exact h3
      · exact q4 y e
theorem bools_map {α : Type} (p : α → Bool) : ∀ l : List α, boolsOf (l.map fun d => D.bl (p d)) = some (l.map p)
  | [] => rfl
  | x :: xs => by rw [List.map_cons, boolsOf, bools_map p xs]; rfl
/-- a loop that ends early, or goes through -/
theorem for_inv {f : D → Sl → Store → RS} (I : List D → Sl → Store → Prop) : ∀ (ds : List D) (σ : Sl) (st : Store), I ds σ st → (∀ d r σ st, I (d :: r) σ st → (∃ σ' st', f d σ st = .nx σ' st' ∧ I r σ' st') ) → ∃ σ' st', forLoop f ds σ st = .nx σ' st' ∧ I [] σ' st'
  | [], σ, st, h, _ => ⟨σ, st, by rw [forLoop], h⟩
  | d :: ds, σ, st, h, k => by
    obtain ⟨σ1, st1, h1, h2⟩ := k d ds σ st h
    obtain ⟨σ2, st2, q1, q2⟩ := for_inv I ds σ1 st1 h2 k
    exact ⟨σ2, st2, by rw [forLoop, h1]; exact q1, q2⟩

/-! ### plain data -/
mutual
def D.pl : D → Bool
  | .non | .bl _ | .int _ => true
  | .str x => okStr x
  | .tup ds => D.pls ds
  | .lst ds => D.pls ds
  | _ => false
def D.pls : List D → Bool
  | [] => true
  | d :: ds => d.pl && D.pls ds
end
mutual
theorem D.pl_good : ∀ d : D, d.pl = true → d.good = true
  | .non, _ => rfl
  | .bl _, _ => rfl
  | .int _, _ => rfl
  | .str x, h => h
  | .tup ds, h => by rw [D.pl] at h; rw [D.good]; exact D.pls_good ds h
  | .lst ds, h => by rw [D.pl] at h; rw [D.good]; exact D.pls_good ds h
  | .dct _ _, h => by simp [D.pl] at h
  | .rol _, h => by simp [D.pl] at h
  | .loc _, h => by simp [D.pl] at h
  | .fn _, h => by simp [D.pl] at h
theorem D.pls_good : ∀ ds : List D, D.pls ds = true → D.goods ds = true
  | [], _ => rfl
  | d :: ds, h => by
    rw [D.pls, Bool.and_eq_true] at h
    rw [D.goods, Bool.and_eq_true]
    exact ⟨D.pl_good d h.1, D.pls_good ds h.2⟩
end
theorem pls_mem {d : D} : ∀ {ds : List D}, D.pls ds = true → d ∈ ds → d.pl = true
  | e :: ds, h, hd => by
    rw [D.pls, Bool.and_eq_true] at h
    rcases List.mem_cons.mp hd with z | z
    · subst z; exact h.1
    · exact pls_mem h.2 z
theorem pls_of : ∀ {ds : List D}, (∀ d ∈ ds, d.pl = true) → D.pls ds = true
  | [], _ => rfl
  | d :: ds, h => by
    rw [D.pls, Bool.and_eq_true]
    exact ⟨h d List.mem_cons_self, pls_of fun e he => h e (List.mem_cons_of_mem _ he)⟩
theorem dep_mem {d : D} : ∀ {ds : List D}, d ∈ ds → d.dep ≤ D.deps ds
  | e :: ds, hd => by
    rw [D.deps]
    rcases List.mem_cons.mp hd with z | z
    · subst z; omega
    · have := dep_mem z; omega
theorem deps_of {n : Nat} : ∀ {ds : List D}, (∀ d ∈ ds, d.dep ≤ n) → D.deps ds ≤ n
  | [], _ => Nat.zero_le _
  | d :: ds, h => by
    rw [D.deps]
    have h1 := h d List.mem_cons_self
    have h2 := deps_of fun e he => h e (List.mem_cons_of_mem _ he)
    omega
theorem okD_of {d : D} (h : d.pl = true) (hd : d.dep ≤ 60) : okD d = true := by
  unfold okD
  rw [D.pl_good d h, Bool.true_and, decide_eq_true_eq]
  exact hd

/-! ### equality -/
theorem eqv_str (x y : Str) : eqv (.str x) (.str y) = decide (x = y) := by
  simp only [eqv, D.py, PyData.eqv]
  rw [Bool.eq_iff_iff, beq_iff_eq, decide_eq_true_eq]
theorem eqv_int (x y : Int) : eqv (.int x) (.int y) = decide (x = y) := by
  simp only [eqv, D.py, PyData.eqv]
  rw [Bool.eq_iff_iff, beq_iff_eq, decide_eq_true_eq]
theorem eqv_bl (x y : Bool) : eqv (.bl x) (.bl y) = (x == y) := by
  simp only [eqv, D.py, PyData.eqv]
mutual
theorem eqv_refl : ∀ d : PyData, PyData.canLay0 d = true → PyData.eqv d d = true
  | .none, _ => rfl
  | .bool b, _ => by simp [PyData.eqv]
  | .int b, _ => by simp [PyData.eqv]
  | .str b, _ => by simp [PyData.eqv]
  | .list xs, h => by rw [PyData.eqv]; rw [PyData.canLay0] at h; exact eqvAll_refl xs h
  | .tuple xs, h => by rw [PyData.eqv]; rw [PyData.canLay0] at h; exact eqvAll_refl xs h
  | .dict _, h => by simp [PyData.canLay0] at h
theorem eqvAll_refl : ∀ ds : List PyData, PyData.canLayAll0 ds = true → PyData.eqvAll ds ds = true
  | [], _ => rfl
  | d :: ds, h => by
    rw [PyData.canLayAll0, Bool.and_eq_true] at h
    rw [PyData.eqvAll, eqv_refl d h.1, eqvAll_refl ds h.2]
    rfl
end
end EV
/-! EvR: plain lemmas about tuples and lists of ints. -/
namespace EV
open PySem

/-- a tuple of ints, a list of ints -/
abbrev it (l : List Int) : D := .tup (l.map .int)
abbrev il (l : List Int) : D := .lst (l.map .int)
@[simp] theorem intsOf_map : ∀ l : List Int, intsOf (l.map D.int) = some l
  | [] => rfl
  | x :: xs => by rw [List.map_cons, intsOf, intsOf_map xs]; rfl
section
variable {st : Store} {f : D → Store → R (Option D)}
theorem lc_ints_map {F : Int → Int} (l : List Int) (h : ∀ x ∈ l, f (.int x) st = .ok (some (.int (F x))) st) : lcLoop f (l.map D.int) [] st = .ok ((l.map F).map D.int) st := by
  rw [lc_map (F := fun d => match d with | .int x => .int (F x) | d => d)]
  · simp [List.map_map, Function.comp_def]
  · intro d hd
    obtain ⟨x, hx, rfl⟩ := List.mem_map.mp hd
    exact h x hx
theorem lc_ints_mapD {F : Int → D} (l : List Int) (h : ∀ x ∈ l, f (.int x) st = .ok (some (F x)) st) : lcLoop f (l.map D.int) [] st = .ok (l.map F) st := by
  rw [lc_map (F := fun d => match d with | .int x => F x | d => d)]
  · simp [List.map_map, Function.comp_def]
  · intro d hd
    obtain ⟨x, hx, rfl⟩ := List.mem_map.mp hd
    exact h x hx
theorem lc_ints_filter {p : Int → Bool} (l : List Int) (h : ∀ x ∈ l, f (.int x) st = .ok (if p x then some (.int x) else none) st) : lcLoop f (l.map D.int) [] st = .ok ((l.filter p).map D.int) st := by
  rw [lc_filter (p := fun d => match d with | .int x => p x | _ => false)]
  · rw [List.filter_map]; simp [Function.comp_def]
  · intro d hd
    obtain ⟨x, hx, rfl⟩ := List.mem_map.mp hd
    exact h x hx
/-- a general comprehension, turn by turn -/
theorem lc_mapL {α : Type} {items : α → D} {F : α → D} : ∀ (l : List α) (acc : List D), (∀ a ∈ l, f (items a) st = .ok (some (F a)) st) → lcLoop f (l.map items) acc st = .ok (acc.reverse ++ l.map F) st
  | [], acc, _ => by rw [List.map_nil, lcLoop]; simp
  | a :: l, acc, h => by
    rw [List.map_cons, lcLoop, h a List.mem_cons_self]
    simp only [R.noX, R.bind_ok]
    rw [lc_mapL l (F a :: acc) fun b hb => h b (List.mem_cons_of_mem _ hb)]
    simp
theorem enm_ints (l : List Int) : (l.map D.int).mapIdx (fun i d => D.tup [.int i, d]) = (l.mapIdx fun i x => (i, x)).map fun p => D.tup [.int p.1, .int p.2] := by
  apply List.ext_getElem?
  intro i
  simp
  cases l[i]? <;> simp
theorem lc_enm {F : Nat → Int → Int} (l : List Int) (h : ∀ (i : Nat) x, l[i]? = some x → f (.tup [.int i, .int x]) st = .ok (some (.int (F i x))) st) : lcLoop f ((l.map D.int).mapIdx fun i d => .tup [.int i, d]) [] st = .ok ((l.mapIdx F).map D.int) st := by
  rw [enm_ints, lc_mapL (F := fun p => .int (F p.1 p.2))]
  · rw [List.reverse_nil, List.nil_append]
    congr 1
    apply List.ext_getElem?
    intro i
    simp
    cases l[i]? <;> simp
  · intro p hp
    obtain ⟨i, hi⟩ := List.getElem?_of_mem hp
    rw [List.getElem?_mapIdx] at hi
    obtain ⟨x, hx, rfl⟩ := Option.map_eq_some_iff.mp hi
    exact h i x hx
end
/-! ### equality, in -/
theorem pl_it (l : List Int) : (it l).pl = true := by
  rw [D.pl]; exact pls_of fun d hd => by obtain ⟨x, _, rfl⟩ := List.mem_map.mp hd; rfl
theorem dep_it (l : List Int) : (it l).dep = 1 := by
  rw [D.dep]
  have := deps_of (n := 0) (ds := l.map D.int) fun d hd => by obtain ⟨x, _, rfl⟩ := List.mem_map.mp hd; exact Nat.le_refl _
  omega
theorem pls_ints (l : List Int) : D.pls (l.map .int) = true := by have := pl_it l; rwa [D.pl] at this
theorem okD_it (l : List Int) : okD (it l) = true := okD_of (pl_it l) (by rw [dep_it]; omega)
theorem okD_il (l : List Int) : okD (il l) = true := okD_of (show D.pl (.lst (l.map .int)) = true by rw [D.pl]; exact pls_ints l) (show D.dep (.lst (l.map .int)) ≤ 60 by
  rw [D.dep]
  have := deps_of (n := 0) (ds := l.map D.int) fun d hd => by obtain ⟨x, _, rfl⟩ := List.mem_map.mp hd; exact Nat.le_refl _
  omega)
theorem eqvAll_ints : ∀ a b : List Int, PyData.eqvAll (D.pys (a.map .int)) (D.pys (b.map .int)) = decide (a = b)
  | [], [] => rfl
  | [], _ :: _ => rfl
  | _ :: _, [] => rfl
  | x :: a, y :: b => by
    rw [List.map_cons, List.map_cons, D.pys, D.pys, PyData.eqvAll, eqvAll_ints a b]
    have := eqv_int x y
    unfold eqv at this
    rw [this, Bool.eq_iff_iff]
    simp
theorem eqv_it (a b : List Int) : eqv (it a) (it b) = decide (a = b) := by
  simp only [eqv, D.py, PyData.eqv]
  exact eqvAll_ints a b
theorem eqv_il (a b : List Int) : eqv (il a) (il b) = decide (a = b) := by
  simp only [eqv, D.py, PyData.eqv]
  exact eqvAll_ints a b
section
variable {st : Store}
theorem cmp_eq_it (a b : List Int) : evCmp st .eq (it a) (it b) = some (decide (a = b)) := by
  simp only [evCmp, deref_tup', okD_it, Bool.and_self, if_true, eqv_it]
theorem cmp_ne_it (a b : List Int) : evCmp st .ne (it a) (it b) = some (!decide (a = b)) := by
  simp only [evCmp, deref_tup', okD_it, Bool.and_self, if_true, eqv_it]
theorem any_ints (x : Int) : ∀ l : List Int, ((l.map D.int).any fun z => eqv z (.int x)) = decide (x ∈ l)
  | [] => by simp
  | y :: l => by
    rw [List.map_cons, List.any_cons, any_ints x l, eqv_int, Bool.eq_iff_iff, Bool.or_eq_true, decide_eq_true_eq, decide_eq_true_eq, decide_eq_true_eq, List.mem_cons]
    constructor
    · rintro (h | h)
      · exact .inl h.symm
      · exact .inr h
    · rintro (h | h)
      · exact .inl h.symm
      · exact .inr h
theorem in_it (x : Int) (l : List Int) : evIn st (.int x) (it l) = some (decide (x ∈ l)) := by
  have h := okD_il l
  simp only [evIn, seqOf_tup, okD_int, h, Bool.and_self, if_true]
  rw [any_ints]
theorem in_il (x : Int) (l : List Int) : evIn st (.int x) (il l) = some (decide (x ∈ l)) := by
  have h := okD_il l
  simp only [evIn, seqOf_lst, okD_int, h, Bool.and_self, if_true]
  rw [any_ints]
theorem cmp_in_it (x : Int) (l : List Int) : evCmp st .isIn (.int x) (it l) = some (decide (x ∈ l)) := in_it (st := st) x l
theorem cmp_in_il (x : Int) (l : List Int) : evCmp st .isIn (.int x) (il l) = some (decide (x ∈ l)) := in_il (st := st) x l
theorem get_it {l : List Int} {k : Int} (h0 : 0 ≤ k) (h1 : k < l.length) : l[k.toNat]? = some (l.getD k.toNat 0) := by
  have : k.toNat < l.length := by omega
  simp [this]
end
/-! ### what a def leaves over -/
theorem junk_top {sub : Nat → Nat → Bool} {fu n k : Nat} {b : Ss} {r : List (Nat × Ss)} {as : List D} {st st' junk : Store} {d : D} (hk : k = r.length) (h : evDef (cfL sub fu r) sub fu n b as st = .ok d (st' ++ junk)) (hl : st'.length = st.length) (hd : d.und st.length = true) (hs : stUnd st' = true) : cfL sub fu ((n, b) :: r) k as st = .ok d st' := by
  subst hk
  rw [cfL_top, h]
  exact trim_junk hl hd hs
theorem exc_top {sub : Nat → Nat → Bool} {fu n k c : Nat} {fs : List D} {b : Ss} {r : List (Nat × Ss)} {as : List D} {st : Store} (hk : k = r.length) (h : evDef (cfL sub fu r) sub fu n b as st = .exc c fs st) : cfL sub fu ((n, b) :: r) k as st = .exc c fs st := by
  subst hk
  rw [cfL_top, h]
  exact trim_exc rfl
theorem set_last {α : Type} (l : List α) (x y : α) : (l ++ [x]).set l.length y = l ++ [y] := by
  rw [List.set_append_right _ _ (Nat.le_refl _), Nat.sub_self]; rfl
theorem get_last {α : Type} (l : List α) (x : α) : (l ++ [x])[l.length]? = some x := by simp
theorem cmp_ne_nil_t {st : Store} {xs : List D} (h : okD (.tup xs) = true) : evCmp st .ne (.tup xs) (.tup []) = some (!xs.isEmpty) := by
  have h2 : okD (.tup []) = true := by decide +kernel
  simp only [evCmp, deref_tup', h, h2, Bool.and_self, if_true]
  congr 1
  cases xs <;> simp [eqv, D.py, D.pys, PyData.eqv, PyData.eqvAll]
theorem cmp_eq_nil_t {st : Store} {xs : List D} (h : okD (.tup xs) = true) : evCmp st .eq (.tup xs) (.tup []) = some xs.isEmpty := by
  have h2 : okD (.tup []) = true := by decide +kernel
  simp only [evCmp, deref_tup', h, h2, Bool.and_self, if_true]
  congr 1
  cases xs <;> simp [eqv, D.py, D.pys, PyData.eqv, PyData.eqvAll]
theorem cmp_ne_nil_l {st : Store} {xs : List D} (h : okD (.lst xs) = true) : evCmp st .ne (.lst xs) (.lst []) = some (!xs.isEmpty) := by
  have h2 : okD (.lst []) = true := by decide +kernel
  have e1 : deref st (.lst xs) = .lst xs := rfl
  have e2 : deref st (.lst []) = .lst [] := rfl
  simp only [evCmp, e1, e2, h, h2, Bool.and_self, if_true]
  congr 1
  cases xs <;> simp [eqv, D.py, D.pys, PyData.eqv, PyData.eqvAll]
theorem cmp_eq_nil_l {st : Store} {xs : List D} (h : okD (.lst xs) = true) : evCmp st .eq (.lst xs) (.lst []) = some xs.isEmpty := by
  have h2 : okD (.lst []) = true := by decide +kernel
  have e1 : deref st (.lst xs) = .lst xs := rfl
  have e2 : deref st (.lst []) = .lst [] := rfl
  simp only [evCmp, e1, e2, h, h2, Bool.and_self, if_true]
  congr 1
  cases xs <;> simp [eqv, D.py, D.pys, PyData.eqv, PyData.eqvAll]
/-- the same plain data -/
theorem eqv_self {d : D} (h : d.pl = true) : eqv d d = true := eqv_refl _ (good_lay d (D.pl_good d h))
theorem pls_append : ∀ {a b : List D}, D.pls (a ++ b) = (D.pls a && D.pls b)
  | [], b => rfl
  | x :: a, b => by rw [List.cons_append, D.pls, pls_append, D.pls, Bool.and_assoc]
theorem deps_append : ∀ {a b : List D}, D.deps (a ++ b) = max (D.deps a) (D.deps b)
  | [], b => by simp [D.deps]
  | x :: a, b => by rw [List.cons_append, D.deps, deps_append, D.deps]; omega
mutual
theorem D.und_mono {n m : Nat} (hn : n ≤ m) : ∀ d : D, d.und n = true → d.und m = true
  | .non, _ => rfl
  | .bl _, _ => rfl
  | .int _, _ => rfl
  | .str _, _ => rfl
  | .fn _, _ => rfl
  | .tup ds, h => by rw [D.und] at h ⊢; exact D.unds_mono hn ds h
  | .lst ds, h => by rw [D.und] at h ⊢; exact D.unds_mono hn ds h
  | .rol ds, h => by rw [D.und] at h ⊢; exact D.unds_mono hn ds h
  | .dct _ _, h => by rw [D.und] at h; cases h
  | .loc l, h => by rw [D.und, decide_eq_true_eq] at h ⊢; omega
theorem D.unds_mono {n m : Nat} (hn : n ≤ m) : ∀ ds : List D, D.unds n ds = true → D.unds m ds = true
  | [], _ => rfl
  | d :: ds, h => by
    rw [D.unds, Bool.and_eq_true] at h ⊢
    exact ⟨D.und_mono hn d h.1, D.unds_mono hn ds h.2⟩
end
theorem O.und_mono {n m : Nat} (hn : n ≤ m) {o : O} (h : o.und n = true) : o.und m = true := by
  cases o with
  | lst ds => rw [O.und] at h ⊢; exact D.unds_mono hn ds h
  | dct _ _ => rw [O.und] at h; cases h
  | gone => rfl
theorem stUnd_push {st : Store} {o : O} (h : stUnd st = true) (ho : o.und (st.length + 1) = true) : stUnd (st ++ [o]) = true := by
  unfold stUnd at h ⊢
  rw [List.all_eq_true] at h ⊢
  intro x hx
  rw [List.length_append, List.length_singleton]
  rcases List.mem_append.mp hx with z | z
  · exact O.und_mono (Nat.le_succ _) (h x z)
  · rw [List.mem_singleton.mp z]; exact ho
mutual
theorem und_pl {n : Nat} : ∀ d : D, d.pl = true → d.und n = true
  | .non, _ => rfl
  | .bl _, _ => rfl
  | .int _, _ => rfl
  | .str _, _ => rfl
  | .fn _, h => by simp [D.pl] at h
  | .tup ds, h => by rw [D.pl] at h; rw [D.und]; exact unds_pls ds h
  | .lst ds, h => by rw [D.pl] at h; rw [D.und]; exact unds_pls ds h
  | .rol ds, h => by simp [D.pl] at h
  | .dct _ _, h => by simp [D.pl] at h
  | .loc l, h => by simp [D.pl] at h
theorem unds_pls {n : Nat} : ∀ ds : List D, D.pls ds = true → D.unds n ds = true
  | [], _ => rfl
  | d :: ds, h => by
    rw [D.pls, Bool.and_eq_true] at h
    rw [D.unds, und_pl d h.1, unds_pls ds h.2]; rfl
end
section
variable {st : Store}
theorem eqv_same {d : D} (h : okD d = true) : eqv d d = true := eqv_refl _ (good_lay d (okD_shaped h).1)
theorem cmp_eq_same_t {xs : List D} (h : okD (.tup xs) = true) : evCmp st .eq (.tup xs) (.tup xs) = some true := by
  have e1 : deref st (.tup xs) = .tup xs := rfl
  simp only [evCmp, e1, h, Bool.and_self, if_true, eqv_same h]
theorem cmp_ne_same_t {xs : List D} (h : okD (.tup xs) = true) : evCmp st .ne (.tup xs) (.tup xs) = some false := by
  have e1 : deref st (.tup xs) = .tup xs := rfl
  simp only [evCmp, e1, h, Bool.and_self, if_true, eqv_same h]; rfl
theorem cmp_eq_same_l {xs : List D} (h : okD (.lst xs) = true) : evCmp st .eq (.lst xs) (.lst xs) = some true := by
  have e1 : deref st (.lst xs) = .lst xs := rfl
  simp only [evCmp, e1, h, Bool.and_self, if_true, eqv_same h]
theorem cmp_ne_same_l {xs : List D} (h : okD (.lst xs) = true) : evCmp st .ne (.lst xs) (.lst xs) = some false := by
  have e1 : deref st (.lst xs) = .lst xs := rfl
  simp only [evCmp, e1, h, Bool.and_self, if_true, eqv_same h]; rfl
end
/-! ### loops, turn by turn -/
def RS.loop (r : RS) (k : Sl → Store → RS) : RS := match r with
  | .nx σ st => k σ st
  | .ct σ st => k σ st
  | .bk σ st => .nx σ st
  | r => r
@[simp] theorem RS.loop_nx (σ : Sl) (st : Store) (k : Sl → Store → RS) : (RS.nx σ st).loop k = k σ st := rfl
@[simp] theorem RS.loop_ct (σ : Sl) (st : Store) (k : Sl → Store → RS) : (RS.ct σ st).loop k = k σ st := rfl
@[simp] theorem RS.loop_bk (σ : Sl) (st : Store) (k : Sl → Store → RS) : (RS.bk σ st).loop k = .nx σ st := rfl
@[simp] theorem RS.loop_rt (d : D) (st : Store) (k : Sl → Store → RS) : (RS.rt d st).loop k = .rt d st := rfl
@[simp] theorem RS.loop_exc (c : Nat) (fs : List D) (σ : Sl) (st : Store) (k : Sl → Store → RS) : (RS.exc c fs σ st).loop k = .exc c fs σ st := rfl
@[simp] theorem forLoop_nil (f : D → Sl → Store → RS) (σ : Sl) (st : Store) : forLoop f [] σ st = .nx σ st := by rw [forLoop]
@[simp] theorem forLoop_cons (f : D → Sl → Store → RS) (d : D) (ds : List D) (σ : Sl) (st : Store) : forLoop f (d :: ds) σ st = (f d σ st).loop (forLoop f ds) := by
  rw [forLoop]
  cases f d σ st <;> rfl
theorem ite_top {q : Prop} [Decidable q] {sub : Nat → Nat → Bool} {fu n k c : Nat} {fs : List D} {b : Ss} {r : List (Nat × Ss)} {as : List D} {st : Store} {d : D} (hk : k = r.length) (h : evDef (cfL sub fu r) sub fu n b as st = if q then .ok d st else .exc c fs st) : cfL sub fu ((n, b) :: r) k as st = if q then .ok d st else .exc c fs st := by
  by_cases z : q
  · rw [if_pos z] at h ⊢; exact pure_top hk h
  · rw [if_neg z] at h ⊢; exact exc_top hk h
end EV
namespace LawT
open PySem PySem.Spec PyProof.Rows L2 EV
def topS (i : Nat) : Stmt := PySem.Challenge.pw_falsewish_k03_whole_balances_of_rows.main.body.getD i (.Pass ⟨0, 0, 0, 0⟩)
abbrev n_is_from : List Str := [("value" : Str), ("low" : Str), ("high" : Str)]
abbrev p_is_from : List Str := [("value" : Str), ("low" : Str), ("high" : Str)]
def b_is_from : Ss := (.cons (.ret (.bop true (.cons (.isi (.var 0) .int) (.cons (.not (.isi (.var 0) .bool)) (.cons (.chn .le .le (.var 1) (.var 0) (.var 2)) .nil))))) .nil)
abbrev n_is_tuple : List Str := [("value" : Str), ("low" : Str), ("high" : Str)]
abbrev p_is_tuple : List Str := [("value" : Str), ("low" : Str), ("high" : Str)]
def b_is_tuple : Ss := (.cons (.ret (.bop true (.cons (.isi (.var 0) .tuple) (.cons (.chn .le .le (.var 1) (.blt .len (.cons (.var 0) .nil)) (.var 2)) .nil)))) .nil)
abbrev n_is_rule : List Str := [("value" : Str), ("low" : Str), ("high" : Str)]
abbrev p_is_rule : List Str := [("value" : Str)]
def b_is_rule : Ss := (.cons (.ite (.bop false (.cons (.not (.call 1 (.cons (.var 0) (.cons (.con (.int 3)) (.cons (.con (.int 3)) .nil))))) (.cons (.not (.isi (.idx (.var 0) (.con (.int 0))) .str)) (.cons (.cmp .notIn (.idx (.var 0) (.con (.int 0))) (.con (.tup [.str "first", .str "points", .str "turns"]))) .nil)))) (.cons (.ret (.con (.bl false))) .nil) .nil) (.cons (.asg (.tup (.cons (.name 1) (.cons (.name 2) .nil))) (.ife (.cmp .eq (.idx (.var 0) (.con (.int 0))) (.con (.str "points"))) (.tup (.cons (.con (.int 1)) (.cons (.con (.int 3)) .nil))) (.tup (.cons (.con (.int 0)) (.cons (.con (.int 0)) .nil))))) (.cons (.ret (.bop true (.cons (.call 0 (.cons (.idx (.var 0) (.con (.int 1))) (.cons (.var 1) (.cons (.var 2) .nil)))) (.cons (.call 0 (.cons (.idx (.var 0) (.con (.int 2))) (.cons (.con (.int 0)) (.cons (.con (.int 3)) .nil)))) .nil)))) .nil)))
abbrev n_has_house : List Str := [("value" : Str), ("share" : Str)]
abbrev p_has_house : List Str := [("value" : Str)]
def b_has_house : Ss := (.cons (.ite (.bop false (.cons (.not (.call 1 (.cons (.var 0) (.cons (.con (.int 2)) (.cons (.con (.int 2)) .nil))))) (.cons (.not (.call 1 (.cons (.idx (.var 0) (.con (.int 0))) (.cons (.con (.int 2)) (.cons (.con (.int 3)) .nil))))) .nil))) (.cons (.ret (.con (.bl false))) .nil) .nil) (.cons (.ret (.bop true (.cons (.blt .all (.cons (.lc false (.call 0 (.cons (.var 1) (.cons (.con (.int 1)) (.cons (.con (.int 3)) .nil)))) (.name 1) (.val (.idx (.var 0) (.con (.int 0)))) .none [1]) .nil)) (.cons (.call 2 (.cons (.idx (.var 0) (.con (.int 1))) .nil)) .nil)))) .nil))
abbrev n_need_house : List Str := [("value" : Str)]
abbrev p_need_house : List Str := [("value" : Str)]
def b_need_house : Ss := (.cons (.ite (.not (.call 3 (.cons (.var 0) .nil))) (.cons (.rse 0) .nil) .nil) .nil)
abbrev n_rises : List Str := [("some" : Str), ("one" : Str), ("other" : Str)]
abbrev p_rises : List Str := [("some" : Str)]
def b_rises : Ss := (.cons (.ret (.blt .all (.cons (.lc false (.cmp .lt (.var 1) (.var 2)) (.tup (.cons (.name 1) (.cons (.name 2) .nil))) (.zip (.var 0) (.sl (.var 0) (.some (.con (.int 1))) .none)) .none [1, 2]) .nil))) .nil)
abbrev n_is_wish : List Str := [("house" : Str), ("value" : Str), ("many" : Str), ("person" : Str)]
abbrev p_is_wish : List Str := [("house" : Str), ("value" : Str)]
def b_is_wish : Ss := (.cons (.asg (.name 2) (.blt .len (.cons (.idx (.var 0) (.con (.int 0))) .nil))) (.cons (.ret (.bop true (.cons (.call 1 (.cons (.var 1) (.cons (.con (.int 0)) (.cons (.var 2) .nil)))) (.cons (.blt .all (.cons (.lc false (.call 0 (.cons (.var 3) (.cons (.con (.int 0)) (.cons (.bin .sub (.var 2) (.con (.int 1))) .nil)))) (.name 3) (.val (.var 1)) .none [3]) .nil)) (.cons (.call 5 (.cons (.var 1) .nil)) .nil))))) .nil))
abbrev n_has_row : List Str := [("house" : Str), ("value" : Str), ("wish" : Str)]
abbrev p_has_row : List Str := [("house" : Str), ("value" : Str)]
def b_has_row : Ss := (.cons (.ret (.bop true (.cons (.call 1 (.cons (.var 1) (.cons (.con (.int 0)) (.cons (.con (.int 100)) .nil)))) (.cons (.blt .all (.cons (.lc false (.call 6 (.cons (.var 0) (.cons (.var 2) .nil))) (.name 2) (.val (.var 1)) .none [2]) .nil)) .nil)))) .nil)
abbrev n_need_row : List Str := [("house" : Str), ("value" : Str)]
abbrev p_need_row : List Str := [("house" : Str), ("value" : Str)]
def b_need_row : Ss := (.cons (.ite (.not (.call 7 (.cons (.var 0) (.cons (.var 1) .nil)))) (.cons (.rse 1) .nil) .nil) .nil)
abbrev n_all_wishes : List Str := [("house" : Str), ("found" : Str), ("person" : Str), ("wish" : Str)]
abbrev p_all_wishes : List Str := [("house" : Str)]
def x_all_wishes_0 : X := (.bin .add (.var 3) (.tup (.cons (.var 2) .nil)))
def b_all_wishes_f0 : Ss := (.cons (.asg (.name 1) (.bin .add (.var 1) (.lc false x_all_wishes_0 (.name 3) (.val (.var 1)) .none [3]))) .nil)
def b_all_wishes : Ss := (.cons (.asg (.name 1) (.lst false (.cons (.tup .nil) .nil))) (.cons (.for (.name 2) (.rng (.blt .len (.cons (.idx (.var 0) (.con (.int 0))) .nil))) b_all_wishes_f0) (.cons (.ret (.blt .sortedT (.cons (.var 1) .nil))) .nil)))
abbrev n_first_standing : List Str := [("house" : Str), ("many" : Str), ("kind" : Str)]
abbrev p_first_standing : List Str := [("house" : Str)]
def b_first_standing : Ss := (.cons (.asg (.name 1) (.blt .len (.cons (.idx (.var 0) (.con (.int 0))) .nil))) (.cons (.asg (.name 2) (.idx (.idx (.var 0) (.con (.int 1))) (.con (.int 0)))) (.cons (.ite (.cmp .eq (.var 2) (.con (.str "turns"))) (.cons (.ret (.tup (.cons (.trg (.var 1)) (.cons (.tup .nil) .nil)))) .nil) .nil) (.cons (.ret (.tup (.cons (.ife (.cmp .eq (.var 2) (.con (.str "points"))) (.bin .mul (.tup (.cons (.con (.int 0)) .nil)) (.var 1)) (.tup .nil)) (.cons (.tup .nil) .nil)))) .nil))))
abbrev n_who_may : List Str := [("house" : Str), ("run" : Str), ("wish" : Str), ("most" : Str), ("person" : Str)]
abbrev p_who_may : List Str := [("house" : Str), ("run" : Str), ("wish" : Str)]
def b_who_may : Ss := (.cons (.asg (.name 3) (.idx (.idx (.var 0) (.con (.int 1))) (.con (.int 2)))) (.cons (.ite (.bop true (.cons (.cmp .gt (.var 3) (.con (.int 0))) (.cons (.cmp .ne (.var 1) (.tup .nil)) (.cons (.cmp .eq (.idx (.var 1) (.con (.int 1))) (.var 3)) (.cons (.cmp .ne (.var 2) (.tup (.cons (.idx (.var 1) (.con (.int 0))) .nil))) .nil))))) (.cons (.ret (.blt .tuple (.cons (.lc false (.var 4) (.name 4) (.val (.var 2)) (.some (.cmp .ne (.var 4) (.idx (.var 1) (.con (.int 0))))) [4]) .nil))) .nil) .nil) (.cons (.ret (.var 2)) .nil)))
abbrev n_with_dues : List Str := [("house" : Str), ("points" : Str), ("wish" : Str), ("person" : Str), ("old" : Str)]
abbrev p_with_dues : List Str := [("house" : Str), ("points" : Str), ("wish" : Str)]
def b_with_dues : Ss := (.cons (.ret (.blt .tuple (.cons (.lc false (.bin .add (.var 4) (.ife (.cmp .isIn (.var 3) (.var 2)) (.idx (.idx (.var 0) (.con (.int 0))) (.var 3)) (.con (.int 0)))) (.tup (.cons (.name 3) (.cons (.name 4) .nil))) (.enm (.var 1)) .none [3, 4]) .nil))) .nil)
abbrev n_sum_of : List Str := [("house" : Str), ("wish" : Str), ("person" : Str)]
abbrev p_sum_of : List Str := [("house" : Str), ("wish" : Str)]
def b_sum_of : Ss := (.cons (.ret (.blt .sum (.cons (.lc false (.idx (.idx (.var 0) (.con (.int 0))) (.var 2)) (.name 2) (.val (.var 1)) .none [2]) .nil))) .nil)
abbrev n_cut_off : List Str := [("number" : Str), ("mark" : Str)]
abbrev p_cut_off : List Str := [("number" : Str), ("mark" : Str)]
def b_cut_off : Ss := (.cons (.ret (.blt .max2 (.cons (.neg (.var 1)) (.cons (.blt .min2 (.cons (.var 1) (.cons (.var 0) .nil))) .nil)))) .nil)
abbrev n_picked : List Str := [("house" : Str), ("book" : Str), ("may" : Str), ("wish" : Str), ("kind" : Str), ("person" : Str), ("points" : Str), ("most" : Str)]
abbrev p_picked : List Str := [("house" : Str), ("book" : Str), ("may" : Str), ("wish" : Str)]
def b_picked : Ss := (.cons (.asg (.name 4) (.idx (.idx (.var 0) (.con (.int 1))) (.con (.int 0)))) (.cons (.ite (.cmp .eq (.var 4) (.con (.str "turns"))) (.cons (.ret (.idx (.lc false (.var 5) (.name 5) (.val (.var 1)) (.some (.cmp .isIn (.var 5) (.var 2))) [5]) (.con (.int 0)))) .nil) .nil) (.cons (.ite (.cmp .eq (.var 4) (.con (.str "first"))) (.cons (.ret (.idx (.var 2) (.con (.int 0)))) .nil) .nil) (.cons (.asg (.name 6) (.call 12 (.cons (.var 0) (.cons (.var 1) (.cons (.var 3) .nil))))) (.cons (.asg (.name 7) (.blt .max1 (.cons (.lc false (.idx (.var 6) (.var 5)) (.name 5) (.val (.var 2)) .none [5]) .nil))) (.cons (.ret (.idx (.lc false (.var 5) (.name 5) (.val (.var 2)) (.some (.cmp .eq (.idx (.var 6) (.var 5)) (.var 7))) [5]) (.con (.int 0)))) .nil))))))
abbrev n_book_behind : List Str := [("house" : Str), ("book" : Str), ("wish" : Str), ("given" : Str), ("kind" : Str), ("mark" : Str), ("most" : Str), ("person" : Str), ("points" : Str), ("less" : Str), ("old" : Str)]
abbrev p_book_behind : List Str := [("house" : Str), ("book" : Str), ("wish" : Str), ("given" : Str)]
def b_book_behind : Ss := (.cons (.asg (.tup (.cons (.name 4) (.cons (.name 5) (.cons (.name 6) .nil)))) (.idx (.var 0) (.con (.int 1)))) (.cons (.ite (.cmp .eq (.var 4) (.con (.str "turns"))) (.cons (.ret (.bin .add (.blt .tuple (.cons (.lc false (.var 7) (.name 7) (.val (.var 1)) (.some (.cmp .ne (.var 7) (.var 3))) [7]) .nil)) (.tup (.cons (.var 3) .nil)))) .nil) .nil) (.cons (.ite (.cmp .eq (.var 4) (.con (.str "first"))) (.cons (.ret (.var 1)) .nil) .nil) (.cons (.asg (.name 8) (.call 12 (.cons (.var 0) (.cons (.var 1) (.cons (.var 2) .nil))))) (.cons (.asg (.name 9) (.call 13 (.cons (.var 0) (.cons (.var 2) .nil)))) (.cons (.ret (.blt .tuple (.cons (.lc false (.call 14 (.cons (.bin .sub (.var 10) (.ife (.cmp .eq (.var 7) (.var 3)) (.var 9) (.con (.int 0)))) (.cons (.var 5) .nil))) (.tup (.cons (.name 7) (.cons (.name 10) .nil))) (.enm (.var 8)) .none [7, 10]) .nil))) .nil))))))
abbrev n_run_behind : List Str := [("house" : Str), ("run" : Str), ("given" : Str), ("most" : Str)]
abbrev p_run_behind : List Str := [("house" : Str), ("run" : Str), ("given" : Str)]
def b_run_behind : Ss := (.cons (.asg (.name 3) (.idx (.idx (.var 0) (.con (.int 1))) (.con (.int 2)))) (.cons (.ite (.cmp .eq (.var 3) (.con (.int 0))) (.cons (.ret (.tup .nil)) .nil) .nil) (.cons (.ret (.ife (.bop true (.cons (.cmp .ne (.var 1) (.tup .nil)) (.cons (.cmp .eq (.idx (.var 1) (.con (.int 0))) (.var 2)) .nil))) (.tup (.cons (.var 2) (.cons (.blt .min2 (.cons (.var 3) (.cons (.bin .add (.idx (.var 1) (.con (.int 1))) (.con (.int 1))) .nil))) .nil))) (.tup (.cons (.var 2) (.cons (.con (.int 1)) .nil))))) .nil)))
abbrev n_day_behind : List Str := [("house" : Str), ("standing" : Str), ("wish" : Str), ("book" : Str), ("run" : Str), ("given" : Str)]
abbrev p_day_behind : List Str := [("house" : Str), ("standing" : Str), ("wish" : Str)]
def b_day_behind : Ss := (.cons (.ite (.cmp .eq (.var 2) (.tup .nil)) (.cons (.ret (.tup (.cons (.var 1) (.cons (.con (.non)) .nil)))) .nil) .nil) (.cons (.asg (.tup (.cons (.name 3) (.cons (.name 4) .nil))) (.var 1)) (.cons (.asg (.name 5) (.call 15 (.cons (.var 0) (.cons (.var 3) (.cons (.call 11 (.cons (.var 0) (.cons (.var 4) (.cons (.var 2) .nil)))) (.cons (.var 2) .nil)))))) (.cons (.ret (.tup (.cons (.tup (.cons (.call 16 (.cons (.var 0) (.cons (.var 3) (.cons (.var 2) (.cons (.var 5) .nil))))) (.cons (.call 17 (.cons (.var 0) (.cons (.var 4) (.cons (.var 5) .nil)))) .nil))) (.cons (.var 5) .nil)))) .nil))))
abbrev n_led : List Str := [("house" : Str), ("row" : Str), ("found" : Str), ("standing" : Str), ("wish" : Str), ("given" : Str)]
abbrev p_led : List Str := [("house" : Str), ("row" : Str)]
def b_led : Ss := (.cons (.asg (.tup (.cons (.name 2) (.cons (.name 3) .nil))) (.tup (.cons (.lst true .nil) (.cons (.call 10 (.cons (.var 0) .nil)) .nil)))) (.cons (.for (.name 4) (.val (.var 1)) (.cons (.asg (.tup (.cons (.name 3) (.cons (.name 5) .nil))) (.call 18 (.cons (.var 0) (.cons (.var 3) (.cons (.var 4) .nil))))) (.cons (.app (.var 2) (.tup (.cons (.var 3) (.cons (.var 5) .nil)))) .nil))) (.cons (.frzv 2) (.cons (.ret (.var 2)) .nil))))
abbrev n_share : List Str := [("top" : Str), ("below" : Str), ("one" : Str), ("other" : Str)]
abbrev p_share : List Str := [("top" : Str), ("below" : Str)]
def b_share_f0 : Ss := (.cons (.asg (.tup (.cons (.name 2) (.cons (.name 3) .nil))) (.tup (.cons (.var 3) (.cons (.bin .mod (.var 2) (.var 3)) .nil)))) .nil)
def b_share : Ss := (.cons (.asg (.tup (.cons (.name 2) (.cons (.name 3) .nil))) (.tup (.cons (.blt .abs (.cons (.var 0) .nil)) (.cons (.var 1) .nil)))) (.cons (.whl (.cmp .gt (.var 3) (.con (.int 0))) b_share_f0) (.cons (.ret (.tup (.cons (.bin .fdiv (.var 0) (.var 2)) (.cons (.bin .fdiv (.var 1) (.var 2)) .nil)))) .nil)))
abbrev n_common : List Str := [("one" : Str), ("other" : Str), ("first" : Str), ("second" : Str)]
abbrev p_common : List Str := [("one" : Str), ("other" : Str)]
def b_common_f0 : Ss := (.cons (.asg (.tup (.cons (.name 2) (.cons (.name 3) .nil))) (.tup (.cons (.var 3) (.cons (.bin .mod (.var 2) (.var 3)) .nil)))) .nil)
def b_common : Ss := (.cons (.asg (.tup (.cons (.name 2) (.cons (.name 3) .nil))) (.tup (.cons (.var 0) (.cons (.var 1) .nil)))) (.cons (.whl (.cmp .ne (.var 3) (.con (.int 0))) b_common_f0) (.cons (.ret (.bin .mul (.bin .fdiv (.var 0) (.var 2)) (.var 1))) .nil)))
abbrev n_parts_of : List Str := [("house" : Str), ("found" : Str), ("wish" : Str)]
abbrev p_parts_of : List Str := [("house" : Str)]
def b_parts_of_f0 : Ss := (.cons (.ite (.cmp .ne (.var 2) (.tup .nil)) (.cons (.asg (.name 1) (.call 21 (.cons (.var 1) (.cons (.call 13 (.cons (.var 0) (.cons (.var 2) .nil))) .nil)))) .nil) .nil) .nil)
def b_parts_of : Ss := (.cons (.asg (.name 1) (.con (.int 1))) (.cons (.for (.name 2) (.val (.call 9 (.cons (.var 0) .nil))) b_parts_of_f0) (.cons (.ret (.var 1)) .nil)))
abbrev n_due_parts : List Str := [("house" : Str), ("parts" : Str), ("wish" : Str), ("person" : Str)]
abbrev p_due_parts : List Str := [("house" : Str), ("parts" : Str), ("wish" : Str), ("person" : Str)]
def b_due_parts : Ss := (.cons (.ret (.ife (.cmp .isIn (.var 3) (.var 2)) (.bin .fdiv (.bin .mul (.idx (.idx (.var 0) (.con (.int 0))) (.var 3)) (.var 1)) (.call 13 (.cons (.var 0) (.cons (.var 2) .nil)))) (.con (.int 0)))) .nil)
abbrev n_change_of : List Str := [("house" : Str), ("parts" : Str), ("wish" : Str), ("given" : Str), ("person" : Str)]
abbrev p_change_of : List Str := [("house" : Str), ("parts" : Str), ("wish" : Str), ("given" : Str), ("person" : Str)]
def b_change_of : Ss := (.cons (.ret (.bin .sub (.call 23 (.cons (.var 0) (.cons (.var 1) (.cons (.var 2) (.cons (.var 4) .nil))))) (.ife (.cmp .eq (.var 3) (.var 4)) (.var 1) (.con (.int 0))))) .nil)
abbrev n_balances_of : List Str := [("house" : Str), ("row" : Str), ("parts" : Str), ("found" : Str), ("wish" : Str), ("standing" : Str), ("given" : Str), ("person" : Str), ("old" : Str)]
abbrev p_balances_of : List Str := [("house" : Str), ("row" : Str)]
def x_balances_of_0 : X := (.bin .add (.var 8) (.call 24 (.cons (.var 0) (.cons (.var 2) (.cons (.var 4) (.cons (.var 6) (.cons (.var 7) .nil)))))))
def b_balances_of_f0 : Ss := (.cons (.asg (.name 3) (.lc false x_balances_of_0 (.tup (.cons (.name 7) (.cons (.name 8) .nil))) (.enm (.var 3)) .none [7, 8])) .nil)
def b_balances_of : Ss := (.cons (.asg (.name 2) (.call 22 (.cons (.var 0) .nil))) (.cons (.asg (.name 3) (.bin .mul (.lst false (.cons (.con (.int 0)) .nil)) (.blt .len (.cons (.idx (.var 0) (.con (.int 0))) .nil)))) (.cons (.for (.tup (.cons (.name 4) (.cons (.tup (.cons (.name 5) (.cons (.name 6) .nil))) .nil))) (.zip (.var 1) (.call 19 (.cons (.var 0) (.cons (.var 1) .nil)))) b_balances_of_f0) (.cons (.ret (.var 3)) .nil))))
abbrev n_balances : List Str := [("house" : Str), ("row" : Str), ("parts" : Str), ("number" : Str)]
abbrev p_balances : List Str := [("house" : Str), ("row" : Str)]
def x_balances_0 : X := (.call 20 (.cons (.var 3) (.cons (.var 2) .nil)))
def b_balances : Ss := (.cons (.ex (.call 4 (.cons (.var 0) .nil))) (.cons (.ex (.call 8 (.cons (.var 0) (.cons (.var 1) .nil)))) (.cons (.asg (.name 2) (.call 22 (.cons (.var 0) .nil))) (.cons (.ret (.blt .tuple (.cons (.lc false x_balances_0 (.name 3) (.val (.call 25 (.cons (.var 0) (.cons (.var 1) .nil)))) .none [3]) .nil))) .nil))))
abbrev n_law_source : List Str := [("script" : Str), ("k" : Str), ("cell" : Str)]
abbrev p_law_source : List Str := [("script" : Str), ("k" : Str)]
def b_law_source : Ss := (.cons (.asg (.name 2) (.ife (.cmp .lt (.var 1) (.blt .len (.cons (.var 0) .nil))) (.blt .abs (.cons (.blt .int (.cons (.idx (.var 0) (.var 1)) .nil)) .nil)) (.bin .add (.bin .mul (.con (.int 89)) (.var 1)) (.con (.int 37))))) (.cons (.ret (.lst true (.cons (.ife (.cmp .gt (.var 2) (.bin .pow (.con (.int 10)) (.con (.int 17)))) (.var 2) (.con (.int 0))) (.cons (.bin .mod (.blt .int (.cons (.bin .add (.bin .add (.bin .mul (.var 2) (.con (.int 16807))) (.bin .mul (.con (.int 9001)) (.var 1))) (.con (.int 61))) .nil)) (.con (.int 2147483249))) .nil)))) .nil))
abbrev n_law_draw : List Str := [("source" : Str), ("many" : Str), ("rest" : Str), ("wide" : Str)]
abbrev p_law_draw : List Str := [("source" : Str), ("many" : Str)]
def b_law_draw : Ss := (.cons (.ite (.cmp .gt (.idx (.var 0) (.con (.int 0))) (.con (.int 0))) (.cons (.asg (.name 2) (.bin .mod (.blt .int (.cons (.idx (.var 0) (.con (.int 0))) .nil)) (.var 1))) (.cons (.sto (.var 0) (.con (.int 0)) (.bin .fdiv (.idx (.var 0) (.con (.int 0))) (.var 1))) (.cons (.ret (.var 2)) .nil))) .nil) (.cons (.sto (.var 0) (.con (.int 1)) (.bin .mod (.blt .int (.cons (.bin .add (.bin .mul (.idx (.var 0) (.con (.int 1))) (.con (.int 48271))) (.con (.int 71))) .nil)) (.con (.int 2147483249)))) (.cons (.asg (.name 3) (.bin .mod (.blt .int (.cons (.bin .mul (.idx (.var 0) (.con (.int 1))) (.bin .add (.bin .fdiv (.idx (.var 0) (.con (.int 1))) (.con (.int 37))) (.con (.int 22)))) .nil)) (.con (.int 2147483179)))) (.cons (.ret (.bin .mod (.blt .int (.cons (.bin .fdiv (.var 3) (.con (.int 32))) .nil)) (.var 1))) .nil))))
abbrev n_law_choice : List Str := [("source" : Str), ("some" : Str)]
abbrev p_law_choice : List Str := [("source" : Str), ("some" : Str)]
def b_law_choice : Ss := (.cons (.ret (.idx (.var 1) (.call 28 (.cons (.var 0) (.cons (.blt .len (.cons (.var 1) .nil)) .nil))))) .nil)
abbrev n_law_low : List Str := [("top" : Str), ("below" : Str), ("one" : Str), ("other" : Str)]
abbrev p_law_low : List Str := [("top" : Str), ("below" : Str)]
def b_law_low_f0 : Ss := (.cons (.asg (.tup (.cons (.name 2) (.cons (.name 3) .nil))) (.tup (.cons (.var 3) (.cons (.bin .mod (.var 2) (.var 3)) .nil)))) .nil)
def b_law_low : Ss := (.cons (.asg (.tup (.cons (.name 2) (.cons (.name 3) .nil))) (.tup (.cons (.blt .abs (.cons (.var 0) .nil)) (.cons (.var 1) .nil)))) (.cons (.whl (.cmp .ne (.var 3) (.con (.int 0))) b_law_low_f0) (.cons (.ret (.tup (.cons (.bin .fdiv (.var 0) (.var 2)) (.cons (.bin .fdiv (.var 1) (.var 2)) .nil)))) .nil)))
abbrev n_law_house : List Str := [("source" : Str), ("most" : Str), ("people" : Str), ("shares" : Str), ("person" : Str), ("kind" : Str), ("mark" : Str)]
abbrev p_law_house : List Str := [("source" : Str), ("most" : Str)]
def b_law_house : Ss := (.cons (.asg (.name 2) (.bin .add (.con (.int 2)) (.call 28 (.cons (.var 0) (.cons (.bin .sub (.var 1) (.con (.int 1))) .nil))))) (.cons (.asg (.name 3) (.blt .tuple (.cons (.lc false (.bin .add (.con (.int 1)) (.call 28 (.cons (.var 0) (.cons (.con (.int 3)) .nil)))) (.name 4) (.rng (.var 2)) .none [4]) .nil))) (.cons (.asg (.name 5) (.call 29 (.cons (.var 0) (.cons (.lst false (.cons (.con (.str "first")) (.cons (.con (.str "turns")) (.cons (.con (.str "points")) (.cons (.con (.str "points")) .nil))))) .nil)))) (.cons (.asg (.name 6) (.ife (.cmp .eq (.var 5) (.con (.str "points"))) (.bin .add (.con (.int 1)) (.call 28 (.cons (.var 0) (.cons (.ife (.cmp .eq (.var 2) (.con (.int 2))) (.con (.int 3)) (.con (.int 1))) .nil)))) (.con (.int 0)))) (.cons (.ret (.tup (.cons (.var 3) (.cons (.tup (.cons (.var 5) (.cons (.var 6) (.cons (.call 29 (.cons (.var 0) (.cons (.lst false (.cons (.con (.int 0)) (.cons (.con (.int 0)) (.cons (.con (.int 1)) (.cons (.con (.int 2)) .nil))))) .nil))) .nil)))) .nil)))) .nil)))))
abbrev n_law_wishes : List Str := [("house" : Str), ("found" : Str), ("person" : Str), ("wish" : Str)]
abbrev p_law_wishes : List Str := [("house" : Str)]
def b_law_wishes : Ss := (.cons (.asg (.name 1) (.lst false (.cons (.tup .nil) .nil))) (.cons (.for (.name 2) (.rng (.blt .len (.cons (.idx (.var 0) (.con (.int 0))) .nil))) (.cons (.asg (.name 1) (.bin .add (.var 1) (.lc false (.bin .add (.var 3) (.tup (.cons (.var 2) .nil))) (.name 3) (.val (.var 1)) .none [3]))) .nil)) (.cons (.ret (.blt .sortedT (.cons (.var 1) .nil))) .nil)))
abbrev n_law_row : List Str := [("source" : Str), ("house" : Str), ("days" : Str), ("wishes" : Str), ("day" : Str)]
abbrev p_law_row : List Str := [("source" : Str), ("house" : Str), ("days" : Str)]
def b_law_row : Ss := (.cons (.asg (.name 3) (.call 32 (.cons (.var 1) .nil))) (.cons (.ret (.blt .tuple (.cons (.lc false (.call 29 (.cons (.var 0) (.cons (.bin .add (.var 3) (.sl (.var 3) (.some (.neg (.con (.int 2)))) .none)) .nil))) (.name 4) (.rng (.var 2)) .none [4]) .nil))) .nil))
abbrev n_law_first : List Str := [("house" : Str), ("people" : Str), ("person" : Str)]
abbrev p_law_first : List Str := [("house" : Str)]
def b_law_first : Ss := (.cons (.asg (.name 1) (.trg (.blt .len (.cons (.idx (.var 0) (.con (.int 0))) .nil)))) (.cons (.ret (.tup (.cons (.dgt "first" "turns" (.tup .nil) (.var 1) (.idx (.idx (.var 0) (.con (.int 1))) (.con (.int 0))) (.blt .tuple (.cons (.lc false (.con (.int 0)) (.name 2) (.val (.var 1)) .none [2]) .nil))) (.cons (.tup .nil) .nil)))) .nil))
abbrev n_law_whom : List Str := [("house" : Str), ("book" : Str), ("wish" : Str), ("may" : Str), ("kind" : Str), ("mark" : Str), ("most" : Str), ("given" : Str), ("person" : Str), ("points" : Str), ("old" : Str), ("number" : Str)]
abbrev p_law_whom : List Str := [("house" : Str), ("book" : Str), ("wish" : Str), ("may" : Str)]
def b_law_whom : Ss := (.cons (.asg (.tup (.cons (.name 4) (.cons (.name 5) (.cons (.name 6) .nil)))) (.idx (.var 0) (.con (.int 1)))) (.cons (.ite (.cmp .eq (.var 4) (.con (.str "first"))) (.cons (.ret (.tup (.cons (.blt .min1 (.cons (.var 3) .nil)) (.cons (.var 1) .nil)))) .nil) .nil) (.cons (.ite (.cmp .eq (.var 4) (.con (.str "turns"))) (.cons (.asg (.name 7) (.idx (.lc false (.var 8) (.name 8) (.val (.var 1)) (.some (.cmp .isIn (.var 8) (.var 3))) [8]) (.con (.int 0)))) (.cons (.ret (.tup (.cons (.var 7) (.cons (.bin .add (.blt .tuple (.cons (.lc false (.var 8) (.name 8) (.val (.var 1)) (.some (.cmp .ne (.var 8) (.var 7))) [8]) .nil)) (.tup (.cons (.var 7) .nil))) .nil)))) .nil)) .nil) (.cons (.asg (.name 9) (.lc true (.bin .add (.var 10) (.ife (.cmp .isIn (.var 8) (.var 2)) (.idx (.idx (.var 0) (.con (.int 0))) (.var 8)) (.con (.int 0)))) (.tup (.cons (.name 8) (.cons (.name 10) .nil))) (.enm (.var 1)) .none [8, 10])) (.cons (.asg (.name 7) (.idx (.idx (.blt .sortedT (.cons (.lc false (.tup (.cons (.neg (.idx (.var 9) (.var 8))) (.cons (.var 8) .nil))) (.name 8) (.val (.var 3)) .none [8]) .nil)) (.con (.int 0))) (.con (.int 1)))) (.cons (.sto (.var 9) (.var 7) (.bin .sub (.idx (.var 9) (.var 7)) (.blt .sum (.cons (.lc false (.idx (.idx (.var 0) (.con (.int 0))) (.var 8)) (.name 8) (.val (.var 2)) .none [8]) .nil)))) (.cons (.frzv 9) (.cons (.ret (.tup (.cons (.var 7) (.cons (.blt .tuple (.cons (.lc false (.blt .max2 (.cons (.neg (.var 5)) (.cons (.blt .min2 (.cons (.var 5) (.cons (.var 11) .nil))) .nil))) (.name 11) (.val (.var 9)) .none [11]) .nil)) .nil)))) .nil))))))))
abbrev n_law_day : List Str := [("house" : Str), ("standing" : Str), ("wish" : Str), ("book" : Str), ("run" : Str), ("most" : Str), ("may" : Str), ("person" : Str), ("given" : Str), ("later" : Str), ("many" : Str)]
abbrev p_law_day : List Str := [("house" : Str), ("standing" : Str), ("wish" : Str)]
def b_law_day : Ss := (.cons (.ite (.cmp .eq (.var 2) (.tup .nil)) (.cons (.ret (.tup (.cons (.var 1) (.cons (.con (.non)) .nil)))) .nil) .nil) (.cons (.asg (.tup (.cons (.name 3) (.cons (.name 4) .nil))) (.var 1)) (.cons (.asg (.name 5) (.idx (.idx (.var 0) (.con (.int 1))) (.con (.int 2)))) (.cons (.asg (.name 6) (.blt .list (.cons (.var 2) .nil))) (.cons (.ite (.bop true (.cons (.cmp .gt (.var 5) (.con (.int 0))) (.cons (.cmp .ne (.var 4) (.tup .nil)) (.cons (.cmp .ge (.idx (.var 4) (.con (.int 1))) (.var 5)) (.cons (.cmp .gt (.blt .len (.cons (.var 2) .nil)) (.con (.int 1))) .nil))))) (.cons (.asg (.name 6) (.lc false (.var 7) (.name 7) (.val (.var 2)) (.some (.cmp .ne (.var 7) (.idx (.var 4) (.con (.int 0))))) [7])) .nil) .nil) (.cons (.asg (.tup (.cons (.name 8) (.cons (.name 9) .nil))) (.call 35 (.cons (.var 0) (.cons (.var 3) (.cons (.var 2) (.cons (.var 6) .nil)))))) (.cons (.ite (.cmp .eq (.var 5) (.con (.int 0))) (.cons (.ret (.tup (.cons (.tup (.cons (.var 9) (.cons (.tup .nil) .nil))) (.cons (.var 8) .nil)))) .nil) .nil) (.cons (.asg (.name 10) (.bin .add (.con (.int 1)) (.ife (.bop true (.cons (.cmp .ne (.var 4) (.tup .nil)) (.cons (.cmp .eq (.idx (.var 4) (.con (.int 0))) (.var 8)) .nil))) (.idx (.var 4) (.con (.int 1))) (.con (.int 0))))) (.cons (.ret (.tup (.cons (.tup (.cons (.var 9) (.cons (.tup (.cons (.var 8) (.cons (.blt .min2 (.cons (.var 5) (.cons (.var 10) .nil))) .nil))) .nil))) (.cons (.var 8) .nil)))) .nil)))))))))
abbrev n_law_led : List Str := [("house" : Str), ("row" : Str), ("found" : Str), ("standing" : Str), ("wish" : Str), ("given" : Str)]
abbrev p_law_led : List Str := [("house" : Str), ("row" : Str)]
def b_law_led : Ss := (.cons (.asg (.tup (.cons (.name 2) (.cons (.name 3) .nil))) (.tup (.cons (.lst true .nil) (.cons (.call 34 (.cons (.var 0) .nil)) .nil)))) (.cons (.for (.name 4) (.val (.var 1)) (.cons (.asg (.tup (.cons (.name 3) (.cons (.name 5) .nil))) (.call 36 (.cons (.var 0) (.cons (.var 3) (.cons (.var 4) .nil))))) (.cons (.app (.var 2) (.tup (.cons (.var 3) (.cons (.var 5) .nil)))) .nil))) (.cons (.frzv 2) (.cons (.ret (.var 2)) .nil))))
abbrev n_law_sum : List Str := [("house" : Str), ("row" : Str), ("found" : Str), ("person" : Str), ("wish" : Str), ("standing" : Str), ("given" : Str), ("whole" : Str), ("one" : Str), ("top" : Str), ("below" : Str), ("due" : Str)]
abbrev p_law_sum : List Str := [("house" : Str), ("row" : Str)]
def x_law_sum_0 : X := (.tup (.cons (.con (.int 0)) (.cons (.con (.int 1)) .nil)))
def x_law_sum_1 : X := (.idx (.idx (.var 0) (.con (.int 0))) (.var 8))
def b_law_sum_f1 : Ss := (.cons (.asg (.tup (.cons (.name 9) (.cons (.name 10) .nil))) (.idx (.var 2) (.var 3))) (.cons (.asg (.name 11) (.bin .sub (.idx (.idx (.var 0) (.con (.int 0))) (.var 3)) (.ife (.cmp .eq (.var 3) (.var 6)) (.var 7) (.con (.int 0))))) (.cons (.sto (.var 2) (.var 3) (.call 30 (.cons (.bin .add (.bin .mul (.var 9) (.var 7)) (.bin .mul (.var 11) (.var 10))) (.cons (.bin .mul (.var 10) (.var 7)) .nil)))) .nil)))
def b_law_sum_f0 : Ss := (.cons (.asg (.name 7) (.blt .sum (.cons (.lc false x_law_sum_1 (.name 8) (.val (.var 4)) .none [8]) .nil))) (.cons (.for (.name 3) (.val (.var 4)) b_law_sum_f1) .nil))
def b_law_sum : Ss := (.cons (.asg (.name 2) (.lc true x_law_sum_0 (.name 3) (.val (.idx (.var 0) (.con (.int 0)))) .none [3])) (.cons (.for (.tup (.cons (.name 4) (.cons (.tup (.cons (.name 5) (.cons (.name 6) .nil))) .nil))) (.zip (.var 1) (.call 37 (.cons (.var 0) (.cons (.var 1) .nil)))) b_law_sum_f0) (.cons (.frzv 2) (.cons (.ret (.blt .tuple (.cons (.var 2) .nil))) .nil))))
abbrev n_law_refused : List Str := [("house" : Str), ("value" : Str)]
abbrev p_law_refused : List Str := [("house" : Str), ("value" : Str)]
def b_law_refused : Ss := (.cons (.tryc (.cons (.ex (.call 26 (.cons (.var 0) (.cons (.var 1) .nil)))) .nil) (.cons 1 (.cons (.ret (.con (.bl true))) .nil) .nil)) (.cons (.ret (.con (.bl false))) .nil))
abbrev n_law : List Str := [("script" : Str), ("k" : Str), ("source" : Str), ("turn" : Str), ("house" : Str), ("row" : Str), ("told" : Str), ("top" : Str), ("below" : Str), ("one" : Str), ("other" : Str), ("odd" : Str), ("both" : Str), ("limit" : Str)]
abbrev p_law : List Str := [("script" : Str)]
def b_law_f2 : Ss := (.cons (.asg (.tup (.cons (.name 7) (.cons (.name 8) .nil))) (.call 30 (.cons (.bin .add (.bin .mul (.var 7) (.var 10)) (.bin .mul (.var 9) (.var 8))) (.cons (.bin .mul (.var 8) (.var 10)) .nil)))) .nil)
def b_law_f1 : Ss := (.cons (.asg (.name 4) (.call 31 (.cons (.var 2) (.cons (.con (.int 3)) .nil)))) (.cons (.asg (.name 5) (.call 33 (.cons (.var 2) (.cons (.var 4) (.cons (.call 29 (.cons (.var 2) (.cons (.lst false (.cons (.con (.int 0)) (.cons (.con (.int 1)) (.cons (.con (.int 7)) (.cons (.con (.int 60)) .nil))))) .nil))) .nil))))) (.cons (.asg (.name 6) (.call 26 (.cons (.var 4) (.cons (.var 5) .nil)))) (.cons (.ite (.bop false (.cons (.cmp .ne (.var 6) (.call 38 (.cons (.var 4) (.cons (.var 5) .nil)))) (.cons (.not (.isi (.var 6) .tuple)) .nil))) (.cons (.ret (.con (.bl false))) .nil) .nil) (.cons (.asg (.tup (.cons (.name 7) (.cons (.name 8) .nil))) (.tup (.cons (.con (.int 0)) (.cons (.con (.int 1)) .nil)))) (.cons (.for (.tup (.cons (.name 9) (.cons (.name 10) .nil))) (.val (.var 6)) b_law_f2) (.cons (.ite (.bop false (.cons (.cmp .ne (.var 7) (.con (.int 0))) (.cons (.cmp .ne (.call 26 (.cons (.var 4) (.cons (.bin .add (.var 5) (.bin .mul (.tup (.cons (.tup .nil) .nil)) (.con (.int 3)))) .nil))) (.var 6)) .nil))) (.cons (.ret (.con (.bl false))) .nil) .nil) .nil)))))))
def x_law_0 : X := (.var 11)
def c_law_0 : Xo := (.some (.not (.call 39 (.cons (.var 4) (.cons (.var 11) .nil)))))
def b_law_f0 : Ss := (.cons (.asg (.name 2) (.call 27 (.cons (.var 0) (.cons (.var 1) .nil)))) (.cons (.for (.name 3) (.rng (.con (.int 4))) b_law_f1) (.cons (.ite (.cmp .ne (.lc false x_law_0 (.name 11) (.val (.lst false (.cons (.con (.non)) (.cons (.lst false .nil) (.cons (.tup (.cons (.tup (.cons (.con (.int 1)) (.cons (.con (.int 0)) .nil))) .nil)) (.cons (.tup (.cons (.tup (.cons (.con (.int 3)) .nil)) .nil)) (.cons (.tup (.cons (.con (.int 0)) .nil)) .nil))))))) c_law_0 [11]) (.lst false .nil)) (.cons (.ret (.con (.bl false))) .nil) .nil) .nil)))
def b_law : Ss := (.cons (.for (.name 1) (.rng (.bin .add (.con (.int 1)) (.blt .min2 (.cons (.blt .len (.cons (.var 0) .nil)) (.cons (.con (.int 10)) .nil))))) b_law_f0) (.cons (.asg (.tup (.cons (.name 12) (.cons (.name 13) .nil))) (.tup (.cons (.tup (.cons (.con (.int 0)) (.cons (.con (.int 1)) .nil))) (.cons (.tup (.cons (.tup (.cons (.con (.int 2)) (.cons (.con (.int 1)) .nil))) (.cons (.tup (.cons (.con (.str "first")) (.cons (.con (.int 0)) (.cons (.con (.int 1)) .nil)))) .nil))) .nil)))) (.cons (.ite (.cmp .ne (.call 26 (.cons (.tup (.cons (.tup (.cons (.con (.int 1)) (.cons (.con (.int 1)) .nil))) (.cons (.tup (.cons (.con (.str "turns")) (.cons (.con (.int 0)) (.cons (.con (.int 0)) .nil)))) .nil))) (.cons (.tup (.cons (.tup (.cons (.con (.int 0)) .nil)) (.cons (.var 12) .nil))) .nil))) (.tup (.cons (.tup (.cons (.con (.int 1)) (.cons (.con (.int 2)) .nil))) (.cons (.tup (.cons (.neg (.con (.int 1))) (.cons (.con (.int 2)) .nil))) .nil)))) (.cons (.ret (.con (.bl false))) .nil) .nil) (.cons (.ite (.cmp .ne (.call 26 (.cons (.var 13) (.cons (.bin .mul (.tup (.cons (.var 12) .nil)) (.con (.int 3))) .nil))) (.tup (.cons (.tup (.cons (.con (.int 0)) (.cons (.con (.int 1)) .nil))) (.cons (.tup (.cons (.con (.int 0)) (.cons (.con (.int 1)) .nil))) .nil)))) (.cons (.ret (.con (.bl false))) .nil) .nil) (.cons (.ite (.cmp .ne (.call 26 (.cons (.var 13) (.cons (.tup (.cons (.var 12) .nil)) .nil))) (.tup (.cons (.tup (.cons (.neg (.con (.int 1))) (.cons (.con (.int 3)) .nil))) (.cons (.tup (.cons (.con (.int 1)) (.cons (.con (.int 3)) .nil))) .nil)))) (.cons (.ret (.con (.bl false))) .nil) .nil) (.cons (.ite (.cmp .ne (.call 26 (.cons (.var 13) (.cons (.tup (.cons (.var 12) (.cons (.tup (.cons (.con (.int 1)) .nil)) (.cons (.var 12) .nil)))) .nil))) (.tup (.cons (.tup (.cons (.neg (.con (.int 2))) (.cons (.con (.int 3)) .nil))) (.cons (.tup (.cons (.con (.int 2)) (.cons (.con (.int 3)) .nil))) .nil)))) (.cons (.ret (.con (.bl false))) .nil) .nil) (.cons (.ret (.cmp .eq (.call 26 (.cons (.tup (.cons (.tup (.cons (.con (.int 3)) (.cons (.con (.int 2)) (.cons (.con (.int 1)) .nil)))) (.cons (.tup (.cons (.con (.str "first")) (.cons (.con (.int 0)) (.cons (.con (.int 0)) .nil)))) .nil))) (.cons (.tup (.cons (.tup (.cons (.con (.int 0)) (.cons (.con (.int 1)) (.cons (.con (.int 2)) .nil)))) (.cons (.tup (.cons (.con (.int 1)) (.cons (.con (.int 2)) .nil))) .nil))) .nil))) (.tup (.cons (.tup (.cons (.neg (.con (.int 1))) (.cons (.con (.int 2)) .nil))) (.cons (.tup (.cons (.con (.int 0)) (.cons (.con (.int 1)) .nil))) (.cons (.tup (.cons (.con (.int 1)) (.cons (.con (.int 2)) .nil))) .nil)))))) .nil)))))))
abbrev fns : List (Str × Nat) := [(("is_from" : Str), 3), (("is_tuple" : Str), 3), (("is_rule" : Str), 1), (("has_house" : Str), 1), (("need_house" : Str), 1), (("rises" : Str), 1), (("is_wish" : Str), 2), (("has_row" : Str), 2), (("need_row" : Str), 2), (("all_wishes" : Str), 1), (("first_standing" : Str), 1), (("who_may" : Str), 3), (("with_dues" : Str), 3), (("sum_of" : Str), 2), (("cut_off" : Str), 2), (("picked" : Str), 4), (("book_behind" : Str), 4), (("run_behind" : Str), 3), (("day_behind" : Str), 3), (("led" : Str), 2), (("share" : Str), 2), (("common" : Str), 2), (("parts_of" : Str), 1), (("due_parts" : Str), 4), (("change_of" : Str), 5), (("balances_of" : Str), 2), (("balances" : Str), 2), (("_law_source" : Str), 2), (("_law_draw" : Str), 2), (("_law_choice" : Str), 2), (("_law_low" : Str), 2), (("_law_house" : Str), 2), (("_law_wishes" : Str), 1), (("_law_row" : Str), 3), (("_law_first" : Str), 1), (("_law_whom" : Str), 4), (("_law_day" : Str), 3), (("_law_led" : Str), 2), (("_law_sum" : Str), 2), (("_law_refused" : Str), 2), (("law" : Str), 1)]
abbrev cs : List (Str × D) := [(("KINDS" : Str), (.tup [.str "first", .str "points", .str "turns"] : D)), (("MOST_MARK" : Str), (.int 3 : D)), (("MOST_DAYS" : Str), (.int 100 : D))]
abbrev cls : List Str := [("InvalidHouse" : Str), ("InvalidRow" : Str)]
abbrev rs : List Nat := [0, 1]
def sub (c k : Nat) : Bool := (([[0], [1]] : List (List Nat)).getD c [0]).contains k
abbrev Γ_is_from : Gm := { N := n_is_from, sc := defScope (topS 8), fns := fns.take 0, cs := cs, cls := cls, rs := rs, lvl := 0 }
theorem s_is_from : FnScope n_is_from p_is_from (defScope (topS 8)) := ⟨by decide +kernel, by decide +kernel, by decide +kernel, by decide +kernel, by decide +kernel, by decide +kernel, by decide +kernel⟩
theorem k_is_from : chkSs b_is_from Γ_is_from (defBody (topS 8)) = true := by decide +kernel
abbrev Γ_is_tuple : Gm := { N := n_is_tuple, sc := defScope (topS 9), fns := fns.take 1, cs := cs, cls := cls, rs := rs, lvl := 1 }
theorem s_is_tuple : FnScope n_is_tuple p_is_tuple (defScope (topS 9)) := ⟨by decide +kernel, by decide +kernel, by decide +kernel, by decide +kernel, by decide +kernel, by decide +kernel, by decide +kernel⟩
theorem k_is_tuple : chkSs b_is_tuple Γ_is_tuple (defBody (topS 9)) = true := by decide +kernel
abbrev Γ_is_rule : Gm := { N := n_is_rule, sc := defScope (topS 10), fns := fns.take 2, cs := cs, cls := cls, rs := rs, lvl := 2 }
theorem s_is_rule : FnScope n_is_rule p_is_rule (defScope (topS 10)) := ⟨by decide +kernel, by decide +kernel, by decide +kernel, by decide +kernel, by decide +kernel, by decide +kernel, by decide +kernel⟩
theorem k_is_rule : chkSs b_is_rule Γ_is_rule (defBody (topS 10)) = true := by decide +kernel
abbrev Γ_has_house : Gm := { N := n_has_house, sc := defScope (topS 11), fns := fns.take 3, cs := cs, cls := cls, rs := rs, lvl := 3 }
theorem s_has_house : FnScope n_has_house p_has_house (defScope (topS 11)) := ⟨by decide +kernel, by decide +kernel, by decide +kernel, by decide +kernel, by decide +kernel, by decide +kernel, by decide +kernel⟩
theorem k_has_house : chkSs b_has_house Γ_has_house (defBody (topS 11)) = true := by decide +kernel
abbrev Γ_need_house : Gm := { N := n_need_house, sc := defScope (topS 12), fns := fns.take 4, cs := cs, cls := cls, rs := rs, lvl := 4 }
theorem s_need_house : FnScope n_need_house p_need_house (defScope (topS 12)) := ⟨by decide +kernel, by decide +kernel, by decide +kernel, by decide +kernel, by decide +kernel, by decide +kernel, by decide +kernel⟩
theorem k_need_house : chkSs b_need_house Γ_need_house (defBody (topS 12)) = true := by decide +kernel
abbrev Γ_rises : Gm := { N := n_rises, sc := defScope (topS 13), fns := fns.take 5, cs := cs, cls := cls, rs := rs, lvl := 5 }
theorem s_rises : FnScope n_rises p_rises (defScope (topS 13)) := ⟨by decide +kernel, by decide +kernel, by decide +kernel, by decide +kernel, by decide +kernel, by decide +kernel, by decide +kernel⟩
theorem k_rises : chkSs b_rises Γ_rises (defBody (topS 13)) = true := by decide +kernel
abbrev Γ_is_wish : Gm := { N := n_is_wish, sc := defScope (topS 14), fns := fns.take 6, cs := cs, cls := cls, rs := rs, lvl := 6 }
theorem s_is_wish : FnScope n_is_wish p_is_wish (defScope (topS 14)) := ⟨by decide +kernel, by decide +kernel, by decide +kernel, by decide +kernel, by decide +kernel, by decide +kernel, by decide +kernel⟩
theorem k_is_wish : chkSs b_is_wish Γ_is_wish (defBody (topS 14)) = true := by decide +kernel
abbrev Γ_has_row : Gm := { N := n_has_row, sc := defScope (topS 15), fns := fns.take 7, cs := cs, cls := cls, rs := rs, lvl := 7 }
theorem s_has_row : FnScope n_has_row p_has_row (defScope (topS 15)) := ⟨by decide +kernel, by decide +kernel, by decide +kernel, by decide +kernel, by decide +kernel, by decide +kernel, by decide +kernel⟩
theorem k_has_row : chkSs b_has_row Γ_has_row (defBody (topS 15)) = true := by decide +kernel
abbrev Γ_need_row : Gm := { N := n_need_row, sc := defScope (topS 16), fns := fns.take 8, cs := cs, cls := cls, rs := rs, lvl := 8 }
theorem s_need_row : FnScope n_need_row p_need_row (defScope (topS 16)) := ⟨by decide +kernel, by decide +kernel, by decide +kernel, by decide +kernel, by decide +kernel, by decide +kernel, by decide +kernel⟩
theorem k_need_row : chkSs b_need_row Γ_need_row (defBody (topS 16)) = true := by decide +kernel
abbrev Γ_all_wishes : Gm := { N := n_all_wishes, sc := defScope (topS 17), fns := fns.take 9, cs := cs, cls := cls, rs := rs, lvl := 9 }
theorem s_all_wishes : FnScope n_all_wishes p_all_wishes (defScope (topS 17)) := ⟨by decide +kernel, by decide +kernel, by decide +kernel, by decide +kernel, by decide +kernel, by decide +kernel, by decide +kernel⟩
theorem k_all_wishes : chkSs b_all_wishes Γ_all_wishes (defBody (topS 17)) = true := by decide +kernel
abbrev Γ_first_standing : Gm := { N := n_first_standing, sc := defScope (topS 19), fns := fns.take 10, cs := cs, cls := cls, rs := rs, lvl := 10 }
theorem s_first_standing : FnScope n_first_standing p_first_standing (defScope (topS 19)) := ⟨by decide +kernel, by decide +kernel, by decide +kernel, by decide +kernel, by decide +kernel, by decide +kernel, by decide +kernel⟩
theorem k_first_standing : chkSs b_first_standing Γ_first_standing (defBody (topS 19)) = true := by decide +kernel
abbrev Γ_who_may : Gm := { N := n_who_may, sc := defScope (topS 20), fns := fns.take 11, cs := cs, cls := cls, rs := rs, lvl := 11 }
theorem s_who_may : FnScope n_who_may p_who_may (defScope (topS 20)) := ⟨by decide +kernel, by decide +kernel, by decide +kernel, by decide +kernel, by decide +kernel, by decide +kernel, by decide +kernel⟩
theorem k_who_may : chkSs b_who_may Γ_who_may (defBody (topS 20)) = true := by decide +kernel
abbrev Γ_with_dues : Gm := { N := n_with_dues, sc := defScope (topS 21), fns := fns.take 12, cs := cs, cls := cls, rs := rs, lvl := 12 }
theorem s_with_dues : FnScope n_with_dues p_with_dues (defScope (topS 21)) := ⟨by decide +kernel, by decide +kernel, by decide +kernel, by decide +kernel, by decide +kernel, by decide +kernel, by decide +kernel⟩
theorem k_with_dues : chkSs b_with_dues Γ_with_dues (defBody (topS 21)) = true := by decide +kernel
abbrev Γ_sum_of : Gm := { N := n_sum_of, sc := defScope (topS 22), fns := fns.take 13, cs := cs, cls := cls, rs := rs, lvl := 13 }
theorem s_sum_of : FnScope n_sum_of p_sum_of (defScope (topS 22)) := ⟨by decide +kernel, by decide +kernel, by decide +kernel, by decide +kernel, by decide +kernel, by decide +kernel, by decide +kernel⟩
theorem k_sum_of : chkSs b_sum_of Γ_sum_of (defBody (topS 22)) = true := by decide +kernel
abbrev Γ_cut_off : Gm := { N := n_cut_off, sc := defScope (topS 23), fns := fns.take 14, cs := cs, cls := cls, rs := rs, lvl := 14 }
theorem s_cut_off : FnScope n_cut_off p_cut_off (defScope (topS 23)) := ⟨by decide +kernel, by decide +kernel, by decide +kernel, by decide +kernel, by decide +kernel, by decide +kernel, by decide +kernel⟩
theorem k_cut_off : chkSs b_cut_off Γ_cut_off (defBody (topS 23)) = true := by decide +kernel
abbrev Γ_picked : Gm := { N := n_picked, sc := defScope (topS 24), fns := fns.take 15, cs := cs, cls := cls, rs := rs, lvl := 15 }
theorem s_picked : FnScope n_picked p_picked (defScope (topS 24)) := ⟨by decide +kernel, by decide +kernel, by decide +kernel, by decide +kernel, by decide +kernel, by decide +kernel, by decide +kernel⟩
theorem k_picked : chkSs b_picked Γ_picked (defBody (topS 24)) = true := by decide +kernel
abbrev Γ_book_behind : Gm := { N := n_book_behind, sc := defScope (topS 25), fns := fns.take 16, cs := cs, cls := cls, rs := rs, lvl := 16 }
theorem s_book_behind : FnScope n_book_behind p_book_behind (defScope (topS 25)) := ⟨by decide +kernel, by decide +kernel, by decide +kernel, by decide +kernel, by decide +kernel, by decide +kernel, by decide +kernel⟩
theorem k_book_behind : chkSs b_book_behind Γ_book_behind (defBody (topS 25)) = true := by decide +kernel
abbrev Γ_run_behind : Gm := { N := n_run_behind, sc := defScope (topS 26), fns := fns.take 17, cs := cs, cls := cls, rs := rs, lvl := 17 }
theorem s_run_behind : FnScope n_run_behind p_run_behind (defScope (topS 26)) := ⟨by decide +kernel, by decide +kernel, by decide +kernel, by decide +kernel, by decide +kernel, by decide +kernel, by decide +kernel⟩
theorem k_run_behind : chkSs b_run_behind Γ_run_behind (defBody (topS 26)) = true := by decide +kernel
abbrev Γ_day_behind : Gm := { N := n_day_behind, sc := defScope (topS 27), fns := fns.take 18, cs := cs, cls := cls, rs := rs, lvl := 18 }
theorem s_day_behind : FnScope n_day_behind p_day_behind (defScope (topS 27)) := ⟨by decide +kernel, by decide +kernel, by decide +kernel, by decide +kernel, by decide +kernel, by decide +kernel, by decide +kernel⟩
theorem k_day_behind : chkSs b_day_behind Γ_day_behind (defBody (topS 27)) = true := by decide +kernel
abbrev Γ_led : Gm := { N := n_led, sc := defScope (topS 28), fns := fns.take 19, cs := cs, cls := cls, rs := rs, lvl := 19 }
theorem s_led : FnScope n_led p_led (defScope (topS 28)) := ⟨by decide +kernel, by decide +kernel, by decide +kernel, by decide +kernel, by decide +kernel, by decide +kernel, by decide +kernel⟩
theorem k_led : chkSs b_led Γ_led (defBody (topS 28)) = true := by decide +kernel
abbrev Γ_share : Gm := { N := n_share, sc := defScope (topS 30), fns := fns.take 20, cs := cs, cls := cls, rs := rs, lvl := 20 }
theorem s_share : FnScope n_share p_share (defScope (topS 30)) := ⟨by decide +kernel, by decide +kernel, by decide +kernel, by decide +kernel, by decide +kernel, by decide +kernel, by decide +kernel⟩
theorem k_share : chkSs b_share Γ_share (defBody (topS 30)) = true := by decide +kernel
abbrev Γ_common : Gm := { N := n_common, sc := defScope (topS 31), fns := fns.take 21, cs := cs, cls := cls, rs := rs, lvl := 21 }
theorem s_common : FnScope n_common p_common (defScope (topS 31)) := ⟨by decide +kernel, by decide +kernel, by decide +kernel, by decide +kernel, by decide +kernel, by decide +kernel, by decide +kernel⟩
theorem k_common : chkSs b_common Γ_common (defBody (topS 31)) = true := by decide +kernel
abbrev Γ_parts_of : Gm := { N := n_parts_of, sc := defScope (topS 32), fns := fns.take 22, cs := cs, cls := cls, rs := rs, lvl := 22 }
theorem s_parts_of : FnScope n_parts_of p_parts_of (defScope (topS 32)) := ⟨by decide +kernel, by decide +kernel, by decide +kernel, by decide +kernel, by decide +kernel, by decide +kernel, by decide +kernel⟩
theorem k_parts_of : chkSs b_parts_of Γ_parts_of (defBody (topS 32)) = true := by decide +kernel
abbrev Γ_due_parts : Gm := { N := n_due_parts, sc := defScope (topS 33), fns := fns.take 23, cs := cs, cls := cls, rs := rs, lvl := 23 }
theorem s_due_parts : FnScope n_due_parts p_due_parts (defScope (topS 33)) := ⟨by decide +kernel, by decide +kernel, by decide +kernel, by decide +kernel, by decide +kernel, by decide +kernel, by decide +kernel⟩
theorem k_due_parts : chkSs b_due_parts Γ_due_parts (defBody (topS 33)) = true := by decide +kernel
abbrev Γ_change_of : Gm := { N := n_change_of, sc := defScope (topS 34), fns := fns.take 24, cs := cs, cls := cls, rs := rs, lvl := 24 }
theorem s_change_of : FnScope n_change_of p_change_of (defScope (topS 34)) := ⟨by decide +kernel, by decide +kernel, by decide +kernel, by decide +kernel, by decide +kernel, by decide +kernel, by decide +kernel⟩
theorem k_change_of : chkSs b_change_of Γ_change_of (defBody (topS 34)) = true := by decide +kernel
abbrev Γ_balances_of : Gm := { N := n_balances_of, sc := defScope (topS 35), fns := fns.take 25, cs := cs, cls := cls, rs := rs, lvl := 25 }
theorem s_balances_of : FnScope n_balances_of p_balances_of (defScope (topS 35)) := ⟨by decide +kernel, by decide +kernel, by decide +kernel, by decide +kernel, by decide +kernel, by decide +kernel, by decide +kernel⟩
theorem k_balances_of : chkSs b_balances_of Γ_balances_of (defBody (topS 35)) = true := by decide +kernel
abbrev Γ_balances : Gm := { N := n_balances, sc := defScope (topS 36), fns := fns.take 26, cs := cs, cls := cls, rs := rs, lvl := 26 }
theorem s_balances : FnScope n_balances p_balances (defScope (topS 36)) := ⟨by decide +kernel, by decide +kernel, by decide +kernel, by decide +kernel, by decide +kernel, by decide +kernel, by decide +kernel⟩
theorem k_balances : chkSs b_balances Γ_balances (defBody (topS 36)) = true := by decide +kernel
abbrev Γ_law_source : Gm := { N := n_law_source, sc := defScope (topS 38), fns := fns.take 27, cs := cs, cls := cls, rs := rs, lvl := 27 }
theorem s_law_source : FnScope n_law_source p_law_source (defScope (topS 38)) := ⟨by decide +kernel, by decide +kernel, by decide +kernel, by decide +kernel, by decide +kernel, by decide +kernel, by decide +kernel⟩
theorem k_law_source : chkSs b_law_source Γ_law_source (defBody (topS 38)) = true := by decide +kernel
abbrev Γ_law_draw : Gm := { N := n_law_draw, sc := defScope (topS 39), fns := fns.take 28, cs := cs, cls := cls, rs := rs, lvl := 28 }
theorem s_law_draw : FnScope n_law_draw p_law_draw (defScope (topS 39)) := ⟨by decide +kernel, by decide +kernel, by decide +kernel, by decide +kernel, by decide +kernel, by decide +kernel, by decide +kernel⟩
theorem k_law_draw : chkSs b_law_draw Γ_law_draw (defBody (topS 39)) = true := by decide +kernel
abbrev Γ_law_choice : Gm := { N := n_law_choice, sc := defScope (topS 40), fns := fns.take 29, cs := cs, cls := cls, rs := rs, lvl := 29 }
theorem s_law_choice : FnScope n_law_choice p_law_choice (defScope (topS 40)) := ⟨by decide +kernel, by decide +kernel, by decide +kernel, by decide +kernel, by decide +kernel, by decide +kernel, by decide +kernel⟩
theorem k_law_choice : chkSs b_law_choice Γ_law_choice (defBody (topS 40)) = true := by decide +kernel
abbrev Γ_law_low : Gm := { N := n_law_low, sc := defScope (topS 41), fns := fns.take 30, cs := cs, cls := cls, rs := rs, lvl := 30 }
theorem s_law_low : FnScope n_law_low p_law_low (defScope (topS 41)) := ⟨by decide +kernel, by decide +kernel, by decide +kernel, by decide +kernel, by decide +kernel, by decide +kernel, by decide +kernel⟩
theorem k_law_low : chkSs b_law_low Γ_law_low (defBody (topS 41)) = true := by decide +kernel
abbrev Γ_law_house : Gm := { N := n_law_house, sc := defScope (topS 42), fns := fns.take 31, cs := cs, cls := cls, rs := rs, lvl := 31 }
theorem s_law_house : FnScope n_law_house p_law_house (defScope (topS 42)) := ⟨by decide +kernel, by decide +kernel, by decide +kernel, by decide +kernel, by decide +kernel, by decide +kernel, by decide +kernel⟩
theorem k_law_house : chkSs b_law_house Γ_law_house (defBody (topS 42)) = true := by decide +kernel
abbrev Γ_law_wishes : Gm := { N := n_law_wishes, sc := defScope (topS 43), fns := fns.take 32, cs := cs, cls := cls, rs := rs, lvl := 32 }
theorem s_law_wishes : FnScope n_law_wishes p_law_wishes (defScope (topS 43)) := ⟨by decide +kernel, by decide +kernel, by decide +kernel, by decide +kernel, by decide +kernel, by decide +kernel, by decide +kernel⟩
theorem k_law_wishes : chkSs b_law_wishes Γ_law_wishes (defBody (topS 43)) = true := by decide +kernel
abbrev Γ_law_row : Gm := { N := n_law_row, sc := defScope (topS 44), fns := fns.take 33, cs := cs, cls := cls, rs := rs, lvl := 33 }
theorem s_law_row : FnScope n_law_row p_law_row (defScope (topS 44)) := ⟨by decide +kernel, by decide +kernel, by decide +kernel, by decide +kernel, by decide +kernel, by decide +kernel, by decide +kernel⟩
theorem k_law_row : chkSs b_law_row Γ_law_row (defBody (topS 44)) = true := by decide +kernel
abbrev Γ_law_first : Gm := { N := n_law_first, sc := defScope (topS 45), fns := fns.take 34, cs := cs, cls := cls, rs := rs, lvl := 34 }
theorem s_law_first : FnScope n_law_first p_law_first (defScope (topS 45)) := ⟨by decide +kernel, by decide +kernel, by decide +kernel, by decide +kernel, by decide +kernel, by decide +kernel, by decide +kernel⟩
theorem k_law_first : chkSs b_law_first Γ_law_first (defBody (topS 45)) = true := by decide +kernel
abbrev Γ_law_whom : Gm := { N := n_law_whom, sc := defScope (topS 46), fns := fns.take 35, cs := cs, cls := cls, rs := rs, lvl := 35 }
theorem s_law_whom : FnScope n_law_whom p_law_whom (defScope (topS 46)) := ⟨by decide +kernel, by decide +kernel, by decide +kernel, by decide +kernel, by decide +kernel, by decide +kernel, by decide +kernel⟩
theorem k_law_whom : chkSs b_law_whom Γ_law_whom (defBody (topS 46)) = true := by decide +kernel
abbrev Γ_law_day : Gm := { N := n_law_day, sc := defScope (topS 47), fns := fns.take 36, cs := cs, cls := cls, rs := rs, lvl := 36 }
theorem s_law_day : FnScope n_law_day p_law_day (defScope (topS 47)) := ⟨by decide +kernel, by decide +kernel, by decide +kernel, by decide +kernel, by decide +kernel, by decide +kernel, by decide +kernel⟩
theorem k_law_day : chkSs b_law_day Γ_law_day (defBody (topS 47)) = true := by decide +kernel
abbrev Γ_law_led : Gm := { N := n_law_led, sc := defScope (topS 48), fns := fns.take 37, cs := cs, cls := cls, rs := rs, lvl := 37 }
theorem s_law_led : FnScope n_law_led p_law_led (defScope (topS 48)) := ⟨by decide +kernel, by decide +kernel, by decide +kernel, by decide +kernel, by decide +kernel, by decide +kernel, by decide +kernel⟩
theorem k_law_led : chkSs b_law_led Γ_law_led (defBody (topS 48)) = true := by decide +kernel
abbrev Γ_law_sum : Gm := { N := n_law_sum, sc := defScope (topS 49), fns := fns.take 38, cs := cs, cls := cls, rs := rs, lvl := 38 }
theorem s_law_sum : FnScope n_law_sum p_law_sum (defScope (topS 49)) := ⟨by decide +kernel, by decide +kernel, by decide +kernel, by decide +kernel, by decide +kernel, by decide +kernel, by decide +kernel⟩
theorem k_law_sum : chkSs b_law_sum Γ_law_sum (defBody (topS 49)) = true := by decide +kernel
abbrev Γ_law_refused : Gm := { N := n_law_refused, sc := defScope (topS 50), fns := fns.take 39, cs := cs, cls := cls, rs := rs, lvl := 39 }
theorem s_law_refused : FnScope n_law_refused p_law_refused (defScope (topS 50)) := ⟨by decide +kernel, by decide +kernel, by decide +kernel, by decide +kernel, by decide +kernel, by decide +kernel, by decide +kernel⟩
theorem k_law_refused : chkSs b_law_refused Γ_law_refused (defBody (topS 50)) = true := by decide +kernel
abbrev Γ_law : Gm := { N := n_law, sc := defScope (topS 51), fns := fns.take 40, cs := cs, cls := cls, rs := rs, lvl := 40 }
theorem s_law : FnScope n_law p_law (defScope (topS 51)) := ⟨by decide +kernel, by decide +kernel, by decide +kernel, by decide +kernel, by decide +kernel, by decide +kernel, by decide +kernel⟩
theorem k_law : chkSs b_law Γ_law (defBody (topS 51)) = true := by decide +kernel
abbrev tl_0 : List (Nat × Ss) := []
abbrev tl_1 : List (Nat × Ss) := (3, b_is_from) :: tl_0
abbrev tl_2 : List (Nat × Ss) := (3, b_is_tuple) :: tl_1
abbrev tl_3 : List (Nat × Ss) := (3, b_is_rule) :: tl_2
abbrev tl_4 : List (Nat × Ss) := (2, b_has_house) :: tl_3
abbrev tl_5 : List (Nat × Ss) := (1, b_need_house) :: tl_4
abbrev tl_6 : List (Nat × Ss) := (3, b_rises) :: tl_5
abbrev tl_7 : List (Nat × Ss) := (4, b_is_wish) :: tl_6
abbrev tl_8 : List (Nat × Ss) := (3, b_has_row) :: tl_7
abbrev tl_9 : List (Nat × Ss) := (2, b_need_row) :: tl_8
abbrev tl_10 : List (Nat × Ss) := (4, b_all_wishes) :: tl_9
abbrev tl_11 : List (Nat × Ss) := (3, b_first_standing) :: tl_10
abbrev tl_12 : List (Nat × Ss) := (5, b_who_may) :: tl_11
abbrev tl_13 : List (Nat × Ss) := (5, b_with_dues) :: tl_12
abbrev tl_14 : List (Nat × Ss) := (3, b_sum_of) :: tl_13
abbrev tl_15 : List (Nat × Ss) := (2, b_cut_off) :: tl_14
abbrev tl_16 : List (Nat × Ss) := (8, b_picked) :: tl_15
abbrev tl_17 : List (Nat × Ss) := (11, b_book_behind) :: tl_16
abbrev tl_18 : List (Nat × Ss) := (4, b_run_behind) :: tl_17
abbrev tl_19 : List (Nat × Ss) := (6, b_day_behind) :: tl_18
abbrev tl_20 : List (Nat × Ss) := (6, b_led) :: tl_19
abbrev tl_21 : List (Nat × Ss) := (4, b_share) :: tl_20
abbrev tl_22 : List (Nat × Ss) := (4, b_common) :: tl_21
abbrev tl_23 : List (Nat × Ss) := (3, b_parts_of) :: tl_22
abbrev tl_24 : List (Nat × Ss) := (4, b_due_parts) :: tl_23
abbrev tl_25 : List (Nat × Ss) := (5, b_change_of) :: tl_24
abbrev tl_26 : List (Nat × Ss) := (9, b_balances_of) :: tl_25
abbrev tl_27 : List (Nat × Ss) := (4, b_balances) :: tl_26
abbrev tl_28 : List (Nat × Ss) := (3, b_law_source) :: tl_27
abbrev tl_29 : List (Nat × Ss) := (4, b_law_draw) :: tl_28
abbrev tl_30 : List (Nat × Ss) := (2, b_law_choice) :: tl_29
abbrev tl_31 : List (Nat × Ss) := (4, b_law_low) :: tl_30
abbrev tl_32 : List (Nat × Ss) := (7, b_law_house) :: tl_31
abbrev tl_33 : List (Nat × Ss) := (4, b_law_wishes) :: tl_32
abbrev tl_34 : List (Nat × Ss) := (5, b_law_row) :: tl_33
abbrev tl_35 : List (Nat × Ss) := (3, b_law_first) :: tl_34
abbrev tl_36 : List (Nat × Ss) := (12, b_law_whom) :: tl_35
abbrev tl_37 : List (Nat × Ss) := (11, b_law_day) :: tl_36
abbrev tl_38 : List (Nat × Ss) := (6, b_law_led) :: tl_37
abbrev tl_39 : List (Nat × Ss) := (12, b_law_sum) :: tl_38
abbrev tl_40 : List (Nat × Ss) := (2, b_law_refused) :: tl_39
abbrev tl_41 : List (Nat × Ss) := (14, b_law) :: tl_40
def fu : Nat := 1000
abbrev cc (n : List (Nat × Ss)) : Call := cfL sub fu n
end LawT
namespace LawT
open PySem PySem.Spec PyProof.Rows L2 EV
theorem all_mk {l : PySem.W.OpenLaw} {w : World} {K : PySem.W.Frag} {h : Heap} {mg : Str → Option Value} {fa : Addr} (X : K.In h) (G : h.Ns mainGlobals mg) (hfa : mg "law" = some (.ref fa))
  {f0 : Addr} {od0 an0 : Option Addr} {sl0 : Array (Option Value)} {oc0 kV0 dc0 pm0 cd0 ct0 : Value}
  (a0 : PySem.W.nsIn K mainGlobals "is_from" = some (some (.ref f0))) (l0 : K.lookup f0 = some ⟨oc0, od0, .func (PySem.W.fnOf "is_from" "is_from" (defArgs (topS 8)) (defBody (topS 8)) (defScope (topS 8)) .none kV0 dc0 pm0 an0 cd0 ct0), sl0⟩) (c0 : PySem.W.codeIn K cd0 "is_from" = true) (k0 : PySem.W.keepIn K (.ref f0) = true)
  {f1 : Addr} {od1 an1 : Option Addr} {sl1 : Array (Option Value)} {oc1 kV1 dc1 pm1 cd1 ct1 : Value}
  (a1 : PySem.W.nsIn K mainGlobals "is_tuple" = some (some (.ref f1))) (l1 : K.lookup f1 = some ⟨oc1, od1, .func (PySem.W.fnOf "is_tuple" "is_tuple" (defArgs (topS 9)) (defBody (topS 9)) (defScope (topS 9)) .none kV1 dc1 pm1 an1 cd1 ct1), sl1⟩) (c1 : PySem.W.codeIn K cd1 "is_tuple" = true) (k1 : PySem.W.keepIn K (.ref f1) = true)
  {f2 : Addr} {od2 an2 : Option Addr} {sl2 : Array (Option Value)} {oc2 kV2 dc2 pm2 cd2 ct2 : Value}
  (a2 : PySem.W.nsIn K mainGlobals "is_rule" = some (some (.ref f2))) (l2 : K.lookup f2 = some ⟨oc2, od2, .func (PySem.W.fnOf "is_rule" "is_rule" (defArgs (topS 10)) (defBody (topS 10)) (defScope (topS 10)) .none kV2 dc2 pm2 an2 cd2 ct2), sl2⟩) (c2 : PySem.W.codeIn K cd2 "is_rule" = true) (k2 : PySem.W.keepIn K (.ref f2) = true)
  {f3 : Addr} {od3 an3 : Option Addr} {sl3 : Array (Option Value)} {oc3 kV3 dc3 pm3 cd3 ct3 : Value}
  (a3 : PySem.W.nsIn K mainGlobals "has_house" = some (some (.ref f3))) (l3 : K.lookup f3 = some ⟨oc3, od3, .func (PySem.W.fnOf "has_house" "has_house" (defArgs (topS 11)) (defBody (topS 11)) (defScope (topS 11)) .none kV3 dc3 pm3 an3 cd3 ct3), sl3⟩) (c3 : PySem.W.codeIn K cd3 "has_house" = true) (k3 : PySem.W.keepIn K (.ref f3) = true)
  {f4 : Addr} {od4 an4 : Option Addr} {sl4 : Array (Option Value)} {oc4 kV4 dc4 pm4 cd4 ct4 : Value}
  (a4 : PySem.W.nsIn K mainGlobals "need_house" = some (some (.ref f4))) (l4 : K.lookup f4 = some ⟨oc4, od4, .func (PySem.W.fnOf "need_house" "need_house" (defArgs (topS 12)) (defBody (topS 12)) (defScope (topS 12)) .none kV4 dc4 pm4 an4 cd4 ct4), sl4⟩) (c4 : PySem.W.codeIn K cd4 "need_house" = true) (k4 : PySem.W.keepIn K (.ref f4) = true)
  {f5 : Addr} {od5 an5 : Option Addr} {sl5 : Array (Option Value)} {oc5 kV5 dc5 pm5 cd5 ct5 : Value}
  (a5 : PySem.W.nsIn K mainGlobals "rises" = some (some (.ref f5))) (l5 : K.lookup f5 = some ⟨oc5, od5, .func (PySem.W.fnOf "rises" "rises" (defArgs (topS 13)) (defBody (topS 13)) (defScope (topS 13)) .none kV5 dc5 pm5 an5 cd5 ct5), sl5⟩) (c5 : PySem.W.codeIn K cd5 "rises" = true) (k5 : PySem.W.keepIn K (.ref f5) = true)
  {f6 : Addr} {od6 an6 : Option Addr} {sl6 : Array (Option Value)} {oc6 kV6 dc6 pm6 cd6 ct6 : Value}
  (a6 : PySem.W.nsIn K mainGlobals "is_wish" = some (some (.ref f6))) (l6 : K.lookup f6 = some ⟨oc6, od6, .func (PySem.W.fnOf "is_wish" "is_wish" (defArgs (topS 14)) (defBody (topS 14)) (defScope (topS 14)) .none kV6 dc6 pm6 an6 cd6 ct6), sl6⟩) (c6 : PySem.W.codeIn K cd6 "is_wish" = true) (k6 : PySem.W.keepIn K (.ref f6) = true)
  {f7 : Addr} {od7 an7 : Option Addr} {sl7 : Array (Option Value)} {oc7 kV7 dc7 pm7 cd7 ct7 : Value}
  (a7 : PySem.W.nsIn K mainGlobals "has_row" = some (some (.ref f7))) (l7 : K.lookup f7 = some ⟨oc7, od7, .func (PySem.W.fnOf "has_row" "has_row" (defArgs (topS 15)) (defBody (topS 15)) (defScope (topS 15)) .none kV7 dc7 pm7 an7 cd7 ct7), sl7⟩) (c7 : PySem.W.codeIn K cd7 "has_row" = true) (k7 : PySem.W.keepIn K (.ref f7) = true)
  {f8 : Addr} {od8 an8 : Option Addr} {sl8 : Array (Option Value)} {oc8 kV8 dc8 pm8 cd8 ct8 : Value}
  (a8 : PySem.W.nsIn K mainGlobals "need_row" = some (some (.ref f8))) (l8 : K.lookup f8 = some ⟨oc8, od8, .func (PySem.W.fnOf "need_row" "need_row" (defArgs (topS 16)) (defBody (topS 16)) (defScope (topS 16)) .none kV8 dc8 pm8 an8 cd8 ct8), sl8⟩) (c8 : PySem.W.codeIn K cd8 "need_row" = true) (k8 : PySem.W.keepIn K (.ref f8) = true)
  {f9 : Addr} {od9 an9 : Option Addr} {sl9 : Array (Option Value)} {oc9 kV9 dc9 pm9 cd9 ct9 : Value}
  (a9 : PySem.W.nsIn K mainGlobals "all_wishes" = some (some (.ref f9))) (l9 : K.lookup f9 = some ⟨oc9, od9, .func (PySem.W.fnOf "all_wishes" "all_wishes" (defArgs (topS 17)) (defBody (topS 17)) (defScope (topS 17)) .none kV9 dc9 pm9 an9 cd9 ct9), sl9⟩) (c9 : PySem.W.codeIn K cd9 "all_wishes" = true) (k9 : PySem.W.keepIn K (.ref f9) = true)
  {f10 : Addr} {od10 an10 : Option Addr} {sl10 : Array (Option Value)} {oc10 kV10 dc10 pm10 cd10 ct10 : Value}
  (a10 : PySem.W.nsIn K mainGlobals "first_standing" = some (some (.ref f10))) (l10 : K.lookup f10 = some ⟨oc10, od10, .func (PySem.W.fnOf "first_standing" "first_standing" (defArgs (topS 19)) (defBody (topS 19)) (defScope (topS 19)) .none kV10 dc10 pm10 an10 cd10 ct10), sl10⟩) (c10 : PySem.W.codeIn K cd10 "first_standing" = true) (k10 : PySem.W.keepIn K (.ref f10) = true)
  {f11 : Addr} {od11 an11 : Option Addr} {sl11 : Array (Option Value)} {oc11 kV11 dc11 pm11 cd11 ct11 : Value}
  (a11 : PySem.W.nsIn K mainGlobals "who_may" = some (some (.ref f11))) (l11 : K.lookup f11 = some ⟨oc11, od11, .func (PySem.W.fnOf "who_may" "who_may" (defArgs (topS 20)) (defBody (topS 20)) (defScope (topS 20)) .none kV11 dc11 pm11 an11 cd11 ct11), sl11⟩) (c11 : PySem.W.codeIn K cd11 "who_may" = true) (k11 : PySem.W.keepIn K (.ref f11) = true)
  {f12 : Addr} {od12 an12 : Option Addr} {sl12 : Array (Option Value)} {oc12 kV12 dc12 pm12 cd12 ct12 : Value}
  (a12 : PySem.W.nsIn K mainGlobals "with_dues" = some (some (.ref f12))) (l12 : K.lookup f12 = some ⟨oc12, od12, .func (PySem.W.fnOf "with_dues" "with_dues" (defArgs (topS 21)) (defBody (topS 21)) (defScope (topS 21)) .none kV12 dc12 pm12 an12 cd12 ct12), sl12⟩) (c12 : PySem.W.codeIn K cd12 "with_dues" = true) (k12 : PySem.W.keepIn K (.ref f12) = true)
  {f13 : Addr} {od13 an13 : Option Addr} {sl13 : Array (Option Value)} {oc13 kV13 dc13 pm13 cd13 ct13 : Value}
  (a13 : PySem.W.nsIn K mainGlobals "sum_of" = some (some (.ref f13))) (l13 : K.lookup f13 = some ⟨oc13, od13, .func (PySem.W.fnOf "sum_of" "sum_of" (defArgs (topS 22)) (defBody (topS 22)) (defScope (topS 22)) .none kV13 dc13 pm13 an13 cd13 ct13), sl13⟩) (c13 : PySem.W.codeIn K cd13 "sum_of" = true) (k13 : PySem.W.keepIn K (.ref f13) = true)
  {f14 : Addr} {od14 an14 : Option Addr} {sl14 : Array (Option Value)} {oc14 kV14 dc14 pm14 cd14 ct14 : Value}
  (a14 : PySem.W.nsIn K mainGlobals "cut_off" = some (some (.ref f14))) (l14 : K.lookup f14 = some ⟨oc14, od14, .func (PySem.W.fnOf "cut_off" "cut_off" (defArgs (topS 23)) (defBody (topS 23)) (defScope (topS 23)) .none kV14 dc14 pm14 an14 cd14 ct14), sl14⟩) (c14 : PySem.W.codeIn K cd14 "cut_off" = true) (k14 : PySem.W.keepIn K (.ref f14) = true)
  {f15 : Addr} {od15 an15 : Option Addr} {sl15 : Array (Option Value)} {oc15 kV15 dc15 pm15 cd15 ct15 : Value}
  (a15 : PySem.W.nsIn K mainGlobals "picked" = some (some (.ref f15))) (l15 : K.lookup f15 = some ⟨oc15, od15, .func (PySem.W.fnOf "picked" "picked" (defArgs (topS 24)) (defBody (topS 24)) (defScope (topS 24)) .none kV15 dc15 pm15 an15 cd15 ct15), sl15⟩) (c15 : PySem.W.codeIn K cd15 "picked" = true) (k15 : PySem.W.keepIn K (.ref f15) = true)
  {f16 : Addr} {od16 an16 : Option Addr} {sl16 : Array (Option Value)} {oc16 kV16 dc16 pm16 cd16 ct16 : Value}
  (a16 : PySem.W.nsIn K mainGlobals "book_behind" = some (some (.ref f16))) (l16 : K.lookup f16 = some ⟨oc16, od16, .func (PySem.W.fnOf "book_behind" "book_behind" (defArgs (topS 25)) (defBody (topS 25)) (defScope (topS 25)) .none kV16 dc16 pm16 an16 cd16 ct16), sl16⟩) (c16 : PySem.W.codeIn K cd16 "book_behind" = true) (k16 : PySem.W.keepIn K (.ref f16) = true)
  {f17 : Addr} {od17 an17 : Option Addr} {sl17 : Array (Option Value)} {oc17 kV17 dc17 pm17 cd17 ct17 : Value}
  (a17 : PySem.W.nsIn K mainGlobals "run_behind" = some (some (.ref f17))) (l17 : K.lookup f17 = some ⟨oc17, od17, .func (PySem.W.fnOf "run_behind" "run_behind" (defArgs (topS 26)) (defBody (topS 26)) (defScope (topS 26)) .none kV17 dc17 pm17 an17 cd17 ct17), sl17⟩) (c17 : PySem.W.codeIn K cd17 "run_behind" = true) (k17 : PySem.W.keepIn K (.ref f17) = true)
  {f18 : Addr} {od18 an18 : Option Addr} {sl18 : Array (Option Value)} {oc18 kV18 dc18 pm18 cd18 ct18 : Value}
  (a18 : PySem.W.nsIn K mainGlobals "day_behind" = some (some (.ref f18))) (l18 : K.lookup f18 = some ⟨oc18, od18, .func (PySem.W.fnOf "day_behind" "day_behind" (defArgs (topS 27)) (defBody (topS 27)) (defScope (topS 27)) .none kV18 dc18 pm18 an18 cd18 ct18), sl18⟩) (c18 : PySem.W.codeIn K cd18 "day_behind" = true) (k18 : PySem.W.keepIn K (.ref f18) = true)
  {f19 : Addr} {od19 an19 : Option Addr} {sl19 : Array (Option Value)} {oc19 kV19 dc19 pm19 cd19 ct19 : Value}
  (a19 : PySem.W.nsIn K mainGlobals "led" = some (some (.ref f19))) (l19 : K.lookup f19 = some ⟨oc19, od19, .func (PySem.W.fnOf "led" "led" (defArgs (topS 28)) (defBody (topS 28)) (defScope (topS 28)) .none kV19 dc19 pm19 an19 cd19 ct19), sl19⟩) (c19 : PySem.W.codeIn K cd19 "led" = true) (k19 : PySem.W.keepIn K (.ref f19) = true)
  {f20 : Addr} {od20 an20 : Option Addr} {sl20 : Array (Option Value)} {oc20 kV20 dc20 pm20 cd20 ct20 : Value}
  (a20 : PySem.W.nsIn K mainGlobals "share" = some (some (.ref f20))) (l20 : K.lookup f20 = some ⟨oc20, od20, .func (PySem.W.fnOf "share" "share" (defArgs (topS 30)) (defBody (topS 30)) (defScope (topS 30)) .none kV20 dc20 pm20 an20 cd20 ct20), sl20⟩) (c20 : PySem.W.codeIn K cd20 "share" = true) (k20 : PySem.W.keepIn K (.ref f20) = true)
  {f21 : Addr} {od21 an21 : Option Addr} {sl21 : Array (Option Value)} {oc21 kV21 dc21 pm21 cd21 ct21 : Value}
  (a21 : PySem.W.nsIn K mainGlobals "common" = some (some (.ref f21))) (l21 : K.lookup f21 = some ⟨oc21, od21, .func (PySem.W.fnOf "common" "common" (defArgs (topS 31)) (defBody (topS 31)) (defScope (topS 31)) .none kV21 dc21 pm21 an21 cd21 ct21), sl21⟩) (c21 : PySem.W.codeIn K cd21 "common" = true) (k21 : PySem.W.keepIn K (.ref f21) = true)
  {f22 : Addr} {od22 an22 : Option Addr} {sl22 : Array (Option Value)} {oc22 kV22 dc22 pm22 cd22 ct22 : Value}
  (a22 : PySem.W.nsIn K mainGlobals "parts_of" = some (some (.ref f22))) (l22 : K.lookup f22 = some ⟨oc22, od22, .func (PySem.W.fnOf "parts_of" "parts_of" (defArgs (topS 32)) (defBody (topS 32)) (defScope (topS 32)) .none kV22 dc22 pm22 an22 cd22 ct22), sl22⟩) (c22 : PySem.W.codeIn K cd22 "parts_of" = true) (k22 : PySem.W.keepIn K (.ref f22) = true)
  {f23 : Addr} {od23 an23 : Option Addr} {sl23 : Array (Option Value)} {oc23 kV23 dc23 pm23 cd23 ct23 : Value}
  (a23 : PySem.W.nsIn K mainGlobals "due_parts" = some (some (.ref f23))) (l23 : K.lookup f23 = some ⟨oc23, od23, .func (PySem.W.fnOf "due_parts" "due_parts" (defArgs (topS 33)) (defBody (topS 33)) (defScope (topS 33)) .none kV23 dc23 pm23 an23 cd23 ct23), sl23⟩) (c23 : PySem.W.codeIn K cd23 "due_parts" = true) (k23 : PySem.W.keepIn K (.ref f23) = true)
  {f24 : Addr} {od24 an24 : Option Addr} {sl24 : Array (Option Value)} {oc24 kV24 dc24 pm24 cd24 ct24 : Value}
  (a24 : PySem.W.nsIn K mainGlobals "change_of" = some (some (.ref f24))) (l24 : K.lookup f24 = some ⟨oc24, od24, .func (PySem.W.fnOf "change_of" "change_of" (defArgs (topS 34)) (defBody (topS 34)) (defScope (topS 34)) .none kV24 dc24 pm24 an24 cd24 ct24), sl24⟩) (c24 : PySem.W.codeIn K cd24 "change_of" = true) (k24 : PySem.W.keepIn K (.ref f24) = true)
  {f25 : Addr} {od25 an25 : Option Addr} {sl25 : Array (Option Value)} {oc25 kV25 dc25 pm25 cd25 ct25 : Value}
  (a25 : PySem.W.nsIn K mainGlobals "balances_of" = some (some (.ref f25))) (l25 : K.lookup f25 = some ⟨oc25, od25, .func (PySem.W.fnOf "balances_of" "balances_of" (defArgs (topS 35)) (defBody (topS 35)) (defScope (topS 35)) .none kV25 dc25 pm25 an25 cd25 ct25), sl25⟩) (c25 : PySem.W.codeIn K cd25 "balances_of" = true) (k25 : PySem.W.keepIn K (.ref f25) = true)
  {f26 : Addr} {od26 an26 : Option Addr} {sl26 : Array (Option Value)} {oc26 kV26 dc26 pm26 cd26 ct26 : Value}
  (a26 : PySem.W.nsIn K mainGlobals "balances" = some (some (.ref f26))) (l26 : K.lookup f26 = some ⟨oc26, od26, .func (PySem.W.fnOf "balances" "balances" (defArgs (topS 36)) (defBody (topS 36)) (defScope (topS 36)) .none kV26 dc26 pm26 an26 cd26 ct26), sl26⟩) (c26 : PySem.W.codeIn K cd26 "balances" = true) (k26 : PySem.W.keepIn K (.ref f26) = true)
  {f27 : Addr} {od27 an27 : Option Addr} {sl27 : Array (Option Value)} {oc27 kV27 dc27 pm27 cd27 ct27 : Value}
  (a27 : PySem.W.nsIn K mainGlobals "_law_source" = some (some (.ref f27))) (l27 : K.lookup f27 = some ⟨oc27, od27, .func (PySem.W.fnOf "_law_source" "_law_source" (defArgs (topS 38)) (defBody (topS 38)) (defScope (topS 38)) .none kV27 dc27 pm27 an27 cd27 ct27), sl27⟩) (c27 : PySem.W.codeIn K cd27 "_law_source" = true) (k27 : PySem.W.keepIn K (.ref f27) = true)
  {f28 : Addr} {od28 an28 : Option Addr} {sl28 : Array (Option Value)} {oc28 kV28 dc28 pm28 cd28 ct28 : Value}
  (a28 : PySem.W.nsIn K mainGlobals "_law_draw" = some (some (.ref f28))) (l28 : K.lookup f28 = some ⟨oc28, od28, .func (PySem.W.fnOf "_law_draw" "_law_draw" (defArgs (topS 39)) (defBody (topS 39)) (defScope (topS 39)) .none kV28 dc28 pm28 an28 cd28 ct28), sl28⟩) (c28 : PySem.W.codeIn K cd28 "_law_draw" = true) (k28 : PySem.W.keepIn K (.ref f28) = true)
  {f29 : Addr} {od29 an29 : Option Addr} {sl29 : Array (Option Value)} {oc29 kV29 dc29 pm29 cd29 ct29 : Value}
  (a29 : PySem.W.nsIn K mainGlobals "_law_choice" = some (some (.ref f29))) (l29 : K.lookup f29 = some ⟨oc29, od29, .func (PySem.W.fnOf "_law_choice" "_law_choice" (defArgs (topS 40)) (defBody (topS 40)) (defScope (topS 40)) .none kV29 dc29 pm29 an29 cd29 ct29), sl29⟩) (c29 : PySem.W.codeIn K cd29 "_law_choice" = true) (k29 : PySem.W.keepIn K (.ref f29) = true)
  {f30 : Addr} {od30 an30 : Option Addr} {sl30 : Array (Option Value)} {oc30 kV30 dc30 pm30 cd30 ct30 : Value}
  (a30 : PySem.W.nsIn K mainGlobals "_law_low" = some (some (.ref f30))) (l30 : K.lookup f30 = some ⟨oc30, od30, .func (PySem.W.fnOf "_law_low" "_law_low" (defArgs (topS 41)) (defBody (topS 41)) (defScope (topS 41)) .none kV30 dc30 pm30 an30 cd30 ct30), sl30⟩) (c30 : PySem.W.codeIn K cd30 "_law_low" = true) (k30 : PySem.W.keepIn K (.ref f30) = true)
  {f31 : Addr} {od31 an31 : Option Addr} {sl31 : Array (Option Value)} {oc31 kV31 dc31 pm31 cd31 ct31 : Value}
  (a31 : PySem.W.nsIn K mainGlobals "_law_house" = some (some (.ref f31))) (l31 : K.lookup f31 = some ⟨oc31, od31, .func (PySem.W.fnOf "_law_house" "_law_house" (defArgs (topS 42)) (defBody (topS 42)) (defScope (topS 42)) .none kV31 dc31 pm31 an31 cd31 ct31), sl31⟩) (c31 : PySem.W.codeIn K cd31 "_law_house" = true) (k31 : PySem.W.keepIn K (.ref f31) = true)
  {f32 : Addr} {od32 an32 : Option Addr} {sl32 : Array (Option Value)} {oc32 kV32 dc32 pm32 cd32 ct32 : Value}
  (a32 : PySem.W.nsIn K mainGlobals "_law_wishes" = some (some (.ref f32))) (l32 : K.lookup f32 = some ⟨oc32, od32, .func (PySem.W.fnOf "_law_wishes" "_law_wishes" (defArgs (topS 43)) (defBody (topS 43)) (defScope (topS 43)) .none kV32 dc32 pm32 an32 cd32 ct32), sl32⟩) (c32 : PySem.W.codeIn K cd32 "_law_wishes" = true) (k32 : PySem.W.keepIn K (.ref f32) = true)
  {f33 : Addr} {od33 an33 : Option Addr} {sl33 : Array (Option Value)} {oc33 kV33 dc33 pm33 cd33 ct33 : Value}
  (a33 : PySem.W.nsIn K mainGlobals "_law_row" = some (some (.ref f33))) (l33 : K.lookup f33 = some ⟨oc33, od33, .func (PySem.W.fnOf "_law_row" "_law_row" (defArgs (topS 44)) (defBody (topS 44)) (defScope (topS 44)) .none kV33 dc33 pm33 an33 cd33 ct33), sl33⟩) (c33 : PySem.W.codeIn K cd33 "_law_row" = true) (k33 : PySem.W.keepIn K (.ref f33) = true)
  {f34 : Addr} {od34 an34 : Option Addr} {sl34 : Array (Option Value)} {oc34 kV34 dc34 pm34 cd34 ct34 : Value}
  (a34 : PySem.W.nsIn K mainGlobals "_law_first" = some (some (.ref f34))) (l34 : K.lookup f34 = some ⟨oc34, od34, .func (PySem.W.fnOf "_law_first" "_law_first" (defArgs (topS 45)) (defBody (topS 45)) (defScope (topS 45)) .none kV34 dc34 pm34 an34 cd34 ct34), sl34⟩) (c34 : PySem.W.codeIn K cd34 "_law_first" = true) (k34 : PySem.W.keepIn K (.ref f34) = true)
  {f35 : Addr} {od35 an35 : Option Addr} {sl35 : Array (Option Value)} {oc35 kV35 dc35 pm35 cd35 ct35 : Value}
  (a35 : PySem.W.nsIn K mainGlobals "_law_whom" = some (some (.ref f35))) (l35 : K.lookup f35 = some ⟨oc35, od35, .func (PySem.W.fnOf "_law_whom" "_law_whom" (defArgs (topS 46)) (defBody (topS 46)) (defScope (topS 46)) .none kV35 dc35 pm35 an35 cd35 ct35), sl35⟩) (c35 : PySem.W.codeIn K cd35 "_law_whom" = true) (k35 : PySem.W.keepIn K (.ref f35) = true)
  {f36 : Addr} {od36 an36 : Option Addr} {sl36 : Array (Option Value)} {oc36 kV36 dc36 pm36 cd36 ct36 : Value}
  (a36 : PySem.W.nsIn K mainGlobals "_law_day" = some (some (.ref f36))) (l36 : K.lookup f36 = some ⟨oc36, od36, .func (PySem.W.fnOf "_law_day" "_law_day" (defArgs (topS 47)) (defBody (topS 47)) (defScope (topS 47)) .none kV36 dc36 pm36 an36 cd36 ct36), sl36⟩) (c36 : PySem.W.codeIn K cd36 "_law_day" = true) (k36 : PySem.W.keepIn K (.ref f36) = true)
  {f37 : Addr} {od37 an37 : Option Addr} {sl37 : Array (Option Value)} {oc37 kV37 dc37 pm37 cd37 ct37 : Value}
  (a37 : PySem.W.nsIn K mainGlobals "_law_led" = some (some (.ref f37))) (l37 : K.lookup f37 = some ⟨oc37, od37, .func (PySem.W.fnOf "_law_led" "_law_led" (defArgs (topS 48)) (defBody (topS 48)) (defScope (topS 48)) .none kV37 dc37 pm37 an37 cd37 ct37), sl37⟩) (c37 : PySem.W.codeIn K cd37 "_law_led" = true) (k37 : PySem.W.keepIn K (.ref f37) = true)
  {f38 : Addr} {od38 an38 : Option Addr} {sl38 : Array (Option Value)} {oc38 kV38 dc38 pm38 cd38 ct38 : Value}
  (a38 : PySem.W.nsIn K mainGlobals "_law_sum" = some (some (.ref f38))) (l38 : K.lookup f38 = some ⟨oc38, od38, .func (PySem.W.fnOf "_law_sum" "_law_sum" (defArgs (topS 49)) (defBody (topS 49)) (defScope (topS 49)) .none kV38 dc38 pm38 an38 cd38 ct38), sl38⟩) (c38 : PySem.W.codeIn K cd38 "_law_sum" = true) (k38 : PySem.W.keepIn K (.ref f38) = true)
  {f39 : Addr} {od39 an39 : Option Addr} {sl39 : Array (Option Value)} {oc39 kV39 dc39 pm39 cd39 ct39 : Value}
  (a39 : PySem.W.nsIn K mainGlobals "_law_refused" = some (some (.ref f39))) (l39 : K.lookup f39 = some ⟨oc39, od39, .func (PySem.W.fnOf "_law_refused" "_law_refused" (defArgs (topS 50)) (defBody (topS 50)) (defScope (topS 50)) .none kV39 dc39 pm39 an39 cd39 ct39), sl39⟩) (c39 : PySem.W.codeIn K cd39 "_law_refused" = true) (k39 : PySem.W.keepIn K (.ref f39) = true)
  {f40 : Addr} {od40 an40 : Option Addr} {sl40 : Array (Option Value)} {oc40 kV40 dc40 pm40 cd40 ct40 : Value}
  (a40 : PySem.W.nsIn K mainGlobals "law" = some (some (.ref f40))) (l40 : K.lookup f40 = some ⟨oc40, od40, .func (PySem.W.fnOf "law" "law" (defArgs (topS 51)) (defBody (topS 51)) (defScope (topS 51)) .none kV40 dc40 pm40 an40 cd40 ct40), sl40⟩) (c40 : PySem.W.codeIn K cd40 "law" = true) (k40 : PySem.W.keepIn K (.ref f40) = true)
  {g0 : Addr} (ga0 : PySem.W.nsIn K mainGlobals "InvalidHouse" = some (some (.ref g0))) (gk0 : PySem.W.keepIn K (.ref g0) = true) (gb0 : PySem.W.subIn K (.ref g0) (.type "BaseException") = some true) (gi0 : PySem.W.isClsIn K g0 = true) (gt0 : PySem.W.typeIn K (.ref g0) = some (.type "type"))
  (gx0 : PySem.W.excIn K g0 [.type "ValueError", .type "Exception", .type "BaseException", .type "object"] "ValueError.__new__" = true)
  {g1 : Addr} (ga1 : PySem.W.nsIn K mainGlobals "InvalidRow" = some (some (.ref g1))) (gk1 : PySem.W.keepIn K (.ref g1) = true) (gb1 : PySem.W.subIn K (.ref g1) (.type "BaseException") = some true) (gi1 : PySem.W.isClsIn K g1 = true) (gt1 : PySem.W.typeIn K (.ref g1) = some (.type "type"))
  (gx1 : PySem.W.excIn K g1 [.type "ValueError", .type "Exception", .type "BaseException", .type "object"] "ValueError.__new__" = true)
  (gs0_0 : PySem.W.subIn K (.ref g0) (.ref g0) = some true)
  (gs0_1 : PySem.W.subIn K (.ref g0) (.ref g1) = some false)
  (gs1_0 : PySem.W.subIn K (.ref g1) (.ref g0) = some false)
  (gs1_1 : PySem.W.subIn K (.ref g1) (.ref g1) = some true)
  (z_len : PySem.W.nsIn K mainGlobals "len" = some none)
  (z_abs : PySem.W.nsIn K mainGlobals "abs" = some none)
  (z_int : PySem.W.nsIn K mainGlobals "int" = some none)
  (z_sum : PySem.W.nsIn K mainGlobals "sum" = some none)
  (z_min : PySem.W.nsIn K mainGlobals "min" = some none)
  (z_max : PySem.W.nsIn K mainGlobals "max" = some none)
  (z_all : PySem.W.nsIn K mainGlobals "all" = some none)
  (z_tuple : PySem.W.nsIn K mainGlobals "tuple" = some none)
  (z_list : PySem.W.nsIn K mainGlobals "list" = some none)
  (z_sorted : PySem.W.nsIn K mainGlobals "sorted" = some none)
  (z_set : PySem.W.nsIn K mainGlobals "set" = some none)
  (z_isinstance : PySem.W.nsIn K mainGlobals "isinstance" = some none)
  (z_range : PySem.W.nsIn K mainGlobals "range" = some none)
  (z_enumerate : PySem.W.nsIn K mainGlobals "enumerate" = some none)
  (z_zip : PySem.W.nsIn K mainGlobals "zip" = some none)
  (z_str : PySem.W.nsIn K mainGlobals "str" = some none)
  (z_bool : PySem.W.nsIn K mainGlobals "bool" = some none)
  {u0 : Addr} {uo0 : Option Addr} {ui0 : Array Value} {un0 : Nat} {us0 : Array (Option Value)} (ua0 : PySem.W.nsIn K mainGlobals "KINDS" = some (some (.ref u0))) (ul0 : K.lookup u0 = some ⟨.type "tuple", uo0, .seq ui0 un0, us0⟩) (uz0 : decide (ui0.size ≤ 1000) = true) (uc0 : litsB ui0.toList [.str "first", .str "points", .str "turns"] = true)
  {u1 : Value} (ua1 : PySem.W.nsIn K mainGlobals "MOST_MARK" = some (some u1)) (uc1 : litB u1 (.int 3) = true)
  {u2 : Value} (ua2 : PySem.W.nsIn K mainGlobals "MOST_DAYS" = some (some u2)) (uc2 : litB u2 (.int 100) = true)
  : ∃ fd : FuncData, (∀ (s : Shared) (v : Value), BindsTo s fd ⟨[v], []⟩ [("script", v)]) ∧ ∀ base : Heap, K.In base → base.Ns mainGlobals mg → FnOk l.prog w K mg base (L2.CX l.prog w) 41 fa fd ["script"] (spLaw K (cc tl_41 40)) := by
  have e := hfa.symm.trans (PySem.W.mg_of X G a40)
  cases e
  have kn : Kn { fa := fun k => ([f0, f1, f2, f3, f4, f5, f6, f7, f8, f9, f10, f11, f12, f13, f14, f15, f16, f17, f18, f19, f20, f21, f22, f23, f24, f25, f26, f27, f28, f29, f30, f31, f32, f33, f34, f35, f36, f37, f38, f39, fa] : List Addr).getD k 0, ca := fun k => ([g0, g1] : List Addr).getD k g0, xa := fun _ => "" } sub cs cls rs K mg := by
    refine ⟨fun x hx => ?_, fun x d hx => ?_, fun k x hx => ?_, fun k hx => ?_, fun c k hx => ?_⟩
    · simp only [bnames, List.mem_cons, List.not_mem_nil, or_false] at hx
      rcases hx with rfl | rfl | rfl | rfl | rfl | rfl | rfl | rfl | rfl | rfl | rfl | rfl | rfl | rfl | rfl | rfl | rfl
      · exact PySem.W.mg_none_of X G z_len
      · exact PySem.W.mg_none_of X G z_abs
      · exact PySem.W.mg_none_of X G z_int
      · exact PySem.W.mg_none_of X G z_sum
      · exact PySem.W.mg_none_of X G z_min
      · exact PySem.W.mg_none_of X G z_max
      · exact PySem.W.mg_none_of X G z_all
      · exact PySem.W.mg_none_of X G z_tuple
      · exact PySem.W.mg_none_of X G z_list
      · exact PySem.W.mg_none_of X G z_sorted
      · exact PySem.W.mg_none_of X G z_set
      · exact PySem.W.mg_none_of X G z_isinstance
      · exact PySem.W.mg_none_of X G z_range
      · exact PySem.W.mg_none_of X G z_enumerate
      · exact PySem.W.mg_none_of X G z_zip
      · exact PySem.W.mg_none_of X G z_str
      · exact PySem.W.mg_none_of X G z_bool
    · unfold cs at hx
      rw [List.lookup_cons] at hx
      split at hx
      · rename_i hb
        obtain rfl := eq_of_beq hb
        cases hx
        exact cst_tup X G ua0 ul0 uz0 uc0
      rw [List.lookup_cons] at hx
      split at hx
      · rename_i hb
        obtain rfl := eq_of_beq hb
        cases hx
        exact cst_lit X G ua1 uc1
      rw [List.lookup_cons] at hx
      split at hx
      · rename_i hb
        obtain rfl := eq_of_beq hb
        cases hx
        exact cst_lit X G ua2 uc2
      cases hx
    · match k, hx with
      | 0, hx => cases hx; exact ⟨PySem.W.mg_of X G ga0, gk0⟩
      | 1, hx => cases hx; exact ⟨PySem.W.mg_of X G ga1, gk1⟩
      | k + 2, hx => simp [cls] at hx
    · match k, hx with
      | 0, hx => exact ⟨gx0, gb0, gt0⟩
      | 1, hx => exact ⟨gx1, gb1, gt1⟩
      | k + 2, hx => simp [rs] at hx
    · match k, hx with
      | 0, hx => match c with
        | 0 => exact exm_by gb0 gi0 gt0 gs0_0
        | 1 => exact exm_by gb0 gi0 gt0 gs1_0
        | c + 2 => exact exm_by gb0 gi0 gt0 gs0_0
      | 1, hx => match c with
        | 0 => exact exm_by gb1 gi1 gt1 gs0_1
        | 1 => exact exm_by gb1 gi1 gt1 gs1_1
        | c + 2 => exact exm_by gb1 gi1 gt1 gs0_1
      | k + 2, hx => exact absurd (show k + 2 < 2 from hx) (by omega)
  have F0 := fun_mk (st := topS 8) l0 c0 k0
  have b0 := F0.binds (ps := p_is_from) fun _ _ _ _ _ _ us hl => match us, hl with | [_, _, _], _ => rfl
  have F1 := fun_mk (st := topS 9) l1 c1 k1
  have b1 := F1.binds (ps := p_is_tuple) fun _ _ _ _ _ _ us hl => match us, hl with | [_, _, _], _ => rfl
  have F2 := fun_mk (st := topS 10) l2 c2 k2
  have b2 := F2.binds (ps := p_is_rule) fun _ _ _ _ _ _ us hl => match us, hl with | [_], _ => rfl
  have F3 := fun_mk (st := topS 11) l3 c3 k3
  have b3 := F3.binds (ps := p_has_house) fun _ _ _ _ _ _ us hl => match us, hl with | [_], _ => rfl
  have F4 := fun_mk (st := topS 12) l4 c4 k4
  have b4 := F4.binds (ps := p_need_house) fun _ _ _ _ _ _ us hl => match us, hl with | [_], _ => rfl
  have F5 := fun_mk (st := topS 13) l5 c5 k5
  have b5 := F5.binds (ps := p_rises) fun _ _ _ _ _ _ us hl => match us, hl with | [_], _ => rfl
  have F6 := fun_mk (st := topS 14) l6 c6 k6
  have b6 := F6.binds (ps := p_is_wish) fun _ _ _ _ _ _ us hl => match us, hl with | [_, _], _ => rfl
  have F7 := fun_mk (st := topS 15) l7 c7 k7
  have b7 := F7.binds (ps := p_has_row) fun _ _ _ _ _ _ us hl => match us, hl with | [_, _], _ => rfl
  have F8 := fun_mk (st := topS 16) l8 c8 k8
  have b8 := F8.binds (ps := p_need_row) fun _ _ _ _ _ _ us hl => match us, hl with | [_, _], _ => rfl
  have F9 := fun_mk (st := topS 17) l9 c9 k9
  have b9 := F9.binds (ps := p_all_wishes) fun _ _ _ _ _ _ us hl => match us, hl with | [_], _ => rfl
  have F10 := fun_mk (st := topS 19) l10 c10 k10
  have b10 := F10.binds (ps := p_first_standing) fun _ _ _ _ _ _ us hl => match us, hl with | [_], _ => rfl
  have F11 := fun_mk (st := topS 20) l11 c11 k11
  have b11 := F11.binds (ps := p_who_may) fun _ _ _ _ _ _ us hl => match us, hl with | [_, _, _], _ => rfl
  have F12 := fun_mk (st := topS 21) l12 c12 k12
  have b12 := F12.binds (ps := p_with_dues) fun _ _ _ _ _ _ us hl => match us, hl with | [_, _, _], _ => rfl
  have F13 := fun_mk (st := topS 22) l13 c13 k13
  have b13 := F13.binds (ps := p_sum_of) fun _ _ _ _ _ _ us hl => match us, hl with | [_, _], _ => rfl
  have F14 := fun_mk (st := topS 23) l14 c14 k14
  have b14 := F14.binds (ps := p_cut_off) fun _ _ _ _ _ _ us hl => match us, hl with | [_, _], _ => rfl
  have F15 := fun_mk (st := topS 24) l15 c15 k15
  have b15 := F15.binds (ps := p_picked) fun _ _ _ _ _ _ us hl => match us, hl with | [_, _, _, _], _ => rfl
  have F16 := fun_mk (st := topS 25) l16 c16 k16
  have b16 := F16.binds (ps := p_book_behind) fun _ _ _ _ _ _ us hl => match us, hl with | [_, _, _, _], _ => rfl
  have F17 := fun_mk (st := topS 26) l17 c17 k17
  have b17 := F17.binds (ps := p_run_behind) fun _ _ _ _ _ _ us hl => match us, hl with | [_, _, _], _ => rfl
  have F18 := fun_mk (st := topS 27) l18 c18 k18
  have b18 := F18.binds (ps := p_day_behind) fun _ _ _ _ _ _ us hl => match us, hl with | [_, _, _], _ => rfl
  have F19 := fun_mk (st := topS 28) l19 c19 k19
  have b19 := F19.binds (ps := p_led) fun _ _ _ _ _ _ us hl => match us, hl with | [_, _], _ => rfl
  have F20 := fun_mk (st := topS 30) l20 c20 k20
  have b20 := F20.binds (ps := p_share) fun _ _ _ _ _ _ us hl => match us, hl with | [_, _], _ => rfl
  have F21 := fun_mk (st := topS 31) l21 c21 k21
  have b21 := F21.binds (ps := p_common) fun _ _ _ _ _ _ us hl => match us, hl with | [_, _], _ => rfl
  have F22 := fun_mk (st := topS 32) l22 c22 k22
  have b22 := F22.binds (ps := p_parts_of) fun _ _ _ _ _ _ us hl => match us, hl with | [_], _ => rfl
  have F23 := fun_mk (st := topS 33) l23 c23 k23
  have b23 := F23.binds (ps := p_due_parts) fun _ _ _ _ _ _ us hl => match us, hl with | [_, _, _, _], _ => rfl
  have F24 := fun_mk (st := topS 34) l24 c24 k24
  have b24 := F24.binds (ps := p_change_of) fun _ _ _ _ _ _ us hl => match us, hl with | [_, _, _, _, _], _ => rfl
  have F25 := fun_mk (st := topS 35) l25 c25 k25
  have b25 := F25.binds (ps := p_balances_of) fun _ _ _ _ _ _ us hl => match us, hl with | [_, _], _ => rfl
  have F26 := fun_mk (st := topS 36) l26 c26 k26
  have b26 := F26.binds (ps := p_balances) fun _ _ _ _ _ _ us hl => match us, hl with | [_, _], _ => rfl
  have F27 := fun_mk (st := topS 38) l27 c27 k27
  have b27 := F27.binds (ps := p_law_source) fun _ _ _ _ _ _ us hl => match us, hl with | [_, _], _ => rfl
  have F28 := fun_mk (st := topS 39) l28 c28 k28
  have b28 := F28.binds (ps := p_law_draw) fun _ _ _ _ _ _ us hl => match us, hl with | [_, _], _ => rfl
  have F29 := fun_mk (st := topS 40) l29 c29 k29
  have b29 := F29.binds (ps := p_law_choice) fun _ _ _ _ _ _ us hl => match us, hl with | [_, _], _ => rfl
  have F30 := fun_mk (st := topS 41) l30 c30 k30
  have b30 := F30.binds (ps := p_law_low) fun _ _ _ _ _ _ us hl => match us, hl with | [_, _], _ => rfl
  have F31 := fun_mk (st := topS 42) l31 c31 k31
  have b31 := F31.binds (ps := p_law_house) fun _ _ _ _ _ _ us hl => match us, hl with | [_, _], _ => rfl
  have F32 := fun_mk (st := topS 43) l32 c32 k32
  have b32 := F32.binds (ps := p_law_wishes) fun _ _ _ _ _ _ us hl => match us, hl with | [_], _ => rfl
  have F33 := fun_mk (st := topS 44) l33 c33 k33
  have b33 := F33.binds (ps := p_law_row) fun _ _ _ _ _ _ us hl => match us, hl with | [_, _, _], _ => rfl
  have F34 := fun_mk (st := topS 45) l34 c34 k34
  have b34 := F34.binds (ps := p_law_first) fun _ _ _ _ _ _ us hl => match us, hl with | [_], _ => rfl
  have F35 := fun_mk (st := topS 46) l35 c35 k35
  have b35 := F35.binds (ps := p_law_whom) fun _ _ _ _ _ _ us hl => match us, hl with | [_, _, _, _], _ => rfl
  have F36 := fun_mk (st := topS 47) l36 c36 k36
  have b36 := F36.binds (ps := p_law_day) fun _ _ _ _ _ _ us hl => match us, hl with | [_, _, _], _ => rfl
  have F37 := fun_mk (st := topS 48) l37 c37 k37
  have b37 := F37.binds (ps := p_law_led) fun _ _ _ _ _ _ us hl => match us, hl with | [_, _], _ => rfl
  have F38 := fun_mk (st := topS 49) l38 c38 k38
  have b38 := F38.binds (ps := p_law_sum) fun _ _ _ _ _ _ us hl => match us, hl with | [_, _], _ => rfl
  have F39 := fun_mk (st := topS 50) l39 c39 k39
  have b39 := F39.binds (ps := p_law_refused) fun _ _ _ _ _ _ us hl => match us, hl with | [_, _], _ => rfl
  have F40 := fun_mk (st := topS 51) l40 c40 k40
  have b40 := F40.binds (ps := p_law) fun _ _ _ _ _ _ us hl => match us, hl with | [_], _ => rfl
  refine ⟨PySem.W.fnOf "law" "law" (defArgs (topS 51)) (defBody (topS 51)) (defScope (topS 51)) .none kV40 dc40 pm40 an40 cd40 ct40, fun s v => .of_eq rfl, fun base _ _ => ?_⟩
  have T0 := tab_nil (g := { fa := fun k => ([f0, f1, f2, f3, f4, f5, f6, f7, f8, f9, f10, f11, f12, f13, f14, f15, f16, f17, f18, f19, f20, f21, f22, f23, f24, f25, f26, f27, f28, f29, f30, f31, f32, f33, f34, f35, f36, f37, f38, f39, fa] : List Addr).getD k 0, ca := fun k => ([g0, g1] : List Addr).getD k g0, xa := fun _ => "" }) (cf := cc tl_0) (P := l.prog) (w := w) (K := K) (mg := mg) (base := base)
  have T1 := tab_cfL (fns := fns) (r := tl_0) T0 kn rfl rfl F0 b0 (PySem.W.mg_of X G a0) s_is_from k_is_from
  have T2 := tab_cfL (fns := fns) (r := tl_1) T1 kn rfl rfl F1 b1 (PySem.W.mg_of X G a1) s_is_tuple k_is_tuple
  have T3 := tab_cfL (fns := fns) (r := tl_2) T2 kn rfl rfl F2 b2 (PySem.W.mg_of X G a2) s_is_rule k_is_rule
  have T4 := tab_cfL (fns := fns) (r := tl_3) T3 kn rfl rfl F3 b3 (PySem.W.mg_of X G a3) s_has_house k_has_house
  have T5 := tab_cfL (fns := fns) (r := tl_4) T4 kn rfl rfl F4 b4 (PySem.W.mg_of X G a4) s_need_house k_need_house
  have T6 := tab_cfL (fns := fns) (r := tl_5) T5 kn rfl rfl F5 b5 (PySem.W.mg_of X G a5) s_rises k_rises
  have T7 := tab_cfL (fns := fns) (r := tl_6) T6 kn rfl rfl F6 b6 (PySem.W.mg_of X G a6) s_is_wish k_is_wish
  have T8 := tab_cfL (fns := fns) (r := tl_7) T7 kn rfl rfl F7 b7 (PySem.W.mg_of X G a7) s_has_row k_has_row
  have T9 := tab_cfL (fns := fns) (r := tl_8) T8 kn rfl rfl F8 b8 (PySem.W.mg_of X G a8) s_need_row k_need_row
  have T10 := tab_cfL (fns := fns) (r := tl_9) T9 kn rfl rfl F9 b9 (PySem.W.mg_of X G a9) s_all_wishes k_all_wishes
  have T11 := tab_cfL (fns := fns) (r := tl_10) T10 kn rfl rfl F10 b10 (PySem.W.mg_of X G a10) s_first_standing k_first_standing
  have T12 := tab_cfL (fns := fns) (r := tl_11) T11 kn rfl rfl F11 b11 (PySem.W.mg_of X G a11) s_who_may k_who_may
  have T13 := tab_cfL (fns := fns) (r := tl_12) T12 kn rfl rfl F12 b12 (PySem.W.mg_of X G a12) s_with_dues k_with_dues
  have T14 := tab_cfL (fns := fns) (r := tl_13) T13 kn rfl rfl F13 b13 (PySem.W.mg_of X G a13) s_sum_of k_sum_of
  have T15 := tab_cfL (fns := fns) (r := tl_14) T14 kn rfl rfl F14 b14 (PySem.W.mg_of X G a14) s_cut_off k_cut_off
  have T16 := tab_cfL (fns := fns) (r := tl_15) T15 kn rfl rfl F15 b15 (PySem.W.mg_of X G a15) s_picked k_picked
  have T17 := tab_cfL (fns := fns) (r := tl_16) T16 kn rfl rfl F16 b16 (PySem.W.mg_of X G a16) s_book_behind k_book_behind
  have T18 := tab_cfL (fns := fns) (r := tl_17) T17 kn rfl rfl F17 b17 (PySem.W.mg_of X G a17) s_run_behind k_run_behind
  have T19 := tab_cfL (fns := fns) (r := tl_18) T18 kn rfl rfl F18 b18 (PySem.W.mg_of X G a18) s_day_behind k_day_behind
  have T20 := tab_cfL (fns := fns) (r := tl_19) T19 kn rfl rfl F19 b19 (PySem.W.mg_of X G a19) s_led k_led
  have T21 := tab_cfL (fns := fns) (r := tl_20) T20 kn rfl rfl F20 b20 (PySem.W.mg_of X G a20) s_share k_share
  have T22 := tab_cfL (fns := fns) (r := tl_21) T21 kn rfl rfl F21 b21 (PySem.W.mg_of X G a21) s_common k_common
  have T23 := tab_cfL (fns := fns) (r := tl_22) T22 kn rfl rfl F22 b22 (PySem.W.mg_of X G a22) s_parts_of k_parts_of
  have T24 := tab_cfL (fns := fns) (r := tl_23) T23 kn rfl rfl F23 b23 (PySem.W.mg_of X G a23) s_due_parts k_due_parts
  have T25 := tab_cfL (fns := fns) (r := tl_24) T24 kn rfl rfl F24 b24 (PySem.W.mg_of X G a24) s_change_of k_change_of
  have T26 := tab_cfL (fns := fns) (r := tl_25) T25 kn rfl rfl F25 b25 (PySem.W.mg_of X G a25) s_balances_of k_balances_of
  have T27 := tab_cfL (fns := fns) (r := tl_26) T26 kn rfl rfl F26 b26 (PySem.W.mg_of X G a26) s_balances k_balances
  have T28 := tab_cfL (fns := fns) (r := tl_27) T27 kn rfl rfl F27 b27 (PySem.W.mg_of X G a27) s_law_source k_law_source
  have T29 := tab_cfL (fns := fns) (r := tl_28) T28 kn rfl rfl F28 b28 (PySem.W.mg_of X G a28) s_law_draw k_law_draw
  have T30 := tab_cfL (fns := fns) (r := tl_29) T29 kn rfl rfl F29 b29 (PySem.W.mg_of X G a29) s_law_choice k_law_choice
  have T31 := tab_cfL (fns := fns) (r := tl_30) T30 kn rfl rfl F30 b30 (PySem.W.mg_of X G a30) s_law_low k_law_low
  have T32 := tab_cfL (fns := fns) (r := tl_31) T31 kn rfl rfl F31 b31 (PySem.W.mg_of X G a31) s_law_house k_law_house
  have T33 := tab_cfL (fns := fns) (r := tl_32) T32 kn rfl rfl F32 b32 (PySem.W.mg_of X G a32) s_law_wishes k_law_wishes
  have T34 := tab_cfL (fns := fns) (r := tl_33) T33 kn rfl rfl F33 b33 (PySem.W.mg_of X G a33) s_law_row k_law_row
  have T35 := tab_cfL (fns := fns) (r := tl_34) T34 kn rfl rfl F34 b34 (PySem.W.mg_of X G a34) s_law_first k_law_first
  have T36 := tab_cfL (fns := fns) (r := tl_35) T35 kn rfl rfl F35 b35 (PySem.W.mg_of X G a35) s_law_whom k_law_whom
  have T37 := tab_cfL (fns := fns) (r := tl_36) T36 kn rfl rfl F36 b36 (PySem.W.mg_of X G a36) s_law_day k_law_day
  have T38 := tab_cfL (fns := fns) (r := tl_37) T37 kn rfl rfl F37 b37 (PySem.W.mg_of X G a37) s_law_led k_law_led
  have T39 := tab_cfL (fns := fns) (r := tl_38) T38 kn rfl rfl F38 b38 (PySem.W.mg_of X G a38) s_law_sum k_law_sum
  have T40 := tab_cfL (fns := fns) (r := tl_39) T39 kn rfl rfl F39 b39 (PySem.W.mg_of X G a39) s_law_refused k_law_refused
  refine (defOk (fu := fu) F40 s_law kn T40 k_law).imp fun vs H Q E h => ?_
  refine (trim_ref _).spec (m := cc tl_41 40) ?_
  exact spLaw.of h
end LawT
namespace LawT
open PySem EV

/-! ### houses and rows, in plain words -/
def isFrom (v : D) (lo hi : Int) : Bool := match v with
  | .int i => decide (lo ≤ i) && decide (i ≤ hi)
  | _ => false
def isTup (v : D) (lo hi : Int) : Bool := match v with
  | .tup ds => decide (lo ≤ (ds.length : Int)) && decide ((ds.length : Int) ≤ hi)
  | _ => false
def isRule (v : D) : Bool := match v with
  | .tup [.str x, b, c] => if x = ("points" : Str) then isFrom b 1 3 && isFrom c 0 3 else if x = ("first" : Str) ∨ x = ("turns" : Str) then isFrom b 0 0 && isFrom c 0 3 else false
  | _ => false
def isHouse (v : D) : Bool := match v with
  | .tup [.tup ss, r] => (decide (2 ≤ ss.length) && decide (ss.length ≤ 3)) && ss.all (fun s => isFrom s 1 3) && isRule r
  | _ => false
def S_is_from (cf : Call) : Prop := ∀ v lo hi st, D.pl v = true → cf 0 [v, .int lo, .int hi] st = .ok (.bl (isFrom v lo hi)) st
def S_is_tuple (cf : Call) : Prop := ∀ v lo hi st, D.pl v = true → cf 1 [v, .int lo, .int hi] st = .ok (.bl (isTup v lo hi)) st
def S_is_rule (cf : Call) : Prop := ∀ v st, D.pl v = true → v.dep ≤ 50 → cf 2 [v] st = .ok (.bl (isRule v)) st
def S_has_house (cf : Call) : Prop := ∀ v st, D.pl v = true → v.dep ≤ 50 → cf 3 [v] st = .ok (.bl (isHouse v)) st
def S_need_house (cf : Call) : Prop := ∀ v st, D.pl v = true → v.dep ≤ 50 → isHouse v = true → cf 4 [v] st = .ok .non st
section
variable {cf : Call} {st : Store}
theorem sp_is_from {v : D} {lo hi : Int} (hv : v.pl = true) : evDef cf sub fu 3 b_is_from [v, .int lo, .int hi] st = .ok (.bl (isFrom v lo hi)) st := by
  cases v <;> simp [D.pl] at hv <;> simp [evDef_fin, b_is_from, isFrom]
  rename_i i
  by_cases h : lo ≤ i <;> simp [h]
theorem sp_is_tuple {v : D} {lo hi : Int} (hv : v.pl = true) : evDef cf sub fu 3 b_is_tuple [v, .int lo, .int hi] st = .ok (.bl (isTup v lo hi)) st := by
  cases v <;> simp [D.pl] at hv <;> simp [evDef_fin, b_is_tuple, isTup]
  rename_i ds
  by_cases h : lo ≤ (ds.length : Int) <;> simp [h]
theorem sp_is_rule (h0 : S_is_from cf) (h1 : S_is_tuple cf) {v : D} (hv : v.pl = true) (hd : v.dep ≤ 50) : evDef cf sub fu 3 b_is_rule [v] st = .ok (.bl (isRule v)) st := by
  by_cases h3 : ∃ a b c, v = .tup [a, b, c]
  · obtain ⟨a, b, c, rfl⟩ := h3
    have hp : a.pl = true ∧ b.pl = true ∧ c.pl = true := by simpa [D.pl, D.pls] using hv
    obtain ⟨ha, hb, hc⟩ := hp
    cases a with
    | str x =>
      have ho : okD (.str x) = true := okD_of ha (by simp [D.dep])
      have hk : okD (.lst [.str "first", .str "points", .str "turns"]) = true := by decide +kernel
      have hk2 : okD (.str "points") = true := by decide +kernel
      by_cases e1 : x = ("points" : Str)
      · subst e1
        simp [evDef_fin, b_is_rule, h1 _ _ _ _ hv, isTup, evCmp, evIn, ho, hk, eqv_str, h0 _ _ _ _ hb, isRule]
        cases isFrom b 1 3 <;> simp [h0 _ _ _ _ hc]
      · by_cases e2 : x = ("first" : Str) ∨ x = ("turns" : Str)
        · have e2' : (("first" : Str) = x ∨ ("points" : Str) = x ∨ ("turns" : Str) = x) := by rcases e2 with e | e <;> simp [e]
          have e2'' : (decide (("first" : Str) = x) || (decide (("points" : Str) = x) || decide (("turns" : Str) = x))) = true := by simpa using e2'
          simp [evDef_fin, b_is_rule, h1 _ _ _ _ hv, isTup, evCmp, evIn, ho, hk, hk2, eqv_str, e1, e2, e2'', h0 _ _ _ _ hb, isRule]
          cases isFrom b 0 0 <;> simp [h0 _ _ _ _ hc]
        · have e3 : ¬ (("first" : Str) = x) := fun z => e2 (.inl z.symm)
          have e4 : ¬ (("turns" : Str) = x) := fun z => e2 (.inr z.symm)
          have e5 : ¬ (("points" : Str) = x) := fun z => e1 z.symm
          simp [evDef_fin, b_is_rule, h1 _ _ _ _ hv, isTup, evCmp, evIn, ho, hk, eqv_str, e1, e2, e3, e4, e5, isRule]
    | _ => simp [evDef_fin, b_is_rule, h1 _ _ _ _ hv, isTup, isRule] <;> simp [D.pl] at ha
  · have hr : isRule v = false := by
      unfold isRule
      split
      · rename_i x b c; exact absurd ⟨_, _, _, rfl⟩ h3
      · rfl
    have ht : isTup v 3 3 = false := by
      cases v <;> simp [isTup]
      rename_i ds
      intro q
      match ds, q, h3 with
      | [a, b, c], _, h3 => exact absurd ⟨a, b, c, rfl⟩ h3
      | [], q, _ => simp at q
      | [_], q, _ => simp at q
      | [_, _], q, _ => simp at q
      | _ :: _ :: _ :: _ :: _, q, _ => simp; omega
    simp [evDef_fin, b_is_rule, h1 _ _ _ _ hv, ht, hr]
end
end LawT

namespace LawT
open PySem EV

/-! ### wishes and rows, in plain words -/
def toI : D → Int
  | .int i => i
  | _ => 0
def risesI (ns : List Int) : Bool := (List.zipWith (fun a b => decide (a < b)) ns (ns.drop 1)).all id
def isWish (p : Int) (v : D) : Bool := match v with
  | .tup ds => ds.all (fun d => isFrom d 0 (p - 1)) && risesI (ds.map toI)
  | _ => false
def isRow (p : Int) (v : D) : Bool := match v with
  | .tup ws => decide (ws.length ≤ 100) && ws.all (isWish p)
  | _ => false
theorem from_int {d : D} {lo hi : Int} (h : isFrom d lo hi = true) : d = .int (toI d) ∧ lo ≤ toI d ∧ toI d ≤ hi := by
  cases d <;> simp [isFrom] at h
  exact ⟨rfl, h.1, h.2⟩
theorem ints_of_from {ds : List D} {lo hi : Int} (h : (ds.all fun d => isFrom d lo hi) = true) : ds = (ds.map toI).map D.int ∧ ∀ n ∈ ds.map toI, lo ≤ n ∧ n ≤ hi := by
  rw [List.all_eq_true] at h
  refine ⟨?_, fun n hn => ?_⟩
  · rw [List.map_map]
    conv => lhs; rw [← List.map_id ds]
    apply List.map_congr_left
    intro d hd
    exact (from_int (h d hd)).1
  · obtain ⟨d, hd, rfl⟩ := List.mem_map.mp hn
    exact (from_int (h d hd)).2
theorem rises_iff : ∀ ns : List Int, risesI ns = true ↔ ns.Pairwise (· < ·)
  | [] => by simp [risesI]
  | [x] => by simp [risesI]
  | x :: y :: r => by
    have ih := rises_iff (y :: r)
    unfold risesI at ih ⊢
    simp only [List.drop_one, List.tail_cons, List.zipWith_cons_cons, List.all_cons, Bool.and_eq_true, id_eq, decide_eq_true_eq] at ih ⊢
    rw [List.pairwise_cons]
    constructor
    · rintro ⟨h1, h2⟩
      have h3 := ih.mp (by simpa using h2)
      refine ⟨fun z hz => ?_, h3⟩
      rcases List.mem_cons.mp hz with e | e
      · omega
      · have := (List.pairwise_cons.mp h3).1 z e
        omega
    · rintro ⟨h1, h2⟩
      exact ⟨h1 y List.mem_cons_self, by simpa using ih.mpr h2⟩
theorem rises_sorted (ns : List Int) : risesI ns = decide (ns = sortI (nubI ns)) := by
  rw [Bool.eq_iff_iff, rises_iff, decide_eq_true_eq]
  constructor
  · intro h
    exact srs_uniq h fun k => Iff.rfl
  · intro h
    obtain ⟨h1, h2⟩ := sortI_ok (nubI ns)
    have nd : (sortI (nubI ns)).Nodup := (h1.nodup_iff).mpr (nub_nodup ns)
    rw [h]
    have := h2.and nd
    exact this.imp fun q => by omega
/-- few numbers rise between 0 and p - 1 -/
theorem rises_len : ∀ (ns : List Int) (lo hi : Int), ns.Pairwise (· < ·) → (∀ n ∈ ns, lo ≤ n ∧ n ≤ hi) → lo ≤ hi + 1 → (ns.length : Int) ≤ hi - lo + 1
  | [], lo, hi, _, _, h => by simp; omega
  | x :: xs, lo, hi, h, k, hl => by
    obtain ⟨h1, h2⟩ := List.pairwise_cons.mp h
    have hx := k x List.mem_cons_self
    have := rises_len xs (x + 1) hi h2 (fun n hn => ⟨by have := h1 n hn; omega, (k n (List.mem_cons_of_mem _ hn)).2⟩) (by omega)
    rw [List.length_cons]
    omega
def S_rises (cf : Call) : Prop := ∀ (ns : List Int) st, cf 5 [.tup (ns.map .int)] st = .ok (.bl (risesI ns)) st
def S_is_wish (cf : Call) : Prop := ∀ ss r v st, D.pl v = true → ss.length ≤ 100 → cf 6 [.tup [.tup ss, r], v] st = .ok (.bl (isWish ss.length v)) st
def S_has_row (cf : Call) : Prop := ∀ ss r v st, D.pl v = true → ss.length ≤ 100 → cf 7 [.tup [.tup ss, r], v] st = .ok (.bl (isRow ss.length v)) st
section
variable {cf : Call} {st : Store}
theorem sp_has_house (h0 : S_is_from cf) (h1 : S_is_tuple cf) (h2 : S_is_rule cf) {v : D} (hv : v.pl = true) (hd : v.dep ≤ 50) : evDef cf sub fu 2 b_has_house [v] st = .ok (.bl (isHouse v)) st := by
  by_cases h3 : ∃ a b, v = .tup [a, b]
  · obtain ⟨a, b, rfl⟩ := h3
    have hp : a.pl = true ∧ b.pl = true := by simpa [D.pl, D.pls] using hv
    obtain ⟨ha, hb⟩ := hp
    have hdb : b.dep ≤ 50 := by simp [D.dep, D.deps] at hd; omega
    cases a with
    | tup ss =>
      have hss : D.pls ss = true := by simpa [D.pl] using ha
      have hl : lcLoop (k_turn cf (.call 0 (.cons (.var 1) (.cons (.con (.int 1)) (.cons (.con (.int 3)) .nil)))) (.name 1) .none [some (.tup [.tup ss, b]), none]) ss [] st = .ok (ss.map fun s => .bl (isFrom s 1 3)) st := by
        rw [lc_map (F := fun s => .bl (isFrom s 1 3))]
        · rfl
        · intro d hdm
          simp [k_turn_eq, h0 _ _ _ _ (pls_mem hss hdm)]
      by_cases q : 2 ≤ ss.length ∧ ss.length ≤ 3
      · have q1 : (2 : Int) ≤ (ss.length : Int) := by omega
        have q2 : (ss.length : Int) ≤ 3 := by omega
        simp [evDef_fin, b_has_house, h1 _ _ _ _ hv, h1 _ _ _ _ ha, isTup, q1, q2, hl, evBlt, bools_map, isHouse, q.1, q.2]
        by_cases qa : ∀ x ∈ ss, isFrom x 1 3 = true
        · have : (ss.all fun s => isFrom s 1 3) = true := List.all_eq_true.mpr qa
          simp [List.all_map, Function.comp_def, this, h2 _ _ hb hdb]
        · have : (ss.all fun s => isFrom s 1 3) = false := by
            rw [← Bool.not_eq_true, List.all_eq_true]; exact qa
          simp [List.all_map, Function.comp_def, this]
      · have q1 : (decide ((2 : Int) ≤ (ss.length : Int)) && decide ((ss.length : Int) ≤ 3)) = false := by
          rw [← Bool.not_eq_true]
          simp
          omega
        have q2 : (decide (2 ≤ ss.length) && decide (ss.length ≤ 3)) = false := by
          rw [← Bool.not_eq_true]
          simp
          omega
        simp [evDef_fin, b_has_house, h1 _ _ _ _ hv, h1 _ _ _ _ ha, isTup, q1, isHouse, q2]
    | _ => simp [evDef_fin, b_has_house, h1 _ _ _ _ hv, h1 _ _ _ _ ha, isTup, isHouse] <;> simp [D.pl] at ha
  · have hr : isHouse v = false := by
      unfold isHouse
      split
      · exact absurd ⟨_, _, rfl⟩ h3
      · rfl
    have ht : isTup v 2 2 = false := by
      cases v <;> simp [isTup]
      rename_i ds
      intro q
      match ds, q, h3 with
      | [a, b], _, h3 => exact absurd ⟨a, b, rfl⟩ h3
      | [], q, _ => simp at q
      | [_], q, _ => simp at q
      | _ :: _ :: _ :: _, q, _ => simp; omega
    simp [evDef_fin, b_has_house, h1 _ _ _ _ hv, ht, hr]
theorem sp_need_house (h3 : S_has_house cf) {v : D} (hv : v.pl = true) (hd : v.dep ≤ 50) (hh : isHouse v = true) : evDef cf sub fu 1 b_need_house [v] st = .ok .non st := by
  simp [evDef_fin, b_need_house, h3 _ _ hv hd, hh]
def ltP : D → D
  | .tup [.int a, .int b] => .bl (decide (a < b))
  | _ => .non
theorem sp_rises (ns : List Int) : evDef cf sub fu 3 b_rises [.tup (ns.map .int)] st = .ok (.bl (risesI ns)) st := by
  have hc : cut (ns.map D.int) (some 1) none = (ns.map D.int).drop 1 := by
    unfold cut
    cases ns with
    | nil => rfl
    | cons n ns =>
      simp [cutIx]
      rw [List.take_of_length_le (by simp)]
  have hz : List.zipWith (fun p q => D.tup [p, q]) (ns.map D.int) ((ns.map D.int).drop 1) = List.zipWith (fun a b => D.tup [.int a, .int b]) ns (ns.drop 1) := by
    rw [← List.map_drop, List.zipWith_map]
  have hl : lcLoop (k_turn cf (.cmp .lt (.var 1) (.var 2)) (.tup (.cons (.name 1) (.cons (.name 2) .nil))) .none [some (.tup (ns.map .int)), none, none]) (List.zipWith (fun a b => D.tup [.int a, .int b]) ns (ns.drop 1)) [] st = .ok ((List.zipWith (fun a b => D.tup [.int a, .int b]) ns (ns.drop 1)).map ltP) st := by
    rw [lc_map (F := ltP)]
    · rfl
    · intro d hdm
      obtain ⟨i, hi⟩ := List.getElem?_of_mem hdm
      rw [List.getElem?_zipWith] at hi
      split at hi
      · cases hi
        simp [k_turn_eq, ltP]
      · cases hi
  have hm : (List.zipWith (fun a b => D.tup [.int a, .int b]) ns (ns.drop 1)).map ltP = (List.zipWith (fun a b => decide (a < b)) ns (ns.drop 1)).map D.bl := by
    rw [List.map_zipWith, List.map_zipWith]
    rfl
  have hb : ∀ l : List Bool, boolsOf (l.map D.bl) = some l := fun l => by
    have := bools_map (fun b => b) l
    simpa using this
  have hb2 : boolsOf (List.zipWith (fun x y => D.bl (decide (x < y))) ns (ns.drop 1)) = some (List.zipWith (fun x y => decide (x < y)) ns (ns.drop 1)) := by
    rw [← hb, List.map_zipWith]
  simp [evDef_fin, b_rises, evSl, hc, hz, hl, hm, evBlt, hb2, risesI, -List.drop_one]
theorem sp_is_wish (h0 : S_is_from cf) (h1 : S_is_tuple cf) (h6 : S_rises cf) {ss : List D} {r v : D} (hv : v.pl = true) (hs : ss.length ≤ 100) : evDef cf sub fu 4 b_is_wish [.tup [.tup ss, r], v] st = .ok (.bl (isWish ss.length v)) st := by
  cases v with
  | tup ds =>
    have hds : D.pls ds = true := by simpa [D.pl] using hv
    have hl : lcLoop (k_turn cf (.call 0 (.cons (.var 3) (.cons (.con (.int 0)) (.cons (.bin .sub (.var 2) (.con (.int 1))) .nil)))) (.name 3) .none [some (.tup [.tup ss, r]), some (.tup ds), some (.int ss.length), none]) ds [] st = .ok (ds.map fun s => .bl (isFrom s 0 (ss.length - 1))) st := by
      rw [lc_map (F := fun s => .bl (isFrom s 0 (ss.length - 1)))]
      · rfl
      · intro d hdm
        simp [k_turn_eq, h0 _ _ _ _ (pls_mem hds hdm)]
    by_cases q : ((ds.length : Int) ≤ (ss.length : Int))
    · simp [evDef_fin, b_is_wish, h1 _ _ _ _ hv, isTup, q, hl, evBlt, bools_map, List.all_map, Function.comp_def]
      cases qa : (ds.all fun s => isFrom s 0 (ss.length - 1)) with
      | true =>
        have hi := (ints_of_from qa).1
        have h6' := h6 (ds.map toI) st
        rw [← hi] at h6'
        simp [isWish, qa, h6']
      | false => simp [isWish, qa]
    · have q' : ¬ ds.length ≤ ss.length := by omega
      have hw : isWish ss.length (.tup ds) = false := by
        rw [← Bool.not_eq_true]
        intro h
        simp only [isWish, Bool.and_eq_true] at h
        have h2 := rises_len _ 0 (ss.length - 1) ((rises_iff _).mp h.2) (ints_of_from h.1).2 (by omega)
        rw [List.length_map] at h2
        omega
      simp [evDef_fin, b_is_wish, h1 _ _ _ _ hv, isTup, q', hw]
  | _ => simp [evDef_fin, b_is_wish, h1 _ _ _ _ hv, isTup, isWish] <;> simp [D.pl] at hv
theorem sp_has_row (h1 : S_is_tuple cf) (h7 : S_is_wish cf) {ss : List D} {r v : D} (hv : v.pl = true) (hs : ss.length ≤ 100) : evDef cf sub fu 3 b_has_row [.tup [.tup ss, r], v] st = .ok (.bl (isRow ss.length v)) st := by
  cases v with
  | tup ds =>
    have hds : D.pls ds = true := by simpa [D.pl] using hv
    have hl : lcLoop (k_turn cf (.call 6 (.cons (.var 0) (.cons (.var 2) .nil))) (.name 2) .none [some (.tup [.tup ss, r]), some (.tup ds), none]) ds [] st = .ok (ds.map fun s => .bl (isWish ss.length s)) st := by
      rw [lc_map (F := fun s => .bl (isWish ss.length s))]
      · rfl
      · intro d hdm
        simp [k_turn_eq, h7 _ _ _ _ (pls_mem hds hdm) hs]
    by_cases q : ds.length ≤ 100
    · have q' : (ds.length : Int) ≤ 100 := by omega
      simp [evDef_fin, b_has_row, h1 _ _ _ _ hv, isTup, q', hl, evBlt, bools_map, List.all_map, Function.comp_def, isRow, q]
    · have q' : ¬ (ds.length : Int) ≤ 100 := by omega
      simp [evDef_fin, b_has_row, h1 _ _ _ _ hv, isTup, q', isRow, q]
  | _ => simp [evDef_fin, b_has_row, h1 _ _ _ _ hv, isTup, isRow] <;> simp [D.pl] at hv
theorem house_len {ss : List D} {r : D} (h : isHouse (.tup [.tup ss, r]) = true) : 2 ≤ ss.length ∧ ss.length ≤ 3 := by
  simp only [isHouse, Bool.and_eq_true, decide_eq_true_eq] at h
  exact h.1.1
end
end LawT

namespace LawT
open PySem EV

/-! ### the law's draws -/
def bigM : Int := 2147483249
/-- lists of ints, nothing else -/
def Cln (st : Store) : Prop := ∀ o ∈ st, ∃ ns : List Int, o = .lst (ns.map .int)
theorem unds_ints (n : Nat) : ∀ l : List Int, D.unds n (l.map .int) = true
  | [] => rfl
  | x :: l => by rw [List.map_cons, D.unds, unds_ints n l]; rfl
theorem Cln.und {st : Store} (h : Cln st) : stUnd st = true := by
  unfold stUnd
  rw [List.all_eq_true]
  intro o ho
  obtain ⟨ns, rfl⟩ := h o ho
  rw [O.und]
  exact unds_ints _ ns
theorem Cln.set {st : Store} (h : Cln st) (l : Nat) (a b : Int) : Cln (st.set l (.lst [.int a, .int b])) := fun o ho => by
  rcases List.mem_or_eq_of_mem_set ho with z | z
  · exact h o z
  · exact ⟨[a, b], z⟩
theorem Cln.push {st : Store} (h : Cln st) (a b : Int) : Cln (st ++ [.lst [.int a, .int b]]) := fun o ho => by
  rcases List.mem_append.mp ho with z | z
  · exact h o z
  · exact ⟨[a, b], List.mem_singleton.mp z⟩
/-- a source of draws stands at l -/
def Src (st : Store) (l : Nat) : Prop := Cln st ∧ ∃ a b, st[l]? = some (.lst [.int a, .int b]) ∧ 0 ≤ a ∧ 0 ≤ b ∧ b < bigM
def S_law_source (cf : Call) : Prop := ∀ (ns : List Int) (k : Int) st, 0 ≤ k → k ≤ 1000 → ∃ a b, cf 27 [.rol (ns.map .int), .int k] st = .ok (.loc st.length) (st ++ [.lst [.int a, .int b]]) ∧ 0 ≤ a ∧ 0 ≤ b ∧ b < bigM
def S_law_draw (cf : Call) : Prop := ∀ l many st, Src st l → 0 < many → many < 1073741824 → ∃ r st', cf 28 [.loc l, .int many] st = .ok (.int r) st' ∧ 0 ≤ r ∧ r < many ∧ st'.length = st.length ∧ Src st' l
def S_law_choice (cf : Call) : Prop := ∀ l ds st, Src st l → ds ≠ [] → ds.length < 1000000 → ∃ d st', cf 29 [.loc l, .lst ds] st = .ok d st' ∧ d ∈ ds ∧ st'.length = st.length ∧ Src st' l
theorem fmod_pos {a b : Int} (h : 0 < b) : 0 ≤ a.fmod b ∧ a.fmod b < b := by
  rw [Int.fmod_eq_emod_of_nonneg a (by omega)]
  exact ⟨Int.emod_nonneg a (by omega), Int.emod_lt_of_pos a h⟩
theorem fdiv_pos {a b : Int} (h : 0 < b) (ha : 0 ≤ a) : 0 ≤ a.fdiv b := by
  rw [Int.fdiv_eq_ediv_of_nonneg a (by omega)]
  exact Int.ediv_nonneg ha (by omega)
section
variable {cf : Call} {st : Store}
theorem sp_law_source {ns : List Int} {k : Int} (hk : 0 ≤ k) (hk2 : k ≤ 1000) : ∃ a b, evDef cf sub fu 3 b_law_source [.rol (ns.map .int), .int k] st = .ok (.loc st.length) (st ++ [.lst [.int a, .int b]]) ∧ 0 ≤ a ∧ 0 ≤ b ∧ b < bigM := by
  have fin : ∀ cell : Int, 0 ≤ cell → (evDef cf sub fu 3 b_law_source [.rol (ns.map .int), .int k] st = .ok (.loc st.length) (st ++ [.lst [.int (if cell > 10 ^ 17 then cell else 0), .int ((cell * 16807 + 9001 * k + 61).fmod 2147483249)]])) → ∃ a b, evDef cf sub fu 3 b_law_source [.rol (ns.map .int), .int k] st = .ok (.loc st.length) (st ++ [.lst [.int a, .int b]]) ∧ 0 ≤ a ∧ 0 ≤ b ∧ b < bigM := by
    intro cell hc e
    refine ⟨_, _, e, ?_, (fmod_pos (by decide)).1, (fmod_pos (by decide)).2⟩
    split <;> omega
  by_cases q : k < (ns.length : Int)
  · have hj : k.toNat < ns.length := by omega
    refine fin (if ns[k.toNat] < 0 then -ns[k.toNat] else ns[k.toNat]) (by split <;> omega) ?_
    generalize hcell : (if ns[k.toNat] < 0 then -ns[k.toNat] else ns[k.toNat]) = cell
    by_cases q2 : (100000000000000000 : Int) < cell
    · simp [evDef_fin, b_law_source, q, hk, hj, hcell, evBin, smallI, q2]
    · simp [evDef_fin, b_law_source, q, hk, hj, hcell, evBin, smallI, q2]
  · refine fin (89 * k + 37) (by omega) ?_
    have q2 : ¬ ((100000000000000000 : Int) < 89 * k + 37) := by omega
    simp [evDef_fin, b_law_source, q, evBin, smallI, q2]
theorem seq_loc {l : Nat} {ds : List D} (h : st[l]? = some (.lst ds)) : seqOf st (.loc l) = some ds := by
  simp [seqOf, deref, h]
theorem sp_law_draw {l : Nat} {many : Int} (h : Src st l) (hm : 0 < many) (hm2 : many < 1073741824) : ∃ r st', evDef cf sub fu 4 b_law_draw [.loc l, .int many] st = .ok (.int r) st' ∧ 0 ≤ r ∧ r < many ∧ st'.length = st.length ∧ Src st' l := by
  obtain ⟨hc, a, b, e, ha, hb, hb2⟩ := h
  have hl : l < st.length := (List.getElem?_eq_some_iff.mp e).1
  have n0 : ¬ many = 0 := by omega
  have n1 : many.natAbs < 1073741824 := by omega
  by_cases q : 0 < a
  · refine ⟨a.fmod many, st.set l (.lst [.int (a.fdiv many), .int b]), ?_, (fmod_pos hm).1, (fmod_pos hm).2, by simp, ⟨hc.set _ _ _, a.fdiv many, b, by simp [hl], fdiv_pos hm ha, hb, hb2⟩⟩
    simp [evDef_fin, b_law_draw, evIdx, seq_loc e, q, evBin, n0, n1, evSto, e]
  · have h1 := fmod_pos (a := b * 48271 + 71) (b := 2147483249) (by decide)
    generalize hb1 : (b * 48271 + 71).fmod 2147483249 = b1 at h1
    have hs1 : -18446744073709551616 < b1 := by omega
    have hs2 : b1 < 18446744073709551616 := by omega
    have e1 : (st.set l (.lst [.int a, .int b1]))[l]? = some (.lst [.int a, .int b1]) := by simp [hl]
    have k2 := seq_loc e1
    refine ⟨(((b1 * (b1.fdiv 37 + 22)).fmod 2147483179).fdiv 32).fmod many, st.set l (.lst [.int a, .int b1]), ?_, (fmod_pos hm).1, (fmod_pos hm).2, by simp, ⟨hc.set _ _ _, a, b1, e1, ha, h1.1, h1.2⟩⟩
    simp [evDef_fin, b_law_draw, evIdx, seq_loc e, q, evBin, n0, n1, evSto, e, smallI, hb1, k2, hs1, hs2]
theorem sp_law_choice (h11 : S_law_draw cf) {l : Nat} {ds : List D} (h : Src st l) (hn : ds ≠ []) (hz : ds.length < 1000000) : ∃ d st', evDef cf sub fu 2 b_law_choice [.loc l, .lst ds] st = .ok d st' ∧ d ∈ ds ∧ st'.length = st.length ∧ Src st' l := by
  have hp : 0 < ds.length := List.length_pos_iff.mpr hn
  obtain ⟨r, st', e, r0, r1, hl, hs⟩ := h11 l ds.length st h (by omega) (by omega)
  have hr : r.toNat < ds.length := by omega
  refine ⟨ds[r.toNat], st', ?_, List.getElem_mem hr, hl, hs⟩
  simp [evDef_fin, b_law_choice, e, r0, r1, hr]
end
end LawT

namespace LawT
open PySem EV

/-! ### houses that are drawn -/
structure Hs (h : D) : Prop where
  form : ∃ ss x m c, h = .tup [.tup ss, .tup [.str x, .int m, .int c]] ∧ (ss.length = 2 ∨ ss.length = 3) ∧ c ≤ 2 ∧ (ss.length = 3 → m ≤ 1)
  ok : isHouse h = true
  pl : h.pl = true
  dep : h.dep ≤ 2
/-- of so many people at most -/
def Few (mp : Int) (h : D) : Prop := mp = 2 → ∃ a b r, h = .tup [.tup [a, b], r]
def S_law_house (cf : Call) : Prop := ∀ l mp st, Src st l → (mp = 2 ∨ mp = 3) → ∃ h st', cf 31 [.loc l, .int mp] st = .ok h st' ∧ (Hs h ∧ Few mp h) ∧ st'.length = st.length ∧ Src st' l
section
variable {cf : Call} {st : Store}
theorem cmp_eq_s {x y : Str} (hx : okStr x = true) (hy : okStr y = true) : evCmp st .eq (.str x) (.str y) = some (decide (x = y)) := by
  have h1 : okD (.str x) = true := okD_of hx (by simp [D.dep])
  have h2 : okD (.str y) = true := okD_of hy (by simp [D.dep])
  simp [evCmp, h1, h2, eqv_str]
theorem sp_law_house (h11 : S_law_draw cf) (h12 : S_law_choice cf) {l : Nat} {mp : Int} (h : Src st l) (hmp : mp = 2 ∨ mp = 3) : ∃ h st', evDef cf sub fu 7 b_law_house [.loc l, .int mp] st = .ok h st' ∧ (Hs h ∧ Few mp h) ∧ st'.length = st.length ∧ Src st' l := by
  obtain ⟨r, st1, e1, r0, r1, hl1, hs1⟩ := h11 l (mp - 1) st h (by omega) (by omega)
  obtain ⟨xs, st2, e2, ⟨hl2, hs2⟩, hn, hx⟩ := lc_inv (f := k_turn cf (.bin .add (.con (.int 1)) (.call 28 (.cons (.var 0) (.cons (.con (.int 3)) .nil)))) (.name 4) .none [some (.loc l), some (.int mp), some (.int (2 + r)), none, none, none, none])
    (fun s => s.length = st.length ∧ Src s l) (fun x => isFrom x 1 3 = true) (st := st1) ((List.range (2 + r).toNat).map fun (i : Nat) => .int (i : Int)) [] ⟨hl1, hs1⟩ (by
      intro d hd s ⟨q1, q2⟩
      obtain ⟨r', s', e', r0', r1', hl', hs'⟩ := h11 l 3 s q2 (by decide) (by decide)
      refine ⟨.int (1 + r'), s', ?_, ⟨by omega, hs'⟩, ?_⟩
      · simp [k_turn_eq, e']
      · simp [isFrom]; omega)
  have hn' : xs.length = (2 + r).toNat := by rw [hn]; simp
  have hb : -4611686018427387904 ≤ 2 + r := by omega
  have hb2 : 2 + r ≤ ((most : Nat) : Int) := by unfold most; omega
  obtain ⟨k, st3, e3, hk, hl3, hs3⟩ := h12 l [.str "first", .str "turns", .str "points", .str "points"] st2 hs2 (by simp) (by simp)
  obtain ⟨x, rfl, hxk⟩ : ∃ x : Str, k = .str x ∧ (x = ("points" : Str) ∨ x = ("first" : Str) ∨ x = ("turns" : Str)) := by
    simp at hk
    rcases hk with rfl | rfl | rfl <;> simp
  have hok : okStr x = true := by rcases hxk with rfl | rfl | rfl <;> decide +kernel
  have hok2 : okStr "points" = true := by decide +kernel
  have hall : (xs.all fun s => isFrom s 1 3) = true := List.all_eq_true.mpr hx
  have hpl : D.pls xs = true := pls_of fun d hd => by
    have := (from_int (hx d hd)).1
    rw [this]; rfl
  have hdp : D.deps xs ≤ 0 := deps_of fun d hd => by
    have := (from_int (hx d hd)).1
    rw [this]; simp [D.dep]
  have hlen : xs.length = 2 ∨ xs.length = 3 := by omega
  have fin : ∀ (m : Int) (st4 : Store), st4.length = st.length → Src st4 l → isRule (.tup [.str x, .int m, .int 0]) = true → (xs.length = 3 → m ≤ 1) → ∀ c : Int, 0 ≤ c → c ≤ 2 → Hs (.tup [.tup xs, .tup [.str x, .int m, .int c]]) ∧ Few mp (.tup [.tup xs, .tup [.str x, .int m, .int c]]) := by
    intro m st4 _ _ hr hm3 c c0 c1
    have few : Few mp (.tup [.tup xs, .tup [.str x, .int m, .int c]]) := fun h2 => by
      have : xs.length = 2 := by omega
      match xs, this with
      | [a, b], _ => exact ⟨a, b, _, rfl⟩
    refine ⟨⟨⟨xs, x, m, c, rfl, hlen, c1, hm3⟩, ?_, ?_, ?_⟩, few⟩
    · have hr' : isRule (.tup [.str x, .int m, .int c]) = true := by
        unfold isRule at hr ⊢
        simp only [] at hr ⊢
        have hc3 : isFrom (.int c) 0 3 = true := by simp [isFrom]; omega
        rw [hc3]
        have h03 : isFrom (.int 0) 0 3 = true := by simp [isFrom]
        rw [h03] at hr
        exact hr
      simp only [isHouse, hall, hr', Bool.and_true, Bool.and_eq_true, decide_eq_true_eq]
      omega
    · simp [D.pl, D.pls, hpl, hok]
    · simp [D.dep, D.deps]; omega
  by_cases hp : x = ("points" : Str)
  · subst hp
    obtain ⟨m, st4, e4, m0, m1, hl4, hs4⟩ := h11 l (if 2 + r = 2 then 3 else 1) st3 hs3 (by split <;> decide) (by split <;> decide)
    obtain ⟨c, st5, e5, hc, hl5, hs5⟩ := h12 l [.int 0, .int 0, .int 1, .int 2] st4 hs4 (by simp) (by simp)
    obtain ⟨ci, rfl, c0, c1⟩ : ∃ ci : Int, c = .int ci ∧ 0 ≤ ci ∧ ci ≤ 2 := by
      simp at hc
      rcases hc with rfl | rfl | rfl <;> simp
    have hm1 : xs.length = 3 → 1 + m ≤ 1 := fun q => by
      have q1 : ¬ (2 + r = 2) := by omega
      rw [if_neg q1] at m1
      omega
    refine ⟨.tup [.tup xs, .tup [.str "points", .int (1 + m), .int ci]], st5, ?_, fin (1 + m) st5 (by omega) hs5 ?_ (fun q => hm1 q) ci c0 c1, by omega, hs5⟩
    · by_cases hr2 : r = 0
      · have hd : decide (2 + r = 2) = true := decide_eq_true (by omega)
        rw [if_pos (by omega)] at e4
        simp [evDef_fin, b_law_house, e1, hb, hb2, e2, e3, cmp_eq_s hok hok2, hd, e4, e5]
      · have hd : decide (2 + r = 2) = false := decide_eq_false (by omega)
        rw [if_neg (by omega)] at e4
        simp [evDef_fin, b_law_house, e1, hb, hb2, e2, e3, cmp_eq_s hok hok2, hd, e4, e5]
    · have m3 : m < 3 := by split at m1 <;> omega
      simp [isRule, isFrom]; omega
  · obtain ⟨c, st5, e5, hc, hl5, hs5⟩ := h12 l [.int 0, .int 0, .int 1, .int 2] st3 hs3 (by simp) (by simp)
    obtain ⟨ci, rfl, c0, c1⟩ : ∃ ci : Int, c = .int ci ∧ 0 ≤ ci ∧ ci ≤ 2 := by
      simp at hc
      rcases hc with rfl | rfl | rfl <;> simp
    refine ⟨.tup [.tup xs, .tup [.str x, .int 0, .int ci]], st5, ?_, fin 0 st5 (by omega) hs5 ?_ (fun _ => by decide) ci c0 c1, by omega, hs5⟩
    · simp [evDef_fin, b_law_house, e1, hb, hb2, e2, e3, cmp_eq_s hok hok2, hp, e5]
    · have hxf : x = ("first" : Str) ∨ x = ("turns" : Str) := by rcases hxk with h | h | h <;> simp_all
      simp [isRule, isFrom, hp, hxf]
/-! ### all wishes, a row -/
def wl2 : List D := [rowD [], rowD [0], rowD [0, 1], rowD [1]]
def wl3 : List D := [rowD [], rowD [0], rowD [0, 1], rowD [0, 1, 2], rowD [0, 2], rowD [1], rowD [1, 2], rowD [2]]
theorem sp_law_wishes_2 {a b r : D} : evDef cf sub fu 4 b_law_wishes [.tup [.tup [a, b], r]] st = .ok (.lst wl2) st := by kernel_rfl
theorem sp_law_wishes_3 {a b c r : D} : evDef cf sub fu 4 b_law_wishes [.tup [.tup [a, b, c], r]] st = .ok (.lst wl3) st := by kernel_rfl
theorem wl2_ok : ∀ d ∈ wl2, isWish 2 d = true ∧ d.pl = true ∧ d.dep ≤ 1 := by decide +kernel
theorem wl3_ok : ∀ d ∈ wl3, isWish 3 d = true ∧ d.pl = true ∧ d.dep ≤ 1 := by decide +kernel
end
end LawT

namespace LawT
open PySem EV

/-! ### houses, wishes, standings, in plain words -/
inductive Kd where
  | first | turns | points
  deriving DecidableEq
def Kd.s : Kd → Str
  | .first => "first"
  | .turns => "turns"
  | .points => "points"
structure Hou where
  sh : List Int
  kd : Kd
  mark : Int
  most : Int
abbrev Hou.d (h : Hou) : D := .tup [it h.sh, .tup [.str h.kd.s, .int h.mark, .int h.most]]
structure Hou.Ok (h : Hou) : Prop where
  len : h.sh.length = 2 ∨ h.sh.length = 3
  sh : ∀ s ∈ h.sh, 1 ≤ s ∧ s ≤ 3
  mark : (h.kd = .points ∧ 1 ≤ h.mark ∧ h.mark ≤ 3) ∨ (h.kd ≠ .points ∧ h.mark = 0)
  most : 0 ≤ h.most ∧ h.most ≤ 3
abbrev Run := Option (Int × Int)
def runD : Run → D
  | none => .tup []
  | some (p, k) => .tup [.int p, .int k]
abbrev Stg := List Int × Run
abbrev stD (s : Stg) : D := .tup [it s.1, runD s.2]
def givD : Option Int → D
  | none => .non
  | some p => .int p
def inn (h : Hou) (p : Int) : Prop := 0 ≤ p ∧ p < h.sh.length
def WOk (h : Hou) (w : List Int) : Prop := w.Pairwise (· < ·) ∧ ∀ p ∈ w, inn h p
def whoMay (h : Hou) (run : Run) (w : List Int) : List Int := match run with
  | none => w
  | some (p, k) => if 0 < h.most ∧ k = h.most ∧ w ≠ [p] then w.filter (fun x => decide (x ≠ p)) else w
def dues (h : Hou) (pts w : List Int) : List Int := pts.mapIdx fun i o => o + if (i : Int) ∈ w then h.sh.getD i 0 else 0
def sumOf (h : Hou) (w : List Int) : Int := (w.map fun p => h.sh.getD p.toNat 0).sum
def cutOff (n m : Int) : Int := if (if n < m then n else m) > -m then (if n < m then n else m) else -m
def maxI (l : List Int) : Int := match l with
  | [] => 0
  | n :: r => r.foldl (fun m x => if x > m then x else m) n
/-- those of the book who may -/
def pickL (h : Hou) (book may w : List Int) : List Int := match h.kd with
  | .turns => book.filter fun p => decide (p ∈ may)
  | .first => may
  | .points => may.filter fun p => decide ((dues h book w).getD p.toNat 0 = maxI (may.map fun p => (dues h book w).getD p.toNat 0))
def bookB (h : Hou) (book w : List Int) (g : Int) : List Int := match h.kd with
  | .turns => book.filter (fun p => decide (p ≠ g)) ++ [g]
  | .first => book
  | .points => (dues h book w).mapIdx fun i o => cutOff (o - if (i : Int) = g then sumOf h w else 0) h.mark
def runB (h : Hou) (run : Run) (g : Int) : Run := if h.most = 0 then none else match run with
  | none => some (g, 1)
  | some (p, k) => if p = g then some (g, if k + 1 < h.most then k + 1 else h.most) else some (g, 1)
def day (h : Hou) (s : Stg) (w : List Int) : Stg × Option Int :=
  if w = [] then (s, none) else ((bookB h s.1 w ((pickL h s.1 (whoMay h s.2 w) w).headD 0), runB h s.2 ((pickL h s.1 (whoMay h s.2 w) w).headD 0)), some ((pickL h s.1 (whoMay h s.2 w) w).headD 0))
def iota (n : Nat) : List Int := (List.range n).map fun (i : Nat) => (i : Int)
def st0 (h : Hou) : Stg := (match h.kd with
  | .turns => iota h.sh.length
  | .points => List.replicate h.sh.length 0
  | .first => [], none)
/-- what a standing is like -/
structure SOk (h : Hou) (s : Stg) : Prop where
  book : (match h.kd with
    | .turns => s.1.Perm (iota h.sh.length)
    | .points => s.1.length = h.sh.length ∧ ∀ x ∈ s.1, -h.mark ≤ x ∧ x ≤ h.mark
    | .first => s.1 = [])
  run : match s.2 with
    | none => True
    | some (p, k) => inn h p ∧ 1 ≤ k ∧ k ≤ h.most

section
variable {cf : Call} {st : Store}
theorem cmp_turns (k : Kd) : evCmp st .eq (.str k.s) (.str "turns") = some (decide (k = .turns)) := by cases k <;> kernel_rfl
theorem cmp_first (k : Kd) : evCmp st .eq (.str k.s) (.str "first") = some (decide (k = .first)) := by cases k <;> kernel_rfl
theorem cmp_points (k : Kd) : evCmp st .eq (.str k.s) (.str "points") = some (decide (k = .points)) := by cases k <;> kernel_rfl
theorem ne_nil_2 (a b : Int) : evCmp st .ne (.tup [.int a, .int b]) (.tup []) = some true := by
  exact cmp_ne_it (st := st) [a, b] []
theorem ne_nil_0 : evCmp st .ne (.tup []) (.tup []) = some false := by
  exact cmp_ne_it (st := st) [] []
theorem ne_one (w : List Int) (p : Int) : evCmp st .ne (.tup (w.map .int)) (.tup [.int p]) = some (!decide (w = [p])) := by
  exact cmp_ne_it (st := st) w [p]
theorem ne_self (p : Int) : evCmp st .ne (.tup [.int p]) (.tup [.int p]) = some false := by
  have := cmp_ne_it (st := st) [p] [p]
  rw [decide_eq_true rfl] at this
  exact this
theorem eq_nil_w (w : List Int) : evCmp st .eq (.tup (w.map .int)) (.tup []) = some (decide (w = [])) := by
  exact cmp_eq_it (st := st) w []
theorem blt_sum_ints (l : List Int) : evBlt st .sum [.lst (l.map .int)] = some (.int l.sum) := by simp [evBlt]
theorem sp_first_standing {h : Hou} (ho : h.Ok) : evDef cf sub fu 3 b_first_standing [h.d] st = .ok (stD (st0 h)) st := by
  have h1 : (h.sh.length : Int) ≤ ((most : Nat) : Int) := by unfold most; have := ho.len; omega
  have h2 : -4611686018427387904 ≤ (h.sh.length : Int) := by omega
  cases hk : h.kd with
  | turns => simp [evDef_fin, b_first_standing, cmp_turns, hk, evTrg, h1, h2, st0, stD, runD, iota, List.map_map, Function.comp_def]
  | first => simp [evDef_fin, b_first_standing, cmp_turns, cmp_points, hk, st0, stD, runD]
  | points =>
    rcases ho.len with q | q
    · simp [evDef_fin, b_first_standing, cmp_turns, cmp_points, hk, st0, stD, runD, q, evBin]
    · simp [evDef_fin, b_first_standing, cmp_turns, cmp_points, hk, st0, stD, runD, q, evBin]
theorem sp_who_may {h : Hou} {run : Run} {w : List Int} : evDef cf sub fu 5 b_who_may [h.d, runD run, it w] st = .ok (it (whoMay h run w)) st := by
  cases run with
  | none =>
    by_cases h1 : 0 < h.most <;> simp [evDef_fin, b_who_may, runD, whoMay, h1, ne_nil_0]
  | some pk =>
    obtain ⟨p, k⟩ := pk
    by_cases h1 : 0 < h.most
    · by_cases h2 : k = h.most
      · by_cases h3 : w = [p]
        · simp [it, evDef_fin, b_who_may, runD, whoMay, h1, h2, h3, ne_nil_2, ne_self]
        · simp [evDef_fin, b_who_may, runD, whoMay, h1, h2, h3, ne_nil_2, ne_one w p]
          rw [lc_ints_filter (p := fun x => decide (x ≠ p))]
          · simp
          · intro x hx
            by_cases hxp : x = p <;> simp [k_turn_eq, hxp]
      · simp [evDef_fin, b_who_may, runD, whoMay, h1, h2, ne_nil_2]
    · simp [evDef_fin, b_who_may, runD, whoMay, h1]
theorem sp_with_dues {h : Hou} {pts w : List Int} (hl : pts.length ≤ h.sh.length) : evDef cf sub fu 5 b_with_dues [h.d, it pts, it w] st = .ok (it (dues h pts w)) st := by
  simp [evDef_fin, b_with_dues]
  rw [lc_enm (F := fun i o => o + if (i : Int) ∈ w then h.sh.getD i 0 else 0)]
  · simp [dues]
  · intro i x hx
    have hi : i < h.sh.length := by have := (List.getElem?_eq_some_iff.mp hx).1; omega
    by_cases hw : (i : Int) ∈ w <;> simp [k_turn_eq, cmp_in_it, hw, hi]
theorem sp_sum_of {h : Hou} {w : List Int} (hw : ∀ p ∈ w, inn h p) : evDef cf sub fu 3 b_sum_of [h.d, it w] st = .ok (.int (sumOf h w)) st := by
  simp [evDef_fin, b_sum_of]
  rw [lc_ints_map (F := fun p => h.sh.getD p.toNat 0)]
  · simp [blt_sum_ints, sumOf, -List.map_map]
  · intro p hp
    obtain ⟨h0, h1⟩ := hw p hp
    have := get_it h0 h1
    simp [k_turn_eq, h0, h1, this]
theorem sp_cut_off {n m : Int} : evDef cf sub fu 2 b_cut_off [.int n, .int m] st = .ok (.int (cutOff n m)) st := by
  simp [evDef_fin, b_cut_off, evBlt, cutOff]
end
end LawT
namespace LawT
open PySem EV

theorem fold_max : ∀ (r : List Int) (n : Int), r.foldl (fun m x => if x > m then x else m) n ∈ n :: r ∧ ∀ x ∈ n :: r, x ≤ r.foldl (fun m x => if x > m then x else m) n
  | [], n => by simp
  | y :: r, n => by
    rw [List.foldl_cons]
    obtain ⟨h1, h2⟩ := fold_max r (if y > n then y else n)
    have h3 := h2 _ List.mem_cons_self
    have hv : (if y > n then y else n) = y ∧ n ≤ (if y > n then y else n) ∨ (if y > n then y else n) = n ∧ y ≤ (if y > n then y else n) := by split <;> omega
    generalize (if y > n then y else n) = v at h1 h2 h3 hv ⊢
    refine ⟨?_, fun x hx => ?_⟩
    · rcases List.mem_cons.mp h1 with e | e
      · rw [e]
        rcases hv with ⟨hv, _⟩ | ⟨hv, _⟩
        · rw [hv]; exact List.mem_cons_of_mem _ List.mem_cons_self
        · rw [hv]; exact List.mem_cons_self
      · exact List.mem_cons_of_mem _ (List.mem_cons_of_mem _ e)
    · rcases List.mem_cons.mp hx with e | hx
      · subst e; omega
      · rcases List.mem_cons.mp hx with e | hx
        · subst e; omega
        · exact h2 x (List.mem_cons_of_mem _ hx)
theorem maxI_mem {l : List Int} (h : l ≠ []) : maxI l ∈ l := by
  cases l with
  | nil => exact absurd rfl h
  | cons n r => exact (fold_max r n).1
theorem maxI_le {l : List Int} {x : Int} (h : x ∈ l) : x ≤ maxI l := by
  cases l with
  | nil => cases h
  | cons n r => exact (fold_max r n).2 x h
theorem blt_max_ints {st : Store} {l : List Int} (h : l ≠ []) : evBlt st .max1 [.lst (l.map .int)] = some (.int (maxI l)) := by
  cases l with
  | nil => exact absurd rfl h
  | cons n r => simp only [evBlt, intsOf_map]; rfl
theorem dues_len (h : Hou) (pts w : List Int) : (dues h pts w).length = pts.length := by unfold dues; rw [List.length_mapIdx]
theorem pick_ne {h : Hou} {book may w : List Int} (hm : may ≠ []) (hb : h.kd = .turns → ∀ p ∈ may, p ∈ book) : pickL h book may w ≠ [] := by
  unfold pickL
  obtain ⟨p, hp⟩ := List.exists_mem_of_ne_nil _ hm
  cases hk : h.kd with
  | turns =>
    intro e
    have : p ∈ book.filter fun p => decide (p ∈ may) := List.mem_filter.mpr ⟨hb hk p hp, by simpa using hp⟩
    simp only at e
    rw [e] at this
    cases this
  | first => exact hm
  | points =>
    simp only
    have h1 : (may.map fun p => (dues h book w).getD p.toNat 0) ≠ [] := by simpa using hm
    obtain ⟨q, hq, e⟩ := List.mem_map.mp (maxI_mem h1)
    intro z
    have : q ∈ may.filter fun p => decide ((dues h book w).getD p.toNat 0 = maxI (may.map fun p => (dues h book w).getD p.toNat 0)) := List.mem_filter.mpr ⟨hq, by simpa using e⟩
    rw [z] at this
    cases this
def S_first_standing (cf : Call) : Prop := ∀ (h : Hou) st, h.Ok → cf 10 [h.d] st = .ok (stD (st0 h)) st
def S_who_may (cf : Call) : Prop := ∀ (h : Hou) run w st, cf 11 [h.d, runD run, it w] st = .ok (it (whoMay h run w)) st
def S_with_dues (cf : Call) : Prop := ∀ (h : Hou) pts w st, pts.length ≤ h.sh.length → cf 12 [h.d, it pts, it w] st = .ok (it (dues h pts w)) st
def S_sum_of (cf : Call) : Prop := ∀ (h : Hou) w st, (∀ p ∈ w, inn h p) → cf 13 [h.d, it w] st = .ok (.int (sumOf h w)) st
def S_cut_off (cf : Call) : Prop := ∀ n m st, cf 14 [.int n, .int m] st = .ok (.int (cutOff n m)) st
def S_picked (cf : Call) : Prop := ∀ (h : Hou) book may w st, (∀ p ∈ may, inn h p) → may ≠ [] → (h.kd = .turns → ∀ p ∈ may, p ∈ book) → (h.kd = .points → book.length = h.sh.length) → cf 15 [h.d, it book, it may, it w] st = .ok (.int ((pickL h book may w).headD 0)) st
def S_book_behind (cf : Call) : Prop := ∀ (h : Hou) book w g st, book.length ≤ 1000 → (∀ p ∈ w, inn h p) → (h.kd = .points → book.length = h.sh.length) → cf 16 [h.d, it book, it w, .int g] st = .ok (it (bookB h book w g)) st
def S_run_behind (cf : Call) : Prop := ∀ (h : Hou) run g st, cf 17 [h.d, runD run, .int g] st = .ok (runD (runB h run g)) st
section
variable {cf : Call} {st : Store}
theorem sp_picked (h11 : S_with_dues cf) {h : Hou} {book may w : List Int} (hi : ∀ p ∈ may, inn h p) (hm : may ≠ []) (hb : h.kd = .turns → ∀ p ∈ may, p ∈ book) (hl : h.kd = .points → book.length = h.sh.length) :
    evDef cf sub fu 8 b_picked [h.d, it book, it may, it w] st = .ok (.int ((pickL h book may w).headD 0)) st := by
  have hn := pick_ne (w := w) hm hb
  cases hk : h.kd with
  | turns =>
    simp only [pickL, hk] at hn ⊢
    generalize hgen : book.filter (fun p => decide (p ∈ may)) = l at hn ⊢
    simp [evDef_fin, b_picked, cmp_turns, hk]
    rw [lc_ints_filter (p := fun p => decide (p ∈ may))]
    · rw [hgen]
      cases l with
      | nil => exact absurd rfl hn
      | cons x r => simp
    · intro x hx
      by_cases hxm : x ∈ may <;> simp [k_turn_eq, cmp_in_it, hxm]
  | first =>
    simp only [pickL, hk]
    cases may with
    | nil => exact absurd rfl hm
    | cons x r => simp [evDef_fin, b_picked, cmp_turns, cmp_first, hk]
  | points =>
    have hlen := hl hk
    simp only [pickL, hk] at hn ⊢
    have hd := dues_len h book w
    have hg : ∀ p ∈ may, 0 ≤ p ∧ p < ((dues h book w).length : Int) := fun p hp => by rw [hd, hlen]; exact hi p hp
    have h11' := h11 h book w st (by omega)
    generalize dues h book w = ds at hn hg h11' ⊢
    generalize hgen : may.filter (fun p => decide (ds.getD p.toNat 0 = maxI (may.map fun p => ds.getD p.toNat 0))) = l at hn ⊢
    simp [evDef_fin, b_picked, cmp_turns, cmp_first, hk, h11']
    rw [lc_ints_map (F := fun p => ds.getD p.toNat 0)]
    · have h1 : (may.map fun p => ds.getD p.toNat 0) ≠ [] := by simpa using hm
      generalize hM : maxI (may.map fun p => ds.getD p.toNat 0) = M at hgen
      have hM2 := blt_max_ints (st := st) h1
      rw [hM] at hM2
      simp only [R.bind_ok, k_lc2_f, k_xs1_eq, evXs_nil, k_xs2_eq, k_blt_eq, hM2, ofOpt_some, R.thn_ok, k_asg_eq]
      simp
      rw [lc_ints_filter (p := fun p => decide (ds.getD p.toNat 0 = M))]
      · rw [hgen]
        cases l with
        | nil => exact absurd rfl hn
        | cons x r => simp
      · intro x hx
        obtain ⟨h0, h2⟩ := hg x hx
        have h3 := get_it h0 h2
        generalize ds.getD x.toNat 0 = v at h3 ⊢
        obtain ⟨h5, h4⟩ := List.getElem?_eq_some_iff.mp h3
        by_cases hxm : v = M <;> simp [k_turn_eq, h0, h2, h4, hxm]
    · intro x hx
      obtain ⟨h0, h2⟩ := hg x hx
      have h3 := get_it h0 h2
      simp [k_turn_eq, h0, h2, h3]
theorem sp_book_behind (h11 : S_with_dues cf) (h12 : S_sum_of cf) (h13 : S_cut_off cf) {h : Hou} {book w : List Int} {g : Int} (hz : book.length ≤ 1000) (hw : ∀ p ∈ w, inn h p) (hl : h.kd = .points → book.length = h.sh.length) :
    evDef cf sub fu 11 b_book_behind [h.d, it book, it w, .int g] st = .ok (it (bookB h book w g)) st := by
  cases hk : h.kd with
  | turns =>
    simp only [bookB, hk]
    simp [evDef_fin, b_book_behind, cmp_turns, hk]
    rw [lc_ints_filter (p := fun p => decide (p ≠ g))]
    · have : (book.filter fun p => decide (p ≠ g)).length ≤ 1000 := Nat.le_trans (List.length_filter_le _ _) hz
      have h2 : (book.filter fun p => decide (p ≠ g)).length + 1 ≤ most := by unfold most; omega
      simp [evBin, it] at h2 ⊢
      simp [h2]
    · intro x hx
      by_cases hxm : x = g <;> simp [k_turn_eq, hxm]
  | first =>
    simp only [bookB, hk]
    simp [evDef_fin, b_book_behind, cmp_turns, cmp_first, hk]
  | points =>
    have hlen := hl hk
    simp only [bookB, hk]
    simp [evDef_fin, b_book_behind, cmp_turns, cmp_first, hk, h11 h book w st (by omega), h12 h w st hw]
    rw [lc_enm (F := fun i o => cutOff (o - if (i : Int) = g then sumOf h w else 0) h.mark)]
    · simp
    · intro i x hx
      by_cases hi : (i : Int) = g <;> simp [k_turn_eq, hi, h13 _ _ _]
theorem sp_run_behind {h : Hou} {run : Run} {g : Int} : evDef cf sub fu 4 b_run_behind [h.d, runD run, .int g] st = .ok (runD (runB h run g)) st := by
  by_cases h0 : h.most = 0
  · simp [evDef_fin, b_run_behind, runB, h0, runD]
  · cases run with
    | none => simp [evDef_fin, b_run_behind, runB, h0, runD, ne_nil_0]
    | some pk =>
      obtain ⟨p, k⟩ := pk
      by_cases h1 : p = g
      · simp [evDef_fin, b_run_behind, runB, h0, runD, ne_nil_2, h1, evBlt]
      · simp [evDef_fin, b_run_behind, runB, h0, runD, ne_nil_2, h1]
end
end LawT
namespace LawT
open PySem EV

/-! ### what a day keeps -/
theorem may_sub {h : Hou} {run : Run} {w : List Int} : ∀ p ∈ whoMay h run w, p ∈ w := by
  intro p hp
  unfold whoMay at hp
  split at hp
  · exact hp
  · split at hp
    · exact (List.mem_filter.mp hp).1
    · exact hp
theorem may_ne {h : Hou} {run : Run} {w : List Int} (hw : w.Pairwise (· < ·)) (hn : w ≠ []) : whoMay h run w ≠ [] := by
  unfold whoMay
  split
  · exact hn
  · rename_i p k
    split
    · rename_i c
      intro e
      have hall : ∀ x ∈ w, x = p := fun x hx => by
        by_cases hxp : x = p
        · exact hxp
        · have : x ∈ w.filter (fun x => decide (x ≠ p)) := List.mem_filter.mpr ⟨hx, by simpa using hxp⟩
          rw [e] at this; cases this
      match w, hn, hw, hall, c with
      | [x], _, _, hall, c => exact c.2.2 (by rw [hall x List.mem_cons_self])
      | x :: y :: r, _, hw, hall, _ =>
        have h1 := (List.pairwise_cons.mp hw).1 y List.mem_cons_self
        have h2 := hall x List.mem_cons_self
        have h3 := hall y (List.mem_cons_of_mem _ List.mem_cons_self)
        omega
    · exact hn
theorem pick_may {h : Hou} {book may w : List Int} : ∀ p ∈ pickL h book may w, p ∈ may := by
  intro p hp
  unfold pickL at hp
  split at hp
  · simpa using (List.mem_filter.mp hp).2
  · exact hp
  · exact (List.mem_filter.mp hp).1
theorem pick_book {h : Hou} {book may w : List Int} (hk : h.kd = .turns) : ∀ p ∈ pickL h book may w, p ∈ book := by
  intro p hp
  unfold pickL at hp
  rw [hk] at hp
  exact (List.mem_filter.mp hp).1
theorem head_mem {l : List Int} (hn : l ≠ []) : l.headD 0 ∈ l := by
  cases l with
  | nil => exact absurd rfl hn
  | cons x r => exact List.mem_cons_self
/-- who is given the boat -/
def giv (h : Hou) (s : Stg) (w : List Int) : Int := (pickL h s.1 (whoMay h s.2 w) w).headD 0
theorem iota_mem {n : Nat} {p : Int} : p ∈ iota n ↔ 0 ≤ p ∧ p < n := by
  unfold iota
  rw [List.mem_map]
  constructor
  · rintro ⟨i, hi, rfl⟩
    have := List.mem_range.mp hi
    omega
  · rintro ⟨h1, h2⟩
    exact ⟨p.toNat, List.mem_range.mpr (by omega), by omega⟩
theorem iota_nodup (n : Nat) : (iota n).Nodup := by
  unfold iota
  have : ∀ l : List Nat, l.Nodup → (l.map fun (i : Nat) => (i : Int)).Nodup := by
    intro l
    induction l with
    | nil => intro _; exact List.nodup_nil
    | cons x l ih =>
      intro h
      obtain ⟨h1, h2⟩ := List.nodup_cons.mp h
      rw [List.map_cons, List.nodup_cons]
      refine ⟨fun hm => ?_, ih h2⟩
      obtain ⟨y, hy, e⟩ := List.mem_map.mp hm
      have : y = x := by omega
      exact h1 (this ▸ hy)
  exact this _ List.nodup_range
theorem SOk.inbook {h : Hou} {s : Stg} (so : SOk h s) (hk : h.kd = .turns) {p : Int} (hp : inn h p) : p ∈ s.1 := by
  have := so.book
  rw [hk] at this
  exact this.mem_iff.mpr (iota_mem.mpr hp)
theorem SOk.plen {h : Hou} {s : Stg} (so : SOk h s) (hk : h.kd = .points) : s.1.length = h.sh.length := by
  have := so.book
  rw [hk] at this
  exact this.1
theorem SOk.len {h : Hou} {s : Stg} (so : SOk h s) : s.1.length ≤ h.sh.length := by
  have := so.book
  cases hk : h.kd <;> rw [hk] at this
  · rw [show s.1 = [] from this]; exact Nat.zero_le _
  · rw [(show s.1.Perm (iota h.sh.length) from this).length_eq]; simp [iota]
  · rw [this.1]; exact Nat.le_refl _
theorem giv_ne {h : Hou} {s : Stg} {w : List Int} (so : SOk h s) (wo : WOk h w) (hn : w ≠ []) : pickL h s.1 (whoMay h s.2 w) w ≠ [] :=
  pick_ne (may_ne wo.1 hn) fun hk p hp => so.inbook hk (wo.2 p (may_sub p hp))
theorem giv_may {h : Hou} {s : Stg} {w : List Int} (so : SOk h s) (wo : WOk h w) (hn : w ≠ []) : giv h s w ∈ whoMay h s.2 w := pick_may _ (head_mem (giv_ne so wo hn))
theorem giv_w {h : Hou} {s : Stg} {w : List Int} (so : SOk h s) (wo : WOk h w) (hn : w ≠ []) : giv h s w ∈ w := may_sub _ (giv_may so wo hn)
theorem move_perm : ∀ {l : List Int} {g : Int}, l.Nodup → g ∈ l → (l.filter (fun p => decide (p ≠ g)) ++ [g]).Perm l
  | x :: l, g, nd, hm => by
    obtain ⟨h1, h2⟩ := List.nodup_cons.mp nd
    by_cases e : x = g
    · subst e
      have : (x :: l).filter (fun p => decide (p ≠ x)) = l := by
        rw [List.filter_cons, if_neg (by simp)]
        exact List.filter_eq_self.mpr fun y hy => by
          have : y ≠ x := fun z => h1 (z ▸ hy)
          simpa using this
      rw [this]
      exact List.perm_append_comm
    · have hg : g ∈ l := by
        rcases List.mem_cons.mp hm with z | z
        · exact absurd z.symm e
        · exact z
      rw [List.filter_cons, if_pos (by simpa using e), List.cons_append]
      exact (move_perm h2 hg).cons x
theorem cut_in {n m : Int} (hm : 0 ≤ m) : -m ≤ cutOff n m ∧ cutOff n m ≤ m := by
  unfold cutOff
  split <;> split <;> omega
theorem mem_mapIdx' {α β : Type} {f : Nat → α → β} {l : List α} {b : β} (h : b ∈ l.mapIdx f) : ∃ i a, l[i]? = some a ∧ b = f i a := by
  obtain ⟨i, hi⟩ := List.getElem?_of_mem h
  rw [List.getElem?_mapIdx] at hi
  obtain ⟨a, ha, rfl⟩ := Option.map_eq_some_iff.mp hi
  exact ⟨i, a, ha, rfl⟩
theorem book_ok {h : Hou} (ho : h.Ok) {s : Stg} {w : List Int} (so : SOk h s) (wo : WOk h w) (hn : w ≠ []) : (match h.kd with
    | .turns => (bookB h s.1 w (giv h s w)).Perm (iota h.sh.length)
    | .points => (bookB h s.1 w (giv h s w)).length = h.sh.length ∧ ∀ x ∈ bookB h s.1 w (giv h s w), -h.mark ≤ x ∧ x ≤ h.mark
    | .first => bookB h s.1 w (giv h s w) = []) := by
  have hb := so.book
  cases hk : h.kd with
  | first => rw [hk] at hb; simp only [bookB, hk]; exact hb
  | turns =>
    rw [hk] at hb
    simp only [bookB, hk]
    have hb : s.1.Perm (iota h.sh.length) := hb
    exact (move_perm (hb.nodup_iff.mpr (iota_nodup _)) (pick_book hk _ (head_mem (giv_ne so wo hn)))).trans hb
  | points =>
    rw [hk] at hb
    simp only [bookB, hk]
    have hm : 0 ≤ h.mark := by rcases ho.mark with z | z <;> omega
    refine ⟨by rw [List.length_mapIdx, dues_len]; exact hb.1, fun x hx => ?_⟩
    obtain ⟨i, a, _, rfl⟩ := mem_mapIdx' hx
    exact cut_in hm
theorem run_ok {h : Hou} (ho : h.Ok) {s : Stg} {g : Int} (so : SOk h s) (hg : inn h g) : (match runB h s.2 g with
    | none => True
    | some (p, k) => inn h p ∧ 1 ≤ k ∧ k ≤ h.most) := by
  have hr := so.run
  unfold runB
  by_cases h0 : h.most = 0
  · rw [if_pos h0]; trivial
  · rw [if_neg h0]
    have := ho.most
    cases hs : s.2 with
    | none => exact ⟨hg, by omega, by omega⟩
    | some pk =>
      obtain ⟨p, k⟩ := pk
      rw [hs] at hr
      have hr : inn h p ∧ 1 ≤ k ∧ k ≤ h.most := hr
      simp only []
      by_cases e : p = g
      · rw [if_pos e]
        refine ⟨hg, ?_, ?_⟩ <;> split <;> omega
      · rw [if_neg e]
        exact ⟨hg, by omega, by omega⟩
theorem day_ok {h : Hou} (ho : h.Ok) {s : Stg} {w : List Int} (so : SOk h s) (wo : WOk h w) : SOk h (day h s w).1 := by
  unfold day
  by_cases hn : w = []
  · rw [if_pos hn]; exact so
  · rw [if_neg hn]
    exact ⟨book_ok ho so wo hn, run_ok ho so (wo.2 _ (giv_w so wo hn))⟩
theorem st0_ok {h : Hou} (ho : h.Ok) : SOk h (st0 h) := by
  refine ⟨?_, trivial⟩
  unfold st0
  have hm : 0 ≤ h.mark := by rcases ho.mark with z | z <;> omega
  cases hk : h.kd with
  | turns => exact List.Perm.refl _
  | first => rfl
  | points =>
    refine ⟨List.length_replicate, fun x hx => ?_⟩
    rw [(List.mem_replicate.mp hx).2]
    omega
/-! ### rows -/
def ledM (h : Hou) : Stg → List (List Int) → List (Stg × Option Int)
  | _, [] => []
  | s, w :: r => day h s w :: ledM h (day h s w).1 r
def behM (h : Hou) (s : Stg) (row : List (List Int)) : Stg := row.foldl (fun s w => (day h s w).1) s
def ROk (h : Hou) (row : List (List Int)) : Prop := ∀ w ∈ row, WOk h w
abbrev pD (p : Stg × Option Int) : D := .tup [stD p.1, givD p.2]
abbrev rowT (row : List (List Int)) : D := .tup (row.map it)
theorem led_len (h : Hou) : ∀ (row : List (List Int)) (s : Stg), (ledM h s row).length = row.length
  | [], _ => rfl
  | w :: r, s => by rw [ledM, List.length_cons, led_len h r, List.length_cons]
theorem led_last (h : Hou) : ∀ (row : List (List Int)) (s : Stg), row ≠ [] → ∃ g, (ledM h s row)[row.length - 1]? = some (behM h s row, g)
  | [], _, hn => absurd rfl hn
  | [w], s, _ => ⟨_, rfl⟩
  | w :: v :: r, s, _ => by
    obtain ⟨g, e⟩ := led_last h (v :: r) (day h s w).1 (by simp)
    refine ⟨g, ?_⟩
    rw [ledM]
    simp only [List.length_cons] at e ⊢
    simpa [behM] using e
theorem beh_ok {h : Hou} (ho : h.Ok) : ∀ {row : List (List Int)} {s : Stg}, SOk h s → ROk h row → SOk h (behM h s row)
  | [], s, so, _ => so
  | w :: r, s, so, ro => by
    have := beh_ok ho (row := r) (day_ok ho so (ro w List.mem_cons_self)) fun v hv => ro v (List.mem_cons_of_mem _ hv)
    exact this
theorem led_append (h : Hou) : ∀ (a b : List (List Int)) (s : Stg), ledM h s (a ++ b) = ledM h s a ++ ledM h (behM h s a) b
  | [], b, s => rfl
  | w :: a, b, s => by rw [List.cons_append, ledM, led_append h a b, ledM, List.cons_append]; rfl
theorem beh_append (h : Hou) (a b : List (List Int)) (s : Stg) : behM h s (a ++ b) = behM h (behM h s a) b := by unfold behM; rw [List.foldl_append]
/-! ### plain data -/
theorem kd_ok (k : Kd) : okStr k.s = true := by cases k <;> decide +kernel
theorem Hou.pl (h : Hou) : h.d.pl = true := by
  have := pl_it h.sh
  simp only [D.pl, D.pls, Bool.and_true, Bool.and_eq_true] at this ⊢
  exact ⟨this, kd_ok _⟩
theorem Hou.dep (h : Hou) : h.d.dep ≤ 2 := by
  have := dep_it h.sh
  simp only [D.dep, D.deps] at this ⊢
  omega
theorem all_from {l : List Int} {lo hi : Int} (h : ∀ x ∈ l, lo ≤ x ∧ x ≤ hi) : ((l.map D.int).all fun d => isFrom d lo hi) = true := by
  rw [List.all_eq_true]
  intro d hd
  obtain ⟨x, hx, rfl⟩ := List.mem_map.mp hd
  have := h x hx
  simpa [isFrom] using this
theorem Hou.is {h : Hou} (ho : h.Ok) : isHouse h.d = true := by
  have h1 := all_from ho.sh
  have h2 : isRule (.tup [.str h.kd.s, .int h.mark, .int h.most]) = true := by
    have hm := ho.most
    have hk := ho.mark
    have e1 : (("first" : Str) = "points") = False := by decide
    have e2 : (("turns" : Str) = "points") = False := by decide
    cases hkd : h.kd <;> rw [hkd] at hk <;> simp [isRule, isFrom, Kd.s, e1, e2] at hk ⊢ <;> omega
  have h3 := ho.len
  simp only [isHouse, h1, h2, Bool.and_true, List.length_map, Bool.and_eq_true, decide_eq_true_eq]
  omega
theorem runD_pl (r : Run) : (runD r).pl = true := by
  cases r with
  | none => rfl
  | some p => rfl
theorem runD_dep (r : Run) : (runD r).dep ≤ 1 := by
  cases r with
  | none => simp [runD, D.dep, D.deps]
  | some p => simp [runD, D.dep, D.deps]
theorem stD_pl (s : Stg) : (stD s).pl = true := by
  simp only [stD, D.pl, D.pls, Bool.and_true, Bool.and_eq_true]
  exact ⟨by have := pl_it s.1; simpa [D.pl] using this, runD_pl _⟩
theorem stD_dep (s : Stg) : (stD s).dep ≤ 2 := by
  have h1 := dep_it s.1
  have h2 := runD_dep s.2
  simp only [stD, D.dep, D.deps] at h1 h2 ⊢
  omega
theorem givD_pl (o : Option Int) : (givD o).pl = true := by cases o <;> rfl
theorem givD_dep (o : Option Int) : (givD o).dep = 0 := by cases o <;> simp [givD, D.dep]
theorem pD_pl (p : Stg × Option Int) : (pD p).pl = true := by
  have h1 := stD_pl p.1
  have h2 := givD_pl p.2
  rw [pD, D.pl, D.pls, D.pls, D.pls, h1, h2]; rfl
theorem pD_dep (p : Stg × Option Int) : (pD p).dep ≤ 3 := by
  have h1 := stD_dep p.1
  have h2 := givD_dep p.2
  simp only [pD, D.dep, D.deps] at h1 h2 ⊢
  omega
theorem rowT_pl (row : List (List Int)) : (rowT row).pl = true := by
  rw [rowT, D.pl]
  exact pls_of fun d hd => by obtain ⟨w, _, rfl⟩ := List.mem_map.mp hd; exact pl_it w
theorem rowT_dep (row : List (List Int)) : (rowT row).dep ≤ 2 := by
  rw [rowT, D.dep]
  have := deps_of (n := 1) (ds := row.map it) fun d hd => by obtain ⟨w, _, rfl⟩ := List.mem_map.mp hd; rw [dep_it]; exact Nat.le_refl _
  omega
theorem wish_is {h : Hou} {w : List Int} (wo : WOk h w) : isWish h.sh.length (it w) = true := by
  simp only [isWish, Bool.and_eq_true]
  refine ⟨all_from fun x hx => ?_, ?_⟩
  · have := wo.2 x hx
    unfold inn at this
    omega
  · have : (w.map D.int).map toI = w := by rw [List.map_map]; simp [toI, Function.comp_def]
    rw [this]
    exact (rises_iff w).mpr wo.1
theorem is_wish {h : Hou} {d : D} (hw : isWish h.sh.length d = true) : ∃ w, d = it w ∧ WOk h w := by
  cases d with
  | tup ds =>
    simp only [isWish, Bool.and_eq_true] at hw
    obtain ⟨e, q⟩ := ints_of_from hw.1
    refine ⟨ds.map toI, by rw [it, ← e], (rises_iff _).mp hw.2, fun p hp => ?_⟩
    have := q p hp
    unfold inn
    omega
  | _ => simp [isWish] at hw
theorem row_is {h : Hou} {row : List (List Int)} (ro : ROk h row) (hl : row.length ≤ 100) : isRow h.sh.length (rowT row) = true := by
  simp only [isRow, List.length_map, Bool.and_eq_true, decide_eq_true_eq, List.all_eq_true]
  refine ⟨hl, fun d hd => ?_⟩
  obtain ⟨w, hw, rfl⟩ := List.mem_map.mp hd
  exact wish_is (ro w hw)
theorem is_row {h : Hou} {d : D} (hr : isRow h.sh.length d = true) : ∃ row, d = rowT row ∧ ROk h row ∧ row.length ≤ 100 := by
  cases d with
  | tup ws =>
    simp only [isRow, Bool.and_eq_true, decide_eq_true_eq, List.all_eq_true] at hr
    obtain ⟨hl, hall⟩ := hr
    have : ∀ ws : List D, (∀ x ∈ ws, isWish h.sh.length x = true) → ∃ row : List (List Int), ws = row.map it ∧ ROk h row ∧ row.length = ws.length := by
      intro ws
      induction ws with
      | nil => intro _; exact ⟨[], rfl, (fun _ hw => by cases hw), rfl⟩
      | cons x xs ih =>
        intro q
        obtain ⟨w, rfl, wo⟩ := is_wish (q x List.mem_cons_self)
        obtain ⟨row, rfl, ro, hl⟩ := ih fun y hy => q y (List.mem_cons_of_mem _ hy)
        refine ⟨w :: row, rfl, fun v hv => ?_, by simp⟩
        rcases List.mem_cons.mp hv with z | z
        · exact z ▸ wo
        · exact ro v z
    obtain ⟨row, rfl, ro, hl2⟩ := this ws hall
    exact ⟨row, rfl, ro, by omega⟩
  | _ => simp [isRow] at hr
/-- a house that is drawn -/
theorem hs_hou {d : D} (hh : Hs d) : ∃ h : Hou, d = h.d ∧ h.Ok ∧ h.most ≤ 2 ∧ (h.sh.length = 3 → h.mark ≤ 1) := by
  obtain ⟨ss, x, m, c, rfl, hl, hc, hm⟩ := hh.form
  have hi := hh.ok
  simp only [isHouse, Bool.and_eq_true, decide_eq_true_eq] at hi
  obtain ⟨⟨_, h1⟩, h2⟩ := hi
  obtain ⟨e, q⟩ := ints_of_from h1
  have hsl : (ss.map toI).length = ss.length := List.length_map _
  have hk : ∃ k : Kd, x = k.s ∧ ((k = .points ∧ 1 ≤ m ∧ m ≤ 3) ∨ (k ≠ .points ∧ m = 0)) ∧ 0 ≤ c ∧ c ≤ 3 := by
    unfold isRule at h2
    simp only [] at h2
    split at h2
    · rename_i hx
      simp [isFrom] at h2
      exact ⟨.points, hx, .inl ⟨rfl, h2.1⟩, h2.2⟩
    · split at h2
      · rename_i hx
        simp [isFrom] at h2
        rcases hx with hx | hx
        · exact ⟨.first, hx, .inr ⟨by decide, by omega⟩, h2.2⟩
        · exact ⟨.turns, hx, .inr ⟨by decide, by omega⟩, h2.2⟩
      · cases h2
  obtain ⟨k, rfl, hk2, hk3⟩ := hk
  refine ⟨⟨ss.map toI, k, m, c⟩, ?_, ⟨by simp only [hsl]; exact hl, q, hk2, hk3⟩, hc, by simp only [hsl]; exact hm⟩
  simp only [Hou.d, it]
  rw [← e]
theorem und_src {st : Store} {l : Nat} (h : Src st l) : stUnd st = true := h.1.und
instance (h : Hou) (w : List Int) : Decidable (WOk h w) := by unfold WOk inn; infer_instance
instance (h : Hou) (row : List (List Int)) : Decidable (ROk h row) := by unfold ROk; infer_instance
instance (h : Hou) : Decidable h.Ok := decidable_of_iff ((h.sh.length = 2 ∨ h.sh.length = 3) ∧ (∀ s ∈ h.sh, 1 ≤ s ∧ s ≤ 3) ∧ ((h.kd = .points ∧ 1 ≤ h.mark ∧ h.mark ≤ 3) ∨ (h.kd ≠ .points ∧ h.mark = 0)) ∧ (0 ≤ h.most ∧ h.most ≤ 3)) ⟨fun q => ⟨q.1, q.2.1, q.2.2.1, q.2.2.2⟩, fun q => ⟨q.len, q.sh, q.mark, q.most⟩⟩
end LawT
namespace LawT
open PySem EV

def S_need_row (cf : Call) : Prop := ∀ ss r v st, D.pl v = true → ss.length ≤ 100 → cf 8 [.tup [.tup ss, r], v] st = if isRow ss.length v = true then .ok .non st else .exc 1 [] st
def S_day_behind (cf : Call) : Prop := ∀ (h : Hou) s w st, h.Ok → SOk h s → WOk h w → cf 18 [h.d, stD s, it w] st = .ok (pD (day h s w)) st
def S_led (cf : Call) : Prop := ∀ (h : Hou) row st, h.Ok → ROk h row → row.length ≤ 1000 → stUnd st = true → cf 19 [h.d, rowT row] st = .ok (.lst ((ledM h (st0 h) row).map pD)) st
section
variable {cf : Call} {st : Store}
theorem sp_need_row (h7 : S_has_row cf) {ss : List D} {r v : D} (hv : v.pl = true) (hs : ss.length ≤ 100) : evDef cf sub fu 2 b_need_row [.tup [.tup ss, r], v] st = if isRow ss.length v = true then .ok .non st else .exc 1 [] st := by
  have := h7 ss r v st hv hs
  cases hr : isRow ss.length v with
  | true => rw [hr] at this; simp [evDef_fin, b_need_row, this]
  | false => rw [hr] at this; simp [evDef_fin, b_need_row, this]
theorem sp_day_behind (hm : S_who_may cf) (hp : S_picked cf) (hb : S_book_behind cf) (hr : S_run_behind cf) {h : Hou} {s : Stg} {w : List Int} (ho : h.Ok) (so : SOk h s) (wo : WOk h w) : evDef cf sub fu 6 b_day_behind [h.d, stD s, it w] st = .ok (pD (day h s w)) st := by
  by_cases hn : w = []
  · subst hn
    have e0 : evCmp st .eq (it []) (.tup []) = some true := eq_nil_w (st := st) []
    simp [evDef_fin, b_day_behind, e0, day, pD, givD]
  · have e0 := eq_nil_w (st := st) w
    rw [decide_eq_false hn] at e0
    have e1 := hm h s.2 w st
    have e2 := hp h s.1 (whoMay h s.2 w) w st (fun p hp => wo.2 p (may_sub p hp)) (may_ne wo.1 hn) (fun hk p hp => so.inbook hk (wo.2 p (may_sub p hp))) so.plen
    have e3 := hb h s.1 w (giv h s w) st (by have := so.len; have := ho.len; omega) wo.2 so.plen
    have e4 := hr h s.2 (giv h s w) st
    have hd : day h s w = ((bookB h s.1 w (giv h s w), runB h s.2 (giv h s w)), some (giv h s w)) := by unfold day giv; rw [if_neg hn]
    rw [hd]
    have eg : (pickL h s.1 (whoMay h s.2 w) w).headD 0 = giv h s w := rfl
    rw [eg] at e2
    generalize giv h s w = g at e2 e3 e4
    simp [evDef_fin, b_day_behind, e0, e1, e2, e3, e4, pD, givD]
/-- the loop of led -/
theorem led_loop {dayk : Nat} {h : Hou} (hd : ∀ s w st, SOk h s → WOk h w → stUnd st = true → cf dayk [h.d, stD s, it w] st = .ok (pD (day h s w)) st) (ho : h.Ok) (hu : stUnd st = true) {x : D} : ∀ (row : List (List Int)) (s : Stg) (acc : List D) (o4 o5 : Option D), SOk h s → ROk h row → acc.length + row.length ≤ 1000 → D.pls acc = true →
    ∃ o4' o5', forLoop (k_ft cf sub fu (.name 4) (.cons (.asg (.tup (.cons (.name 3) (.cons (.name 5) .nil))) (.call dayk (.cons (.var 0) (.cons (.var 3) (.cons (.var 4) .nil))))) (.cons (.app (.var 2) (.tup (.cons (.var 3) (.cons (.var 5) .nil)))) .nil)))
      (row.map it) [some h.d, some x, some (.loc st.length), some (stD s), o4, o5] (st ++ [.lst acc]) = .nx [some h.d, some x, some (.loc st.length), some (stD (behM h s row)), o4', o5'] (st ++ [.lst (acc ++ (ledM h s row).map pD)])
  | [], s, acc, o4, o5, _, _, _, _ => ⟨o4, o5, by simp [forLoop, ledM, behM]⟩
  | w :: row, s, acc, o4, o5, so, ro, hl, ha => by
    have wo := ro w List.mem_cons_self
    have e1 := hd s w (st ++ [.lst acc]) so wo (stUnd_push hu (by rw [O.und]; exact unds_pls _ ha))
    simp only [List.length_cons] at hl
    obtain ⟨o4', o5', e2⟩ := led_loop hd ho hu row (day h s w).1 (acc ++ [pD (day h s w)]) (some (it w)) (some (givD (day h s w).2)) (day_ok ho so wo) (fun v hv => ro v (List.mem_cons_of_mem _ hv)) (by rw [List.length_append, List.length_singleton]; omega) (by rw [pls_append, ha, D.pls, pD_pl]; rfl)
    refine ⟨o4', o5', ?_⟩
    have hm : acc.length < most := by unfold most; omega
    have e3 : k_ft cf sub fu (.name 4) (.cons (.asg (.tup (.cons (.name 3) (.cons (.name 5) .nil))) (.call dayk (.cons (.var 0) (.cons (.var 3) (.cons (.var 4) .nil))))) (.cons (.app (.var 2) (.tup (.cons (.var 3) (.cons (.var 5) .nil)))) .nil)) (it w) [some h.d, some x, some (.loc st.length), some (stD s), o4, o5] (st ++ [.lst acc]) = .nx [some h.d, some x, some (.loc st.length), some (stD (day h s w).1), some (it w), some (givD (day h s w).2)] (st ++ [.lst (acc ++ [pD (day h s w)])]) := by
      simp [k_ft_eq, e1, isLoc, evApp, hm, pD]
    rw [List.map_cons, forLoop, e3]
    simp only []
    rw [e2, ledM, List.map_cons]
    simp [behM]
theorem sp_led (h0 : S_first_standing cf) (hd : S_day_behind cf) {h : Hou} {row : List (List Int)} (ho : h.Ok) (ro : ROk h row) (hl : row.length ≤ 1000) (hu : stUnd st = true) : evDef cf sub fu 6 b_led [h.d, rowT row] st = .ok (.lst ((ledM h (st0 h) row).map pD)) (st ++ [.gone]) := by
  obtain ⟨o4, o5, e⟩ := led_loop (cf := cf) (st := st) (x := rowT row) (fun s w st so wo _ => hd h s w st ho so wo) ho hu row (st0 h) [] none none (st0_ok ho) ro (by simpa using hl) rfl
  have e0 := h0 h (st ++ [.lst []]) ho
  simp only [List.nil_append] at e
  simp [evDef_fin, b_led, e0, e, evFrzv]
end
theorem led_und (h : Hou) (row : List (List Int)) (n : Nat) (s : Stg) : D.und n (.lst ((ledM h s row).map pD)) = true := und_pl _ (by
  rw [D.pl]
  exact pls_of fun d hd => by obtain ⟨p, _, rfl⟩ := List.mem_map.mp hd; exact pD_pl p)
end LawT
namespace LawT
open PySem EV

section
variable {cf : Call} {st : Store}
theorem ledD_ok (h : Hou) (s : Stg) (row : List (List Int)) : okD (.lst ((ledM h s row).map pD)) = true := by
  refine okD_of ?_ ?_
  · rw [D.pl]; exact pls_of fun d hd => by obtain ⟨p, _, rfl⟩ := List.mem_map.mp hd; exact pD_pl p
  · rw [D.dep]
    have := deps_of (n := 3) (ds := (ledM h s row).map pD) fun d hd => by obtain ⟨p, _, rfl⟩ := List.mem_map.mp hd; exact pD_dep p
    omega
end
end LawT
namespace LawT
open PySem EV

/-! ### the law's own days: wishes, rows, the first standing -/
def wishN (n : Nat) : List (List Int) := if n = 2 then [[], [0], [0, 1], [1]] else [[], [0], [0, 1], [0, 1, 2], [0, 2], [1], [1, 2], [2]]
theorem wishN_ok {h : Hou} (ho : h.Ok) : ∀ w ∈ wishN h.sh.length, WOk h w := by
  have h2 : ∀ w ∈ wishN 2, w.Pairwise (· < ·) ∧ ∀ p ∈ w, 0 ≤ p ∧ p < 2 := by decide +kernel
  have h3 : ∀ w ∈ wishN 3, w.Pairwise (· < ·) ∧ ∀ p ∈ w, 0 ≤ p ∧ p < 3 := by decide +kernel
  intro w hw
  unfold WOk inn
  rcases ho.len with e | e
  · rw [e] at hw ⊢; exact h2 w hw
  · rw [e] at hw ⊢; exact h3 w hw
def S_law_wishes (cf : Call) : Prop := ∀ (h : Hou) st, h.Ok → cf 32 [h.d] st = .ok (.lst ((wishN h.sh.length).map it)) st
def S_law_row (cf : Call) : Prop := ∀ l (h : Hou) (n : Int) st, Src st l → h.Ok → 0 ≤ n → n ≤ 1000 → ∃ row st', cf 33 [.loc l, h.d, .int n] st = .ok (rowT row) st' ∧ (ROk h row ∧ row.length = n.toNat) ∧ st'.length = st.length ∧ Src st' l
def S_law_first (cf : Call) : Prop := ∀ (h : Hou) st, h.Ok → cf 34 [h.d] st = .ok (stD (st0 h)) st
section
variable {cf : Call} {st : Store}
theorem sp_law_wishes {h : Hou} (ho : h.Ok) : evDef cf sub fu 4 b_law_wishes [h.d] st = .ok (.lst ((wishN h.sh.length).map it)) st := by
  obtain ⟨sh, kd, mark, most⟩ := h
  rcases ho.len with e | e
  · match sh, e with
    | [a, b], _ => exact sp_law_wishes_2
  · match sh, e with
    | [a, b, c], _ => exact sp_law_wishes_3
theorem wish_sl2 : evSl st (.lst ((wishN 2).map it)) (some (-2)) none = some (.lst (([[0, 1], [1]] : List (List Int)).map it)) := by kernel_rfl
theorem wish_sl3 : evSl st (.lst ((wishN 3).map it)) (some (-2)) none = some (.lst (([[1, 2], [2]] : List (List Int)).map it)) := by kernel_rfl
theorem wish_sl {n : Nat} (hn : n = 2 ∨ n = 3) : ∃ tl : List (List Int), evSl st (.lst ((wishN n).map it)) (some (-2)) none = some (.lst (tl.map it)) ∧ (∀ w ∈ tl, w ∈ wishN n) ∧ tl.length = 2 ∧ (wishN n).length ≤ 8 ∧ wishN n ≠ [] := by
  rcases hn with rfl | rfl
  · exact ⟨_, wish_sl2, by decide +kernel, rfl, by decide +kernel, by decide +kernel⟩
  · exact ⟨_, wish_sl3, by decide +kernel, rfl, by decide +kernel, by decide +kernel⟩
theorem its_of : ∀ xs : List D, (∀ x ∈ xs, ∃ w, x = it w ∧ WOk h w) → ∃ row : List (List Int), xs = row.map it ∧ ROk h row ∧ row.length = xs.length
  | [], _ => ⟨[], rfl, (fun _ h => by cases h), rfl⟩
  | x :: xs, q => by
    obtain ⟨w, rfl, hw⟩ := q x List.mem_cons_self
    obtain ⟨row, rfl, hr, hl⟩ := its_of xs fun y hy => q y (List.mem_cons_of_mem _ hy)
    refine ⟨w :: row, rfl, fun v hv => ?_, by simp⟩
    rcases List.mem_cons.mp hv with z | z
    · exact z ▸ hw
    · exact hr v z
theorem sp_law_row (hc : S_law_choice cf) (hwi : S_law_wishes cf) {l : Nat} {h : Hou} {n : Int} (hs : Src st l) (ho : h.Ok) (n0 : 0 ≤ n) (n1 : n ≤ 1000) : ∃ row st', evDef cf sub fu 5 b_law_row [.loc l, h.d, .int n] st = .ok (rowT row) st' ∧ (ROk h row ∧ row.length = n.toNat) ∧ st'.length = st.length ∧ Src st' l := by
  obtain ⟨tl, e1, t1, t2, t3, t4⟩ := wish_sl (st := st) ho.len
  have hwok := wishN_ok ho
  have e0 := hwi h st ho
  generalize wishN h.sh.length = ws at e0 e1 t1 t3 t4 hwok
  have esl : ∀ s, evSl s (.lst (ws.map it)) (some (-2)) none = some (.lst (tl.map it)) := fun s => e1
  have hadd : evBin .add (.lst (ws.map it)) (.lst (tl.map it)) = some (.lst ((ws ++ tl).map it)) := by
    have : ws.length + tl.length ≤ most := by unfold most; omega
    simp [evBin, this]
  obtain ⟨xs, st2, e2, ⟨hl2, hs2⟩, hn, hx⟩ := lc_inv (f := k_turn cf (.call 29 (.cons (.var 0) (.cons (.bin .add (.var 3) (.sl (.var 3) (.some (.neg (.con (.int 2)))) .none)) .nil))) (.name 4) .none [some (.loc l), some h.d, some (.int n), some (.lst (ws.map it)), none])
    (fun s => s.length = st.length ∧ Src s l) (fun x => ∃ w, x = it w ∧ WOk h w) (st := st) ((List.range n.toNat).map fun (i : Nat) => .int (i : Int)) [] ⟨rfl, hs⟩ (by
      intro d hd s ⟨q1, q2⟩
      obtain ⟨x, s', e', hx', hl', hs'⟩ := hc l ((ws ++ tl).map it) s q2 (by cases ws with
        | nil => exact absurd rfl t4
        | cons => simp) (by rw [List.length_map, List.length_append]; omega)
      obtain ⟨w, hw, rfl⟩ := List.mem_map.mp hx'
      refine ⟨it w, s', ?_, ⟨by omega, hs'⟩, w, rfl, ?_⟩
      · simp only [List.map_append] at e' hadd
        simp [k_turn_eq, esl, hadd, e']
      · rcases List.mem_append.mp hw with z | z
        · exact hwok w z
        · exact hwok w (t1 w z))
  obtain ⟨row, rfl, ro, hrl⟩ := its_of xs hx
  refine ⟨row, st2, ?_, ⟨ro, by rw [hrl, hn]; simp⟩, hl2, hs2⟩
  have hb : -4611686018427387904 ≤ n := by omega
  have hb2 : n ≤ ((most : Nat) : Int) := by unfold most; omega
  simp [evDef_fin, b_law_row, e0, hb, hb2, e2]
theorem sp_law_first {h : Hou} (ho : h.Ok) : evDef cf sub fu 3 b_law_first [h.d] st = .ok (stD (st0 h)) st := by
  have h1 : (h.sh.length : Int) ≤ ((most : Nat) : Int) := by unfold most; have := ho.len; omega
  have h2 : -4611686018427387904 ≤ (h.sh.length : Int) := by omega
  have e1 : evTrg (.int h.sh.length) = some (it (iota h.sh.length)) := by simp [evTrg, h1, h2, iota]
  have n1 : ¬ (("turns" : Str) = "first") := by decide
  have n2 : ¬ (("points" : Str) = "first") := by decide
  have n3 : ¬ (("points" : Str) = "turns") := by decide
  have e2 : lcLoop (k_turn cf (.con (.int 0)) (.name 2) .none [some h.d, some (it (iota h.sh.length)), none]) ((iota h.sh.length).map .int) [] st = .ok ((List.replicate h.sh.length (0 : Int)).map .int) st := by
    rw [lc_ints_map (F := fun _ => 0)]
    · rw [List.map_const']
      simp [iota]
    · intro x hx
      simp [k_turn_eq]
  cases hk : h.kd <;> simp [evDef_fin, b_law_first, e1, e2, evDgt, hk, Kd.s, st0, stD, runD, n1, n2, n3]
end
end LawT
namespace LawT
open PySem EV

/-! ### the law's own days: whom, day, led -/
theorem min_head {n : Int} : ∀ {r : List Int}, (∀ x ∈ r, n < x) → r.foldl (fun m x => if x < m then x else m) n = n
  | [], _ => rfl
  | x :: r, h => by
    rw [List.foldl_cons, if_neg (by have := h x List.mem_cons_self; omega)]
    exact min_head fun y hy => h y (List.mem_cons_of_mem _ hy)
def argm (d : Int → Int) : List Int → Int
  | [] => 0
  | [p] => p
  | p :: q :: r => if d p < d (argm d (q :: r)) then argm d (q :: r) else p
theorem argm_mem (d : Int → Int) : ∀ l : List Int, l ≠ [] → argm d l ∈ l
  | [], h => absurd rfl h
  | [p], _ => List.mem_cons_self
  | p :: q :: r, _ => by
    rw [argm]
    split
    · exact List.mem_cons_of_mem _ (argm_mem d (q :: r) (by simp))
    · exact List.mem_cons_self
theorem maxI_cons (a : Int) {r : List Int} (hr : r ≠ []) : maxI (a :: r) = if a < maxI r then maxI r else a := by
  have h1 := maxI_mem (l := a :: r) (by simp)
  have h2 := maxI_mem hr
  have h3 : a ≤ maxI (a :: r) := maxI_le List.mem_cons_self
  have h4 : maxI r ≤ maxI (a :: r) := maxI_le (List.mem_cons_of_mem _ h2)
  rcases List.mem_cons.mp h1 with e | e
  · split <;> omega
  · have := maxI_le e
    split <;> omega
theorem argm_max (d : Int → Int) : ∀ l : List Int, l ≠ [] → d (argm d l) = maxI (l.map d)
  | [], h => absurd rfl h
  | [p], _ => rfl
  | p :: q :: r, _ => by
    have ih := argm_max d (q :: r) (by simp)
    rw [argm, List.map_cons, maxI_cons _ (by simp), ← ih]
    split <;> rfl
theorem argm_first (d : Int → Int) : ∀ l : List Int, l ≠ [] → (l.filter fun p => decide (d p = maxI (l.map d))).headD 0 = argm d l
  | [], h => absurd rfl h
  | [p], _ => by simp [argm, maxI]
  | p :: q :: r, _ => by
    have ih := argm_first d (q :: r) (by simp)
    have hm := argm_max d (q :: r) (by simp)
    rw [argm, List.map_cons, maxI_cons _ (by simp), ← hm]
    rw [← hm] at ih
    split
    · rename_i c
      rw [List.filter_cons, if_neg (by simp; omega)]
      exact ih
    · rename_i c
      rw [List.filter_cons, if_pos (by simp)]
      rfl
theorem sort_argm (d : Int → Int) : ∀ l : List Int, l ≠ [] → l.Pairwise (· < ·) → ∃ t, sortL (l.map fun p => [-(d p), p]) = [-(d (argm d l)), argm d l] :: t
  | [], h, _ => absurd rfl h
  | [p], _, _ => ⟨[], rfl⟩
  | p :: q :: r, _, hp => by
    obtain ⟨h1, h2⟩ := List.pairwise_cons.mp hp
    obtain ⟨t, e⟩ := sort_argm d (q :: r) (by simp) h2
    have hm := h1 _ (argm_mem d (q :: r) (by simp))
    rw [List.map_cons]
    have e' : sortL ([-(d p), p] :: (q :: r).map fun p => [-(d p), p]) = insL [-(d p), p] (sortL ((q :: r).map fun p => [-(d p), p])) := rfl
    rw [e', e, insL, argm]
    generalize argm d (q :: r) = g at hm
    have hl : EV.lexLt [-(d g), g] [-(d p), p] = decide (d p < d g) := by
      rw [EV.lexLt]
      by_cases c : -(d g) = -(d p)
      · rw [if_pos c, EV.lexLt, if_neg (by omega), Bool.eq_iff_iff]
        simp; omega
      · rw [if_neg c, Bool.eq_iff_iff]
        simp
    rw [hl]
    by_cases c : d p < d g
    · rw [if_pos (by simpa using c), if_pos c]; exact ⟨_, rfl⟩
    · rw [if_neg (by simpa using c), if_neg c]; exact ⟨_, rfl⟩
theorem rowsOf_two (f g : Int → Int) : ∀ l : List Int, rowsOf (l.map fun p => D.tup [.int (f p), .int (g p)]) = some (l.map fun p => [f p, g p])
  | [] => rfl
  | x :: l => by rw [List.map_cons, rowsOf, rowsOf_two f g l]; rfl
theorem blt_sort_two {st : Store} (f g : Int → Int) (l : List Int) : evBlt st .sortedT [.lst (l.map fun p => D.tup [.int (f p), .int (g p)])] = some (.lst ((sortL (l.map fun p => [f p, g p])).map rowD)) := by
  have : twos (l.map fun p => [f p, g p]) = true := by
    unfold twos
    rw [List.all_eq_true]
    intro r hr
    obtain ⟨p, _, rfl⟩ := List.mem_map.mp hr
    rfl
  simp [evBlt, rowsOf_two, this]
theorem enm_ints_m (l : List Int) (F : Nat → Int → Int) : l.mapIdx F = l.mapIdx F := rfl
theorem book_set {h : Hou} {book w : List Int} {g : Int} (g0 : 0 ≤ g) : ((dues h book w).set g.toNat ((dues h book w).getD g.toNat 0 - sumOf h w)).map (fun x => cutOff x h.mark) = (dues h book w).mapIdx fun i o => cutOff (o - if (i : Int) = g then sumOf h w else 0) h.mark := by
  apply List.ext_getElem?
  intro i
  rw [List.getElem?_map, List.getElem?_mapIdx, List.getElem?_set]
  by_cases c : g.toNat = i
  · have : (i : Int) = g := by omega
    rw [if_pos c, this, if_pos rfl]
    subst c
    by_cases hl : g.toNat < (dues h book w).length
    · rw [if_pos hl]; simp [hl]
    · rw [if_neg hl]; simp [hl]
  · have : ¬ (i : Int) = g := by omega
    rw [if_neg c, if_neg this]
    simp
def S_law_whom (cf : Call) : Prop := ∀ (h : Hou) book w may st, h.Ok → may ≠ [] → may.Pairwise (· < ·) → (∀ p ∈ may, inn h p) → (∀ p ∈ w, inn h p) → (h.kd = .turns → ∀ p ∈ may, p ∈ book) → (h.kd = .points → book.length = h.sh.length) → book.length ≤ 1000 → stUnd st = true →
  cf 35 [h.d, it book, it w, il may] st = .ok (.tup [.int ((pickL h book may w).headD 0), it (bookB h book w ((pickL h book may w).headD 0))]) st
section
variable {cf : Call} {st : Store}
theorem blt_min_ints {l : List Int} (h : l ≠ []) (hp : l.Pairwise (· < ·)) : evBlt st .min1 [.lst (l.map .int)] = some (.int (l.headD 0)) := by
  cases l with
  | nil => exact absurd rfl h
  | cons n r =>
    simp only [evBlt, intsOf_map]
    show some (D.int _) = _
    rw [min_head (List.pairwise_cons.mp hp).1]
    rfl
theorem sp_law_whom {h : Hou} {book w may : List Int} (ho : h.Ok) (hn : may ≠ []) (hp : may.Pairwise (· < ·)) (hi : ∀ p ∈ may, inn h p) (hw : ∀ p ∈ w, inn h p) (hb : h.kd = .turns → ∀ p ∈ may, p ∈ book) (hl : h.kd = .points → book.length = h.sh.length) (hz : book.length ≤ 1000) :
    ∃ junk, evDef cf sub fu 12 b_law_whom [h.d, it book, it w, il may] st = .ok (.tup [.int ((pickL h book may w).headD 0), it (bookB h book w ((pickL h book may w).headD 0))]) (st ++ junk) := by
  have hpn := pick_ne (w := w) hn hb
  cases hk : h.kd with
  | first =>
    refine ⟨[], ?_⟩
    simp only [pickL, bookB, hk]
    simp [evDef_fin, b_law_whom, cmp_first, hk, blt_min_ints hn hp]
  | turns =>
    refine ⟨[], ?_⟩
    simp only [pickL, bookB, hk] at hpn ⊢
    have e1 : lcLoop (k_turn cf (.var 8) (.name 8) (.some (.cmp .isIn (.var 8) (.var 3))) [some h.d, some (it book), some (it w), some (il may), some (.str Kd.turns.s), some (.int h.mark), some (.int h.most), none, none, none, none, none]) (book.map .int) [] st = .ok ((book.filter fun p => decide (p ∈ may)).map .int) st :=
      lc_ints_filter _ fun x hx => by by_cases hxm : x ∈ may <;> simp [k_turn_eq, cmp_in_il, hxm]
    generalize book.filter (fun p => decide (p ∈ may)) = l at hpn e1 ⊢
    cases l with
    | nil => exact absurd rfl hpn
    | cons x r =>
      have e2 : lcLoop (k_turn cf (.var 8) (.name 8) (.some (.cmp .ne (.var 8) (.var 7))) [some h.d, some (it book), some (it w), some (il may), some (.str Kd.turns.s), some (.int h.mark), some (.int h.most), some (.int x), none, none, none, none]) (book.map .int) [] st = .ok ((book.filter fun p => decide (p ≠ x)).map .int) st :=
        lc_ints_filter _ fun y hy => by by_cases hxm : y = x <;> simp [k_turn_eq, hxm]
      simp only [List.headD_cons]
      have hlen : (book.filter fun p => decide (p ≠ x)).length ≤ 1000 := Nat.le_trans (List.length_filter_le _ _) hz
      generalize hl2 : book.filter (fun p => decide (p ≠ x)) = l2 at e2 hlen
      have h2 : l2.length + 1 ≤ most := by unfold most; omega
      simp [evDef_fin, b_law_whom, cmp_turns, cmp_first, hk, e1, e2, evBin, h2]
      rw [← hl2]
      refine congrArg (List.map D.int) (List.filter_congr fun p _ => ?_)
      by_cases hpx : p = x <;> simp [hpx]
  | points =>
    have hlen := hl hk
    refine ⟨[.gone], ?_⟩
    simp only [pickL, bookB, hk] at hpn ⊢
    rw [argm_first _ _ hn]
    have hbs := book_set (h := h) (book := book) (w := w) (g := argm (fun p => (dues h book w).getD p.toNat 0) may)
    have hdl := dues_len h book w
    have e1 : lcLoop (k_turn cf (.bin .add (.var 10) (.ife (.cmp .isIn (.var 8) (.var 2)) (.idx (.idx (.var 0) (.con (.int 0))) (.var 8)) (.con (.int 0)))) (.tup (.cons (.name 8) (.cons (.name 10) .nil))) .none [some h.d, some (it book), some (it w), some (il may), some (.str Kd.points.s), some (.int h.mark), some (.int h.most), none, none, none, none, none])
        ((book.map D.int).mapIdx fun i d => .tup [.int i, d]) [] st = .ok ((dues h book w).map .int) st :=
      lc_enm (F := fun i o => o + if (i : Int) ∈ w then h.sh.getD i 0 else 0) _ fun i x hx => by
        have hi : i < h.sh.length := by have := (List.getElem?_eq_some_iff.mp hx).1; omega
        by_cases hw : (i : Int) ∈ w <;> simp [k_turn_eq, cmp_in_it, hw, hi]
    have hs := sort_argm (fun p => (dues h book w).getD p.toNat 0) may hn hp
    have hgm := argm_mem (fun p => (dues h book w).getD p.toNat 0) may hn
    generalize argm (fun p => (dues h book w).getD p.toNat 0) may = g at hs hgm hbs ⊢
    obtain ⟨g0, g1⟩ := hi g hgm
    have hbs := hbs g0
    rw [← hbs]
    generalize dues h book w = ds at e1 hs hbs hdl ⊢
    have hg : ∀ p ∈ may, 0 ≤ p ∧ p < (ds.length : Int) := fun p hp => by rw [hdl, hlen]; exact hi p hp
    obtain ⟨t, hs⟩ := hs
    have e2 : lcLoop (k_turn cf (.tup (.cons (.neg (.idx (.var 9) (.var 8))) (.cons (.var 8) .nil))) (.name 8) .none [some h.d, some (it book), some (it w), some (il may), some (.str Kd.points.s), some (.int h.mark), some (.int h.most), none, none, some (.loc st.length), none, none]) (may.map .int) [] (st ++ [.lst (ds.map .int)])
        = .ok (may.map fun p => D.tup [.int (-(ds.getD p.toNat 0)), .int p]) (st ++ [.lst (ds.map .int)]) :=
      lc_ints_mapD _ fun x hx => by
        obtain ⟨h0, h2⟩ := hg x hx
        have h3 := get_it h0 h2
        simp [k_turn_eq, evIdx, seqOf, deref, h0, h2, h3]
    have e3 := blt_sort_two (st := st ++ [.lst (ds.map .int)]) (fun p => -(ds.getD p.toNat 0)) (fun p => p) may
    rw [hs] at e3
    have e4 : lcLoop (k_turn cf (.idx (.idx (.var 0) (.con (.int 0))) (.var 8)) (.name 8) .none [some h.d, some (it book), some (it w), some (il may), some (.str Kd.points.s), some (.int h.mark), some (.int h.most), some (.int g), none, some (.loc st.length), none, none]) (w.map .int) [] (st ++ [.lst (ds.map .int)])
        = .ok ((w.map fun p => h.sh.getD p.toNat 0).map .int) (st ++ [.lst (ds.map .int)]) :=
      lc_ints_map _ fun x hx => by
        obtain ⟨h0, h2⟩ := hw x hx
        have h3 := get_it h0 h2
        simp [k_turn_eq, h0, h2, h3]
    have e5 : ∀ s, evBlt s .sum [.lst ((w.map fun p => h.sh.getD p.toNat 0).map .int)] = some (.int (sumOf h w)) := fun s => by simp only [blt_sum_ints, sumOf]
    generalize (w.map fun p => h.sh.getD p.toNat 0) = ws at e4 e5
    generalize sumOf h w = su at e5 hbs ⊢
    have e6 : lcLoop (k_turn cf (.blt .max2 (.cons (.neg (.var 5)) (.cons (.blt .min2 (.cons (.var 5) (.cons (.var 11) .nil))) .nil))) (.name 11) .none [some h.d, some (it book), some (it w), some (il may), some (.str Kd.points.s), some (.int h.mark), some (.int h.most), some (.int g), none, some (il (ds.set g.toNat (ds.getD g.toNat 0 - su))), none, none]) ((ds.set g.toNat (ds.getD g.toNat 0 - su)).map .int) [] (st ++ [.gone])
        = .ok (((ds.set g.toNat (ds.getD g.toNat 0 - su)).map fun x => cutOff x h.mark).map .int) (st ++ [.gone]) :=
      lc_ints_map _ fun x hx => by simp [k_turn_eq, cutOff]
    have g2 : g < (ds.length : Int) := (hg g hgm).2
    have g3 := get_it g0 g2
    have hset : (ds.map D.int).set g.toNat (.int (ds.getD g.toNat 0 - su)) = (ds.set g.toNat (ds.getD g.toNat 0 - su)).map .int := by rw [List.map_set]
    rw [List.map_cons] at e3
    have er : rowD [-ds.getD g.toNat 0, g] = .tup [.int (-ds.getD g.toNat 0), .int g] := rfl
    rw [er] at e3
    generalize t.map rowD = t' at e3
    generalize (may.map fun p => D.tup [.int (-(ds.getD p.toNat 0)), .int p]) = rws at e2 e3
    generalize ds.getD g.toNat 0 = dg at e3 e6 g3 hset hs ⊢
    generalize ds.set g.toNat (dg - su) = ds2 at e6 hset ⊢
    generalize ds2.map (fun x => cutOff x h.mark) = ds3 at e6 ⊢
    obtain ⟨g5, g6⟩ := List.getElem?_eq_some_iff.mp g3
    simp [evDef_fin, b_law_whom, cmp_turns, cmp_first, hk, e1, e2, e3, e4, e5, e6, evIdx, seqOf, deref, g0, g2, g6, evSto, evFrzv, hset]
end
end LawT
namespace LawT
open PySem EV

def S_law_day (cf : Call) : Prop := ∀ (h : Hou) s w st, h.Ok → SOk h s → WOk h w → stUnd st = true → cf 36 [h.d, stD s, it w] st = .ok (pD (day h s w)) st
def S_law_led (cf : Call) : Prop := ∀ (h : Hou) row st, h.Ok → ROk h row → row.length ≤ 1000 → stUnd st = true → cf 37 [h.d, rowT row] st = .ok (.lst ((ledM h (st0 h) row).map pD)) st
/-- the law's way to say who may -/
def lawMay (h : Hou) (run : Run) (w : List Int) : List Int := match run with
  | none => w
  | some (p, k) => if 0 < h.most ∧ h.most ≤ k ∧ 1 < (w.length : Int) then w.filter (fun x => decide (x ≠ p)) else w
theorem lawMay_eq {h : Hou} {s : Stg} {w : List Int} (so : SOk h s) (wo : WOk h w) (hn : w ≠ []) : lawMay h s.2 w = whoMay h s.2 w := by
  have hr := so.run
  unfold lawMay whoMay
  cases hs : s.2 with
  | none => rfl
  | some pk =>
    obtain ⟨p, k⟩ := pk
    rw [hs] at hr
    have hr : inn h p ∧ 1 ≤ k ∧ k ≤ h.most := hr
    simp only []
    match w, hn with
    | [x], _ =>
      rw [if_neg (by simp)]
      by_cases c : 0 < h.most ∧ k = h.most ∧ [x] ≠ [p]
      · rw [if_pos c]
        have : x ≠ p := fun e => c.2.2 (by rw [e])
        simp [this]
      · rw [if_neg c]
    | x :: y :: r, _ =>
      have hl : 1 < ((x :: y :: r).length : Int) := by simp; omega
      have hq : x :: y :: r ≠ [p] := by simp
      by_cases c : 0 < h.most ∧ k = h.most
      · rw [if_pos ⟨c.1, by omega, hl⟩, if_pos ⟨c.1, c.2, hq⟩]
      · rw [if_neg (fun z => c ⟨z.1, by omega⟩), if_neg (fun z => c ⟨z.1, z.2.1⟩)]
theorem filter_pw {l : List Int} {p : Int → Bool} (h : l.Pairwise (· < ·)) : (l.filter p).Pairwise (· < ·) := h.filter p
theorem may_pw {h : Hou} {run : Run} {w : List Int} (hw : w.Pairwise (· < ·)) : (whoMay h run w).Pairwise (· < ·) := by
  unfold whoMay
  split
  · exact hw
  · split
    · exact filter_pw hw
    · exact hw
section
variable {cf : Call} {st : Store}
theorem sp_law_day (hwm : S_law_whom cf) {h : Hou} {s : Stg} {w : List Int} (ho : h.Ok) (so : SOk h s) (wo : WOk h w) (hu : stUnd st = true) : evDef cf sub fu 11 b_law_day [h.d, stD s, it w] st = .ok (pD (day h s w)) st := by
  by_cases hn : w = []
  · subst hn
    have e0 : evCmp st .eq (it []) (.tup []) = some true := eq_nil_w (st := st) []
    simp [evDef_fin, b_law_day, e0, day, pD, givD]
  · have e0 := eq_nil_w (st := st) w
    rw [decide_eq_false hn] at e0
    have hmay := lawMay_eq so wo hn
    have e1 := hwm h s.1 w (whoMay h s.2 w) st ho (may_ne wo.1 hn) (may_pw wo.1) (fun p hp => wo.2 p (may_sub p hp)) wo.2 (fun hk p hp => so.inbook hk (wo.2 p (may_sub p hp))) so.plen (by have := so.len; have := ho.len; omega) hu
    have hd : day h s w = ((bookB h s.1 w (giv h s w), runB h s.2 (giv h s w)), some (giv h s w)) := by unfold day giv; rw [if_neg hn]
    rw [hd]
    have eg : (pickL h s.1 (whoMay h s.2 w) w).headD 0 = giv h s w := rfl
    rw [eg] at e1
    generalize giv h s w = g at e1 ⊢
    have hr := so.run
    obtain ⟨book, run⟩ := s
    simp only [] at e1 hmay hr
    cases run with
    | none =>
      have hmay : w = whoMay h none w := hmay
      rw [← hmay] at e1
      by_cases c0 : h.most = 0
      · simp [evDef_fin, b_law_day, e0, e1, c0, runD, stD, pD, givD, runB]
      · have c1 : 0 < h.most := by have := ho.most; omega
        have c2 : (if 1 < h.most then (1 : Int) else h.most) = 1 := by split <;> omega
        simp [evDef_fin, b_law_day, e0, e1, c0, c1, c2, runD, stD, pD, givD, runB, ne_nil_0]
    | some pk =>
      obtain ⟨p, k⟩ := pk
      have hr : inn h p ∧ 1 ≤ k ∧ k ≤ h.most := hr
      have c1 : 0 < h.most := by omega
      have c0 : ¬ h.most = 0 := by omega
      unfold lawMay at hmay
      simp only [c1, true_and] at hmay
      have ef : ∀ (o0 o1 o2 o3 o5 o6 : Option D), lcLoop (k_turn cf (.var 7) (.name 7) (.some (.cmp .ne (.var 7) (.idx (.var 4) (.con (.int 0))))) [o0, o1, o2, o3, some (.tup [.int p, .int k]), o5, o6, none, none, none, none]) (w.map .int) [] st = .ok ((w.filter fun x => decide (x ≠ p)).map .int) st := fun o0 o1 o2 o3 o5 o6 =>
        lc_ints_filter _ fun x hx => by by_cases hxm : x = p <;> simp [k_turn_eq, hxm]
      have hsw : (if h.most < k + 1 then h.most else k + 1) = if k + 1 < h.most then k + 1 else h.most := by split <;> split <;> omega
      have fin1 : (if 1 + k < h.most then 1 + k else h.most) = if k + 1 < h.most then k + 1 else h.most := by
        have : 1 + k = k + 1 := by omega
        rw [this]
      have c2 : (if 1 < h.most then (1 : Int) else h.most) = 1 := by split <;> omega
      by_cases c : h.most ≤ k ∧ 1 < (w.length : Int)
      · rw [if_pos c] at hmay
        rw [← hmay] at e1
        generalize w.filter (fun x => decide (x ≠ p)) = w2 at e1 ef
        by_cases hpg : p = g
        · subst hpg
          simp [evDef_fin, b_law_day, e0, e1, c0, c1, c.1, c.2, runD, stD, pD, givD, runB, ne_nil_2, ef, fin1]
          try simp at fin1
          try simp [fin1]
        · simp [evDef_fin, b_law_day, e0, e1, c0, c1, c.1, c.2, runD, stD, pD, givD, runB, ne_nil_2, ef, hpg, c2]
      · rw [if_neg c] at hmay
        rw [← hmay] at e1
        by_cases c3 : h.most ≤ k
        · have c4 : ¬ 1 < (w.length : Int) := fun z => c ⟨c3, z⟩
          by_cases hpg : p = g
          · subst hpg
            simp [evDef_fin, b_law_day, e0, e1, c0, c1, c3, c4, runD, stD, pD, givD, runB, ne_nil_2, fin1]
          · simp [evDef_fin, b_law_day, e0, e1, c0, c1, c3, c4, runD, stD, pD, givD, runB, ne_nil_2, hpg, c2]
        · by_cases hpg : p = g
          · subst hpg
            simp [evDef_fin, b_law_day, e0, e1, c0, c1, c3, runD, stD, pD, givD, runB, ne_nil_2, fin1]
          · simp [evDef_fin, b_law_day, e0, e1, c0, c1, c3, runD, stD, pD, givD, runB, ne_nil_2, hpg, c2]
theorem sp_law_led (h0 : S_law_first cf) (hd : S_law_day cf) {h : Hou} {row : List (List Int)} (ho : h.Ok) (ro : ROk h row) (hl : row.length ≤ 1000) (hu : stUnd st = true) : evDef cf sub fu 6 b_law_led [h.d, rowT row] st = .ok (.lst ((ledM h (st0 h) row).map pD)) (st ++ [.gone]) := by
  obtain ⟨o4, o5, e⟩ := led_loop (cf := cf) (st := st) (x := rowT row) (fun s w st so wo hu => hd h s w st ho so wo hu) ho hu row (st0 h) [] none none (st0_ok ho) ro (by simpa using hl) rfl
  have e0 := h0 h (st ++ [.lst []]) ho
  simp only [List.nil_append] at e
  simp [evDef_fin, b_law_led, e0, e, evFrzv]
theorem row_ne (row : List (List Int)) : evCmp st .ne (rowT row) (.tup []) = some (!decide (row = [])) := by
  have := cmp_ne_nil_t (st := st) (okD_of (rowT_pl row) (Nat.le_trans (rowT_dep row) (by decide)))
  rw [this]
  cases row <;> simp
end
end LawT
namespace LawT
open PySem EV

/-! ### Euclid, fractions -/
theorem fmod_nat (a b : Nat) : ((a : Int)).fmod (b : Int) = ((a % b : Nat) : Int) := by
  rw [Int.fmod_eq_emod_of_nonneg _ (by omega), Int.natCast_emod]
/-- Euclid's loop ends with the divisor -/
theorem euclid {c : Sl → Store → R D} {f : Sl → Store → RS} {st : Store} (S : Nat → Nat → Sl) (hc : ∀ a b, c (S a b) st = .ok (.bl (decide (0 < b))) st) (hf : ∀ a b, 0 < b → f (S a b) st = .nx (S b (a % b)) st) :
    ∀ (n a b m : Nat), b < 2 ^ n → 2 * n + 1 ≤ m → whlLoop c f m (S a b) st = .nx (S (Nat.gcd a b) 0) st
  | n, a, 0, m + 1, _, _ => by
    rw [whlLoop, hc]
    simp
  | 0, a, b + 1, m, hb, _ => by simp at hb
  | n + 1, a, b + 1, m + 2, hb, hm => by
    have h1 : a % (b + 1) < b + 1 := Nat.mod_lt _ (by omega)
    rw [whlLoop, hc]
    simp only [Nat.zero_lt_succ, decide_true]
    rw [hf _ _ (by omega)]
    simp only []
    rw [whlLoop, hc]
    by_cases q : 0 < a % (b + 1)
    · simp only [q, decide_true]
      rw [hf _ _ q]
      simp only []
      have h2 : (b + 1) % (a % (b + 1)) < 2 ^ n := by
        have h3 : (b + 1) % (a % (b + 1)) < a % (b + 1) := Nat.mod_lt _ q
        have h4 : (b + 1) % (a % (b + 1)) ≤ b + 1 - a % (b + 1) := by
          have := Nat.div_add_mod (b + 1) (a % (b + 1))
          have h5 : 1 ≤ (b + 1) / (a % (b + 1)) := (Nat.one_le_div_iff q).mpr (Nat.le_of_lt h1)
          have h6 : a % (b + 1) * 1 ≤ a % (b + 1) * ((b + 1) / (a % (b + 1))) := Nat.mul_le_mul_left _ h5
          omega
        rw [Nat.pow_succ] at hb
        omega
      rw [euclid S hc hf n _ _ m h2 (by omega)]
      rw [Nat.gcd_comm a (b + 1), Nat.gcd_rec (b + 1) a, Nat.gcd_comm (a % (b + 1)) (b + 1), Nat.gcd_comm (a % (b + 1)), Nat.gcd_comm (b + 1), Nat.gcd_rec (a % (b + 1)) (b + 1), Nat.gcd_comm]
    · have q0 : a % (b + 1) = 0 := by omega
      simp only [q, decide_false]
      rw [q0, Nat.gcd_comm a (b + 1), Nat.gcd_rec (b + 1) a, q0]
      simp
  | _, _, _, 0, _, h => by omega
  | n + 1, a, b + 1, 1, _, h => by omega
/-- a fraction as a pair -/
def frD (q : Rat) : D := .tup [.int q.num, .int q.den]
theorem frD_mk {t : Int} {b : Nat} (hb : 0 < b) : frD (mkRat t b) = .tup [.int (t.fdiv (Nat.gcd t.natAbs b)), .int ((b : Int).fdiv (Nat.gcd t.natAbs b))] := by
  have h0 : b ≠ 0 := by omega
  have hg : 0 < Nat.gcd t.natAbs b := Nat.gcd_pos_of_pos_right _ hb
  unfold frD
  rw [Rat.num_mkRat, Rat.den_mkRat, if_neg h0, if_neg h0, Nat.gcd_comm b, Int.fdiv_eq_ediv_of_nonneg _ (by omega), Int.fdiv_eq_ediv_of_nonneg _ (by omega), Int.natCast_ediv]
theorem frD_inj {p q : Rat} : frD p = frD q ↔ p = q := by
  constructor
  · intro h
    unfold frD at h
    injection h with h
    injection h with h1 h2
    injection h1 with h1
    injection h2 with h2 _
    injection h2 with h2
    exact Rat.ext h1 (by omega)
  · rintro rfl; rfl
theorem frD_pl (q : Rat) : (frD q).pl = true := rfl
theorem frD_dep (q : Rat) : (frD q).dep = 1 := by simp [frD, D.dep, D.deps]
/-! ### parts of a day -/
def comM (a b : Int) : Int := a.fdiv (Nat.gcd a.natAbs b.natAbs) * b
def partsM (h : Hou) : Int := (wishN h.sh.length).foldl (fun f w => if w = [] then f else comM f (sumOf h w)) 1
def dueM (h : Hou) (parts : Int) (w : List Int) (p : Int) : Int := if p ∈ w then (h.sh.getD p.toNat 0 * parts).fdiv (sumOf h w) else 0
def chgM (h : Hou) (parts : Int) (w : List Int) (g : Option Int) (p : Int) : Int := dueM h parts w p - if g = some p then parts else 0
def balStep (h : Hou) (parts : Int) (acc : List Int) (x : List Int × Stg × Option Int) : List Int := acc.mapIdx fun i o => o + chgM h parts x.1 x.2.2 i
def balM (h : Hou) (row : List (List Int)) : List Int := (row.zip (ledM h (st0 h) row)).foldl (balStep h (partsM h)) (List.replicate h.sh.length 0)
/-- what is true of all shares there can be -/
def shOk (sh : List Int) (parts : Int) : Bool := decide (0 < parts) && decide (parts ≤ 2520) && (wishN sh.length).all fun w => decide (w = []) || (decide (0 < (w.map fun p => sh.getD p.toNat 0).sum) && decide ((w.map fun p => sh.getD p.toNat 0).sum ≤ 9) && decide (parts.fmod (w.map fun p => sh.getD p.toNat 0).sum = 0))
def partsS (sh : List Int) : Int := (wishN sh.length).foldl (fun f w => if w = [] then f else comM f (w.map fun p => sh.getD p.toNat 0).sum) 1
theorem sh2_ok : ∀ a ∈ ([1, 2, 3] : List Int), ∀ b ∈ ([1, 2, 3] : List Int), shOk [a, b] (partsS [a, b]) = true := by decide +kernel
theorem sh3_ok : ∀ a ∈ ([1, 2, 3] : List Int), ∀ b ∈ ([1, 2, 3] : List Int), ∀ c ∈ ([1, 2, 3] : List Int), shOk [a, b, c] (partsS [a, b, c]) = true := by decide +kernel
theorem parts_ok {h : Hou} (ho : h.Ok) : 0 < partsM h ∧ partsM h ≤ 2520 ∧ ∀ w ∈ wishN h.sh.length, w ≠ [] → 0 < sumOf h w ∧ sumOf h w ≤ 9 ∧ (partsM h).fmod (sumOf h w) = 0 := by
  have e : shOk h.sh (partsM h) = true := by
    have m : ∀ x, 1 ≤ x ∧ x ≤ 3 → x ∈ ([1, 2, 3] : List Int) := fun x hx => by simp; omega
    obtain ⟨sh, kd, mark, most⟩ := h
    have hs := ho.sh
    rcases ho.len with q | q
    · match sh, q, hs with
      | [a, b], _, hs => exact sh2_ok a (m a (hs a (by simp))) b (m b (hs b (by simp)))
    · match sh, q, hs with
      | [a, b, c], _, hs => exact sh3_ok a (m a (hs a (by simp))) b (m b (hs b (by simp))) c (m c (hs c (by simp)))
  unfold shOk at e
  simp only [Bool.and_eq_true, decide_eq_true_eq, List.all_eq_true, Bool.or_eq_true] at e
  refine ⟨e.1.1, e.1.2, fun w hw hn => ?_⟩
  rcases e.2 w hw with z | z
  · exact absurd z hn
  · exact ⟨z.1.1, z.1.2, z.2⟩
/-- all wishes are among them -/
theorem wishN_all {h : Hou} (ho : h.Ok) {w : List Int} (wo : WOk h w) : w ∈ wishN h.sh.length := by
  have up : ∀ (n : Nat), n = 2 ∨ n = 3 → ∀ w : List Int, w.Pairwise (· < ·) → (∀ p ∈ w, 0 ≤ p ∧ p < (n : Int)) → w ∈ wishN n := by
    intro n hn w hw hp
    match w, hw, hp with
    | [], _, _ => rcases hn with rfl | rfl <;> decide
    | [a], _, hp =>
      have h1 := hp a (by simp)
      rcases hn with rfl | rfl
      · have : a = 0 ∨ a = 1 := by omega
        rcases this with rfl | rfl <;> decide
      · have : a = 0 ∨ a = 1 ∨ a = 2 := by omega
        rcases this with rfl | rfl | rfl <;> decide
    | [a, b], hw, hp =>
      have h1 := hp a (by simp)
      have h2 := hp b (by simp)
      have h3 := (List.pairwise_cons.mp hw).1 b (by simp)
      rcases hn with rfl | rfl
      · have : a = 0 ∧ b = 1 := by omega
        obtain ⟨rfl, rfl⟩ := this; decide
      · have : (a = 0 ∧ b = 1) ∨ (a = 0 ∧ b = 2) ∨ (a = 1 ∧ b = 2) := by omega
        rcases this with ⟨rfl, rfl⟩ | ⟨rfl, rfl⟩ | ⟨rfl, rfl⟩ <;> decide
    | [a, b, c], hw, hp =>
      have h1 := hp a (by simp)
      have h2 := hp b (by simp)
      have h4 := hp c (by simp)
      have hw' := List.pairwise_cons.mp hw
      have h3 := hw'.1 b (by simp)
      have h5 := (List.pairwise_cons.mp hw'.2).1 c (by simp)
      rcases hn with rfl | rfl
      · omega
      · have : a = 0 ∧ b = 1 ∧ c = 2 := by omega
        obtain ⟨rfl, rfl, rfl⟩ := this; decide
    | a :: b :: c :: d :: r, hw, hp =>
      have h1 := hp a (by simp)
      have h2 := hp b (by simp)
      have h4 := hp c (by simp)
      have h6 := hp d (by simp)
      have hw' := List.pairwise_cons.mp hw
      have hw'' := List.pairwise_cons.mp hw'.2
      have h3 := hw'.1 b (by simp)
      have h5 := hw''.1 c (by simp)
      have h7 := (List.pairwise_cons.mp hw''.2).1 d (by simp)
      omega
  refine up h.sh.length ho.len w wo.1 fun p hp => ?_
  have := wo.2 p hp
  unfold inn at this
  omega
theorem sum_pos {h : Hou} (ho : h.Ok) {w : List Int} (wo : WOk h w) (hn : w ≠ []) : 0 < sumOf h w ∧ sumOf h w ≤ 9 ∧ (partsM h).fmod (sumOf h w) = 0 := (parts_ok ho).2.2 w (wishN_all ho wo) hn
end LawT
namespace LawT
open PySem EV

/-! ### the program's shares -/
def S_share (cf : Call) : Prop := ∀ (t : Int) (b : Nat) st, 0 < b → b < 1073741824 → cf 20 [.int t, .int b] st = .ok (frD (mkRat t b)) st
def S_common (cf : Call) : Prop := ∀ (a b : Nat) st, 0 < a → a < 1073741824 → 0 < b → b < 1073741824 → cf 21 [.int a, .int b] st = .ok (.int (comM a b)) st
def S_all_wishes (cf : Call) : Prop := ∀ (h : Hou) st, h.Ok → cf 9 [h.d] st = .ok (.lst ((wishN h.sh.length).map it)) st
def S_parts_of (cf : Call) : Prop := ∀ (h : Hou) st, h.Ok → cf 22 [h.d] st = .ok (.int (partsM h)) st
def S_due_parts (cf : Call) : Prop := ∀ (h : Hou) parts w p st, h.Ok → WOk h w → cf 23 [h.d, .int parts, it w, .int p] st = .ok (.int (dueM h parts w p)) st
def S_change_of (cf : Call) : Prop := ∀ (h : Hou) parts w g p st, h.Ok → WOk h w → cf 24 [h.d, .int parts, it w, givD g, .int p] st = .ok (.int (chgM h parts w g p)) st
section
variable {cf : Call} {st : Store}
theorem pow30 {b : Nat} (h : b < 1073741824) : b < 2 ^ 400 := Nat.lt_trans h (by decide +kernel)
theorem abs_nat (t : Int) : (if t < 0 then -t else t) = (t.natAbs : Int) := by split <;> omega
theorem sp_share {t : Int} {b : Nat} (h0 : 0 < b) (h1 : b < 1073741824) : evDef cf sub fu 4 b_share [.int t, .int b] st = .ok (frD (mkRat t b)) st := by
  have e := euclid (c := evX cf (.cmp .gt (.var 3) (.con (.int 0)))) (f := evSs cf sub fu b_share_f0) (st := st) (fun x y => [some (.int t), some (.int b), some (.int x), some (.int y)])
    (fun x y => by simp) (fun x y hy => by
      have : ¬ y = 0 := by omega
      simp [b_share_f0, evBin, this, fmod_nat]) 400 t.natAbs b 1000 (pow30 h1) (by decide)
  have hg : 0 < Nat.gcd t.natAbs b := Nat.gcd_pos_of_pos_right _ h0
  have hg2 : Nat.gcd t.natAbs b ≤ b := Nat.gcd_le_right _ h0
  rw [frD_mk h0]
  generalize Nat.gcd t.natAbs b = g at e hg hg2
  have g0 : ¬ g = 0 := by omega
  have g1 : g < 1073741824 := by omega
  have e' : whlLoop (evX cf (.cmp .gt (.var 3) (.con (.int 0)))) (evSs cf sub fu b_share_f0) fu [some (.int t), some (.int b), some (.int t.natAbs), some (.int b)] st = .nx [some (.int t), some (.int b), some (.int g), some (.int ((0 : Nat) : Int))] st := e
  simp [evDef_fin, b_share, abs_nat]
  rw [e']
  simp [evBin, g0, g1]
theorem sp_common {a b : Nat} (h0 : 0 < a) (h1 : a < 1073741824) (h2 : 0 < b) (h3 : b < 1073741824) : evDef cf sub fu 4 b_common [.int a, .int b] st = .ok (.int (comM a b)) st := by
  have e := euclid (c := evX cf (.cmp .ne (.var 3) (.con (.int 0)))) (f := evSs cf sub fu b_common_f0) (st := st) (fun x y => [some (.int a), some (.int b), some (.int x), some (.int y)])
    (fun x y => by
      by_cases hy : y = 0
      · subst hy; simp
      · have : 0 < y := by omega
        simp [hy, this]) (fun x y hy => by
      have : ¬ y = 0 := by omega
      simp [b_common_f0, evBin, this, fmod_nat]) 400 a b 1000 (pow30 h3) (by decide)
  have hg : 0 < Nat.gcd a b := Nat.gcd_pos_of_pos_right _ h2
  have hg2 : Nat.gcd a b ≤ b := Nat.gcd_le_right _ h2
  unfold comM
  simp only [Int.natAbs_natCast]
  generalize Nat.gcd a b = g at e hg hg2 ⊢
  have g0 : ¬ g = 0 := by omega
  have g1 : g < 1073741824 := by omega
  have e' : whlLoop (evX cf (.cmp .ne (.var 3) (.con (.int 0)))) (evSs cf sub fu b_common_f0) fu [some (.int a), some (.int b), some (.int a), some (.int b)] st = .nx [some (.int a), some (.int b), some (.int g), some (.int ((0 : Nat) : Int))] st := e
  have hs : smallI (b : Int) = true := by simp [smallI]; omega
  simp [evDef_fin, b_common]
  rw [e']
  simp [evBin, g0, g1, hs]
theorem sp_all_wishes_2 {a b r : D} : evDef cf sub fu 4 b_all_wishes [.tup [.tup [a, b], r]] st = .ok (.lst wl2) st := by kernel_rfl
theorem sp_all_wishes_3 {a b c r : D} : evDef cf sub fu 4 b_all_wishes [.tup [.tup [a, b, c], r]] st = .ok (.lst wl3) st := by kernel_rfl
theorem sp_all_wishes {h : Hou} (ho : h.Ok) : evDef cf sub fu 4 b_all_wishes [h.d] st = .ok (.lst ((wishN h.sh.length).map it)) st := by
  obtain ⟨sh, kd, mark, most⟩ := h
  rcases ho.len with e | e
  · match sh, e with
    | [a, b], _ => exact sp_all_wishes_2
  · match sh, e with
    | [a, b, c], _ => exact sp_all_wishes_3
theorem comM_pos {a b : Nat} (h0 : 0 < a) (h2 : 0 < b) : ∃ c : Nat, comM a b = c ∧ 0 < c ∧ c ≤ a * b := by
  have hg : 0 < Nat.gcd a b := Nat.gcd_pos_of_pos_right _ h2
  have hd : 0 < a / Nat.gcd a b := Nat.div_pos (Nat.gcd_le_left _ h0) hg
  refine ⟨a / Nat.gcd a b * b, ?_, Nat.mul_pos hd h2, Nat.mul_le_mul_right _ (Nat.div_le_self _ _)⟩
  unfold comM
  simp only [Int.natAbs_natCast]
  rw [Int.fdiv_eq_ediv_of_nonneg _ (by omega), Int.natCast_mul, Int.natCast_ediv]
theorem parts_loop (hc : S_common cf) (hs : S_sum_of cf) {h : Hou} (ho : h.Ok) : ∀ (ws : List (List Int)) (f : Nat) (o2 : Option D), (∀ w ∈ ws, WOk h w) → 0 < f → f * 9 ^ ws.length < 1073741824 →
    ∃ o2', forLoop (k_ft cf sub fu (.name 2) b_parts_of_f0) (ws.map it) [some h.d, some (.int f), o2] st = .nx [some h.d, some (.int (ws.foldl (fun f w => if w = [] then f else comM f (sumOf h w)) (f : Int))), o2'] st
  | [], f, o2, _, _, _ => ⟨o2, by simp⟩
  | w :: ws, f, o2, hw, h0, hz => by
    have wo := hw w List.mem_cons_self
    have e1 : evCmp st .ne (it w) (.tup []) = some (!decide (w = [])) := cmp_ne_it (st := st) w []
    rw [List.length_cons, Nat.pow_succ] at hz
    by_cases hn : w = []
    · subst hn
      have e1 : evCmp st .ne (it []) (.tup []) = some false := e1
      obtain ⟨o2', e⟩ := parts_loop hc hs ho ws f (some (it [])) (fun v hv => hw v (List.mem_cons_of_mem _ hv)) h0 (by
        refine Nat.lt_of_le_of_lt ?_ hz
        rw [← Nat.mul_assoc]; omega)
      refine ⟨o2', ?_⟩
      rw [List.map_cons, forLoop_cons]
      have : k_ft cf sub fu (.name 2) b_parts_of_f0 (it []) [some h.d, some (.int f), o2] st = .nx [some h.d, some (.int f), some (it [])] st := by simp [k_ft_eq, b_parts_of_f0, e1]
      rw [this, RS.loop_nx, e]
      simp
    · have sp := sum_pos ho wo hn
      have es := hs h w st wo.2
      obtain ⟨s, hse⟩ : ∃ s : Nat, sumOf h w = s := ⟨(sumOf h w).toNat, by omega⟩
      rw [hse] at sp es
      have hp9 : 1 ≤ 9 ^ ws.length := Nat.one_le_pow _ _ (by decide)
      have hf : f < 1073741824 := by
        have : f * 1 ≤ f * (9 ^ ws.length * 9) := Nat.mul_le_mul_left _ (by omega)
        omega
      have ec := hc f s st h0 hf (by omega) (by omega)
      obtain ⟨c, hc1, hc2, hc3⟩ := comM_pos (a := f) (b := s) h0 (by omega)
      rw [hc1] at ec
      obtain ⟨o2', e⟩ := parts_loop hc hs ho ws c (some (it w)) (fun v hv => hw v (List.mem_cons_of_mem _ hv)) hc2 (by
        refine Nat.lt_of_le_of_lt ?_ hz
        have h9 : s ≤ 9 := by omega
        calc c * 9 ^ ws.length ≤ f * s * 9 ^ ws.length := Nat.mul_le_mul_right _ hc3
          _ ≤ f * 9 * 9 ^ ws.length := Nat.mul_le_mul_right _ (Nat.mul_le_mul_left _ h9)
          _ = f * (9 ^ ws.length * 9) := by rw [Nat.mul_assoc, Nat.mul_comm 9])
      refine ⟨o2', ?_⟩
      rw [List.map_cons, forLoop_cons]
      rw [decide_eq_false hn] at e1
      have : k_ft cf sub fu (.name 2) b_parts_of_f0 (it w) [some h.d, some (.int f), o2] st = .nx [some h.d, some (.int c), some (it w)] st := by simp [k_ft_eq, b_parts_of_f0, e1, es, ec]
      rw [this, RS.loop_nx, e]
      simp only [List.foldl_cons, if_neg hn, hse, hc1]
theorem sp_parts_of (ha : S_all_wishes cf) (hc : S_common cf) (hs : S_sum_of cf) {h : Hou} (ho : h.Ok) : evDef cf sub fu 3 b_parts_of [h.d] st = .ok (.int (partsM h)) st := by
  have hl : (wishN h.sh.length).length ≤ 8 := by rcases ho.len with q | q <;> rw [q] <;> decide
  obtain ⟨o2, e⟩ := parts_loop (st := st) hc hs ho (wishN h.sh.length) 1 none (wishN_ok ho) (by decide) (by
    have : 9 ^ (wishN h.sh.length).length ≤ 9 ^ 8 := Nat.pow_le_pow_right (by decide) hl
    omega)
  have e1 := ha h st ho
  unfold partsM
  have e : forLoop (k_ft cf sub fu (.name 2) b_parts_of_f0) ((wishN h.sh.length).map it) [some h.d, some (.int 1), none] st = _ := e
  simp [evDef_fin, b_parts_of, e1, e]
theorem sp_due_parts (hs : S_sum_of cf) {h : Hou} {parts p : Int} {w : List Int} (ho : h.Ok) (wo : WOk h w) : evDef cf sub fu 4 b_due_parts [h.d, .int parts, it w, .int p] st = .ok (.int (dueM h parts w p)) st := by
  by_cases c : p ∈ w
  · have hn : w ≠ [] := fun e => by rw [e] at c; cases c
    have sp := sum_pos ho wo hn
    have es := hs h w st wo.2
    obtain ⟨h0, h1⟩ := wo.2 p c
    have h3 := get_it h0 h1
    have hx : ∃ x ∈ h.sh, h.sh.getD p.toNat 0 = x := ⟨_, List.mem_of_getElem? h3, rfl⟩
    obtain ⟨x, hx1, hx2⟩ := hx
    have hx3 := ho.sh x hx1
    unfold dueM
    rw [if_pos c]
    rw [hx2] at h3 ⊢
    obtain ⟨h5, h4⟩ := List.getElem?_eq_some_iff.mp h3
    generalize sumOf h w = s at es sp ⊢
    have s0 : ¬ s = 0 := by omega
    have s1 : s.natAbs < 1073741824 := by omega
    have sm : smallI x = true := by simp [smallI]; omega
    simp [evDef_fin, b_due_parts, cmp_in_it, c, h0, h1, h4, evBin, sm, es, s0, s1]
  · unfold dueM
    rw [if_neg c]
    simp [evDef_fin, b_due_parts, cmp_in_it, c]
theorem sp_change_of (hd : S_due_parts cf) {h : Hou} {parts p : Int} {g : Option Int} {w : List Int} (ho : h.Ok) (wo : WOk h w) : evDef cf sub fu 5 b_change_of [h.d, .int parts, it w, givD g, .int p] st = .ok (.int (chgM h parts w g p)) st := by
  have e := hd h parts w p st ho wo
  unfold chgM
  cases g with
  | none =>
    have ec : evCmp st .eq .non (.int p) = some false := by
      simp [evCmp, okD_int, okD_non, deref]
      rfl
    simp [evDef_fin, b_change_of, e, givD, ec]
  | some q =>
    by_cases c : q = p
    · simp [evDef_fin, b_change_of, e, givD, c]
    · simp [evDef_fin, b_change_of, e, givD, c]
end
end LawT
namespace LawT
open PySem EV

/-! ### balances -/
abbrev balD (h : Hou) (row : List (List Int)) : D := .tup ((balM h row).map fun x => frD (mkRat x (partsM h).toNat))
def S_balances_of (cf : Call) : Prop := ∀ (h : Hou) row st, h.Ok → ROk h row → row.length ≤ 1000 → stUnd st = true → cf 25 [h.d, rowT row] st = .ok (il (balM h row)) st
def S_balances (cf : Call) : Prop := ∀ (h : Hou) v st, h.Ok → D.pl v = true → v.dep ≤ 50 → stUnd st = true → (isRow h.sh.length v = false → cf 26 [h.d, v] st = .exc 1 [] st) ∧ ∀ row, v = rowT row → ROk h row → row.length ≤ 100 → cf 26 [h.d, v] st = .ok (balD h row) st
theorem zip_items {α β : Type} (f : α → D) (g : β → D) : ∀ (xs : List α) (ys : List β), List.zipWith (fun p q => D.tup [p, q]) (xs.map f) (ys.map g) = (xs.zip ys).map fun x => D.tup [f x.1, g x.2]
  | [], ys => by simp
  | _ :: _, [] => by simp
  | x :: xs, y :: ys => by rw [List.map_cons, List.map_cons, List.zipWith_cons_cons, zip_items f g xs ys, List.zip_cons_cons, List.map_cons]
theorem step_len (h : Hou) (parts : Int) (acc : List Int) (x : List Int × Stg × Option Int) : (balStep h parts acc x).length = acc.length := by unfold balStep; rw [List.length_mapIdx]
theorem bal_len (h : Hou) (row : List (List Int)) : (balM h row).length = h.sh.length := by
  have : ∀ (xs : List (List Int × Stg × Option Int)) (acc : List Int) (parts : Int), (xs.foldl (balStep h parts) acc).length = acc.length := by
    intro xs
    induction xs with
    | nil => intro acc parts; rfl
    | cons x xs ih => intro acc parts; rw [List.foldl_cons, ih, step_len]
  unfold balM
  rw [this, List.length_replicate]
theorem parts_nat {h : Hou} (ho : h.Ok) : ∃ n : Nat, partsM h = n ∧ 0 < n ∧ n ≤ 2520 := by
  have := parts_ok ho
  exact ⟨(partsM h).toNat, by omega, by omega, by omega⟩
section
variable {cf : Call} {st : Store}
theorem bal_loop (hc : S_change_of cf) {h : Hou} (ho : h.Ok) {parts : Int} {x1 : D} : ∀ (xs : List (List Int × Stg × Option Int)) (acc : List Int) (o4 o5 o6 : Option D), (∀ x ∈ xs, WOk h x.1) →
    ∃ o4' o5' o6', forLoop (k_ft cf sub fu (.tup (.cons (.name 4) (.cons (.tup (.cons (.name 5) (.cons (.name 6) .nil))) .nil))) b_balances_of_f0) (xs.map fun x => D.tup [it x.1, pD x.2]) [some h.d, some x1, some (.int parts), some (il acc), o4, o5, o6, none, none] st
      = .nx [some h.d, some x1, some (.int parts), some (il (xs.foldl (balStep h parts) acc)), o4', o5', o6', none, none] st
  | [], acc, o4, o5, o6, _ => ⟨o4, o5, o6, by simp⟩
  | x :: xs, acc, o4, o5, o6, hw => by
    have wo := hw x List.mem_cons_self
    obtain ⟨o4', o5', o6', e⟩ := bal_loop hc ho xs (balStep h parts acc x) (some (it x.1)) (some (stD x.2.1)) (some (givD x.2.2)) (fun v hv => hw v (List.mem_cons_of_mem _ hv))
    refine ⟨o4', o5', o6', ?_⟩
    have e2 : lcLoop (k_turn cf x_balances_of_0 (.tup (.cons (.name 7) (.cons (.name 8) .nil))) .none [some h.d, some x1, some (.int parts), some (il acc), some (it x.1), some (stD x.2.1), some (givD x.2.2), none, none]) ((acc.map D.int).mapIdx fun i d => .tup [.int i, d]) [] st = .ok ((balStep h parts acc x).map .int) st :=
      lc_enm (F := fun i o => o + chgM h parts x.1 x.2.2 i) _ fun i y hy => by
        have := hc h parts x.1 x.2.2 i st ho wo
        simp [k_turn_eq, x_balances_of_0, this]
    have e3 : k_ft cf sub fu (.tup (.cons (.name 4) (.cons (.tup (.cons (.name 5) (.cons (.name 6) .nil))) .nil))) b_balances_of_f0 (D.tup [it x.1, pD x.2]) [some h.d, some x1, some (.int parts), some (il acc), o4, o5, o6, none, none] st = .nx [some h.d, some x1, some (.int parts), some (il (balStep h parts acc x)), some (it x.1), some (stD x.2.1), some (givD x.2.2), none, none] st := by
      simp [k_ft_eq, b_balances_of_f0, e2, pD]
    rw [List.map_cons, forLoop_cons, e3, RS.loop_nx, e, List.foldl_cons]
theorem mul_zeros {n : Nat} (hn : n ≤ 3) : evBin .mul (.lst [.int 0]) (.int n) = some (il (List.replicate n 0)) := by
  have : n = 0 ∨ n = 1 ∨ n = 2 ∨ n = 3 := by omega
  have h0 : evBin .mul (.lst [.int 0]) (.int ((0 : Nat) : Int)) = some (.lst []) := by kernel_rfl
  have h1 : evBin .mul (.lst [.int 0]) (.int ((1 : Nat) : Int)) = some (.lst [.int 0]) := by kernel_rfl
  have h2 : evBin .mul (.lst [.int 0]) (.int ((2 : Nat) : Int)) = some (.lst [.int 0, .int 0]) := by kernel_rfl
  have h3 : evBin .mul (.lst [.int 0]) (.int ((3 : Nat) : Int)) = some (.lst [.int 0, .int 0, .int 0]) := by kernel_rfl
  rcases this with rfl | rfl | rfl | rfl
  · exact h0
  · exact h1
  · exact h2
  · exact h3
theorem sp_balances_of (hp : S_parts_of cf) (hl : S_led cf) (hc : S_change_of cf) {h : Hou} {row : List (List Int)} (ho : h.Ok) (ro : ROk h row) (hz : row.length ≤ 1000) (hu : stUnd st = true) : evDef cf sub fu 9 b_balances_of [h.d, rowT row] st = .ok (il (balM h row)) st := by
  have e1 := hp h st ho
  have e2 := hl h row st ho ro hz hu
  obtain ⟨o4, o5, o6, e3⟩ := bal_loop (st := st) (x1 := rowT row) (parts := partsM h) hc ho (row.zip (ledM h (st0 h) row)) (List.replicate h.sh.length 0) none none none (fun x hx => ro x.1 (List.of_mem_zip hx).1)
  have e4 := mul_zeros (n := h.sh.length) (by have := ho.len; omega)
  have e5 := zip_items it pD row (ledM h (st0 h) row)
  unfold balM
  generalize (row.zip (ledM h (st0 h) row)).foldl (balStep h (partsM h)) (List.replicate h.sh.length 0) = res at e3 ⊢
  generalize row.zip (ledM h (st0 h) row) = xs at e5 e3
  generalize (ledM h (st0 h) row).map pD = ys at e2 e5
  generalize (List.replicate h.sh.length (0 : Int)) = zs at e3 e4
  generalize partsM h = parts at e1 e3
  simp [evDef_fin, b_balances_of, e1, e2, e4, e5, e3]
theorem sp_balances_bad (hh : S_need_house cf) (hr : S_need_row cf) {h : Hou} {v : D} (ho : h.Ok) (hv : v.pl = true) (hb : isRow h.sh.length v = false) : evDef cf sub fu 4 b_balances [h.d, v] st = .exc 1 [] st := by
  have e1 := hh h.d st h.pl (Nat.le_trans h.dep (by decide)) (Hou.is ho)
  have e2 := hr (h.sh.map .int) (.tup [.str h.kd.s, .int h.mark, .int h.most]) v st hv (by have := ho.len; rw [List.length_map]; omega)
  rw [List.length_map, hb, if_neg (by simp)] at e2
  simp [evDef_fin, b_balances, e1, e2]
theorem sp_balances (hh : S_need_house cf) (hr : S_need_row cf) (hp : S_parts_of cf) (hb : S_balances_of cf) (hs : S_share cf) {h : Hou} {row : List (List Int)} (ho : h.Ok) (ro : ROk h row) (hz : row.length ≤ 100) (hu : stUnd st = true) : evDef cf sub fu 4 b_balances [h.d, rowT row] st = .ok (balD h row) st := by
  have e1 := hh h.d st h.pl (Nat.le_trans h.dep (by decide)) (Hou.is ho)
  have e2 := hr (h.sh.map .int) (.tup [.str h.kd.s, .int h.mark, .int h.most]) (rowT row) st (rowT_pl row) (by have := ho.len; rw [List.length_map]; omega)
  rw [List.length_map, row_is ro hz, if_pos rfl] at e2
  have e3 := hp h st ho
  have e4 := hb h row st ho ro (by omega) hu
  obtain ⟨n, n1, n2, n3⟩ := parts_nat ho
  unfold balD
  rw [n1] at e3 ⊢
  simp only [Int.toNat_natCast]
  have e5 : ∀ o0 o1, lcLoop (k_turn cf x_balances_0 (.name 3) .none [o0, o1, some (.int n), none]) ((balM h row).map .int) [] st = .ok ((balM h row).map fun x => frD (mkRat x n)) st := fun o0 o1 =>
    lc_ints_mapD _ fun x hx => by
      have := hs x n st n2 (by omega)
      simp [k_turn_eq, x_balances_0, this]
  simp [evDef_fin, b_balances, e1, e2, e3, e4, e5]
end
end LawT
namespace LawT
open PySem EV

/-! ### the law's fractions -/
def S_law_low (cf : Call) : Prop := ∀ (t : Int) (b : Nat) st, 0 < b → b < 1073741824 → cf 30 [.int t, .int b] st = .ok (frD (mkRat t b)) st
def S_law_sum (cf : Call) : Prop := ∀ (h : Hou) row st, h.Ok → ROk h row → row.length ≤ 1000 → stUnd st = true → cf 38 [h.d, rowT row] st = .ok (balD h row) st
/-- the due of a day, by the parts in one share -/
theorem due_mul {h : Hou} {parts k : Int} {w : List Int} {p : Int} (hp : p ∈ w) (hs : 0 < sumOf h w) (hk : parts = sumOf h w * k) : dueM h parts w p = h.sh.getD p.toNat 0 * k := by
  unfold dueM
  rw [if_pos hp, hk, Int.fdiv_eq_ediv_of_nonneg _ (by omega)]
  rw [show h.sh.getD p.toNat 0 * (sumOf h w * k) = (h.sh.getD p.toNat 0 * k) * sumOf h w by
    rw [Int.mul_comm (sumOf h w) k, Int.mul_assoc]]
  exact Int.mul_ediv_cancel _ (by omega)
theorem parts_k {h : Hou} (ho : h.Ok) {w : List Int} (wo : WOk h w) (hn : w ≠ []) : ∃ k, partsM h = sumOf h w * k := by
  have := sum_pos ho wo hn
  obtain ⟨h1, h2, h3⟩ := this
  refine ⟨partsM h / sumOf h w, ?_⟩
  rw [Int.fmod_eq_emod_of_nonneg _ (by omega)] at h3
  exact (Int.mul_ediv_cancel' (Int.dvd_of_emod_eq_zero h3)).symm
/-- one more day in fractions -/
theorem frac_step {h : Hou} (ho : h.Ok) {w : List Int} (wo : WOk h w) {p N : Int} {n : Nat} (hpn : partsM h = n) (hn0 : 0 < n) (hp : p ∈ w) {s : Nat} (hs : sumOf h w = s) (g : Option Int) :
    mkRat ((mkRat N n).num * s + (h.sh.getD p.toNat 0 - (if some p = g then (s : Int) else 0)) * (mkRat N n).den) ((mkRat N n).den * s) = mkRat (N + chgM h n w g p) n := by
  have hn : w ≠ [] := fun e => by rw [e] at hp; cases hp
  obtain ⟨k, hk⟩ := parts_k ho wo hn
  have sp := sum_pos ho wo hn
  have hd := due_mul (parts := n) hp sp.1 (by rw [← hpn]; exact hk)
  have hs0 : s ≠ 0 := by omega
  have hn0' : n ≠ 0 := by omega
  have hden : (mkRat N n).den ≠ 0 := (mkRat N n).den_nz
  rw [← Rat.mkRat_add_mkRat _ _ hden hs0, Rat.mkRat_self]
  have e : mkRat (N + chgM h n w g p) n = mkRat N n + mkRat (chgM h n w g p) n := by
    rw [Rat.mkRat_add_mkRat _ _ hn0' hn0', Rat.mkRat_eq_iff hn0' (by exact Nat.mul_ne_zero hn0' hn0')]
    rw [Int.natCast_mul, ← Int.mul_assoc, Int.add_mul, Int.add_mul]
  rw [e]
  congr 1
  rw [Rat.mkRat_eq_iff hs0 hn0']
  unfold chgM
  rw [hd]
  rw [hpn, hs] at hk
  rw [hk]
  have hg : (if g = some p then (s : Int) * k else 0) = (if some p = g then (s : Int) else 0) * k := by
    by_cases c : g = some p
    · rw [if_pos c, if_pos c.symm]
    · rw [if_neg c, if_neg (fun z => c z.symm)]; simp
  rw [hg]
  generalize (if some p = g then (s : Int) else 0) = y
  generalize h.sh.getD p.toNat 0 = x
  rw [Int.sub_mul, Int.sub_mul]
  have a1 : x * ((s : Int) * k) = x * k * s := by rw [Int.mul_comm (s : Int) k, Int.mul_assoc]
  have a2 : y * ((s : Int) * k) = y * k * s := by rw [Int.mul_comm (s : Int) k, Int.mul_assoc]
  rw [a1, a2]
theorem den_le {N : Int} {n : Nat} (hn : 0 < n) : (mkRat N n).den ≤ n ∧ 0 < (mkRat N n).den := by
  rw [Rat.den_mkRat, if_neg (by omega)]
  have hg : 0 < Nat.gcd n N.natAbs := Nat.gcd_pos_of_pos_left _ hn
  exact ⟨Nat.div_le_self _ _, Nat.div_pos (Nat.gcd_le_left _ hn) hg⟩
section
variable {cf : Call} {st : Store}
theorem sp_law_low {t : Int} {b : Nat} (h0 : 0 < b) (h1 : b < 1073741824) : evDef cf sub fu 4 b_law_low [.int t, .int b] st = .ok (frD (mkRat t b)) st := by
  have e := euclid (c := evX cf (.cmp .ne (.var 3) (.con (.int 0)))) (f := evSs cf sub fu b_law_low_f0) (st := st) (fun x y => [some (.int t), some (.int b), some (.int x), some (.int y)])
    (fun x y => by
      by_cases hy : y = 0
      · subst hy; simp
      · have : 0 < y := by omega
        simp [hy, this]) (fun x y hy => by
      have : ¬ y = 0 := by omega
      simp [b_law_low_f0, evBin, this, fmod_nat]) 400 t.natAbs b 1000 (pow30 h1) (by decide)
  have hg : 0 < Nat.gcd t.natAbs b := Nat.gcd_pos_of_pos_right _ h0
  have hg2 : Nat.gcd t.natAbs b ≤ b := Nat.gcd_le_right _ h0
  rw [frD_mk h0]
  generalize Nat.gcd t.natAbs b = g at e hg hg2
  have g0 : ¬ g = 0 := by omega
  have g1 : g < 1073741824 := by omega
  have e' : whlLoop (evX cf (.cmp .ne (.var 3) (.con (.int 0)))) (evSs cf sub fu b_law_low_f0) fu [some (.int t), some (.int b), some (.int t.natAbs), some (.int b)] st = .nx [some (.int t), some (.int b), some (.int g), some (.int ((0 : Nat) : Int))] st := e
  simp [evDef_fin, b_law_low, abs_nat]
  rw [e']
  simp [evBin, g0, g1]
/-- the list of fractions, some of them a day ahead -/
def mixD (h : Hou) (n : Nat) (w : List Int) (g : Option Int) (acc done : List Int) : List D := acc.mapIdx fun i N => frD (mkRat (if (i : Int) ∈ done then N + chgM h n w g i else N) n)
theorem mix_len (h : Hou) (n : Nat) (w : List Int) (g : Option Int) (acc done : List Int) : (mixD h n w g acc done).length = acc.length := by unfold mixD; rw [List.length_mapIdx]
theorem mix_set {h : Hou} {n : Nat} {w : List Int} {g : Option Int} {acc done : List Int} {p : Int} (h0 : 0 ≤ p) (h1 : p < acc.length) : (mixD h n w g acc done).set p.toNat (frD (mkRat (acc.getD p.toNat 0 + chgM h n w g p) n)) = mixD h n w g acc (done ++ [p]) := by
  apply List.ext_getElem?
  intro i
  unfold mixD
  rw [List.getElem?_set, List.getElem?_mapIdx, List.getElem?_mapIdx, List.length_mapIdx]
  by_cases c : p.toNat = i
  · subst c
    have hl : p.toNat < acc.length := by omega
    have hp : ((p.toNat : Nat) : Int) = p := by omega
    simp [hl, hp]
  · have : ¬ (i : Int) = p := by omega
    rw [if_neg c]
    simp [this]
theorem sum_inner (hlo : S_law_low cf) {h : Hou} (ho : h.Ok) {n s : Nat} (hpn : partsM h = n) (hn0 : 0 < n) (hn1 : n ≤ 2520) {w : List Int} (wo : WOk h w) (hs : sumOf h w = s) {g : Option Int} {acc : List Int} (hl : acc.length = h.sh.length) {x1 x5 : D} {o8 : Option D} :
    ∀ (rest done : List Int) (o3 o9 o10 o11 : Option D), w = done ++ rest → ∃ o3' o9' o10' o11', forLoop (k_ft cf sub fu (.name 3) b_law_sum_f1) (rest.map .int) [some h.d, some x1, some (.loc st.length), o3, some (it w), some x5, some (givD g), some (.int s), o8, o9, o10, o11] (st ++ [.lst (mixD h n w g acc done)])
      = .nx [some h.d, some x1, some (.loc st.length), o3', some (it w), some x5, some (givD g), some (.int s), o8, o9', o10', o11'] (st ++ [.lst (mixD h n w g acc w)])
  | [], done, o3, o9, o10, o11, e => ⟨o3, o9, o10, o11, by rw [e, List.append_nil]; simp⟩
  | p :: rest, done, o3, o9, o10, o11, e => by
    have hpw : p ∈ w := by rw [e]; simp
    have hn : w ≠ [] := fun z => by rw [z] at hpw; cases hpw
    have sp := sum_pos ho wo hn
    obtain ⟨h0, h1⟩ := wo.2 p hpw
    have hnd : p ∉ done := fun z => by
      have := wo.1
      rw [e, List.pairwise_append] at this
      have := this.2.2 p z p (by simp)
      omega
    have hd := den_le (N := acc.getD p.toNat 0) hn0
    have hb : (mkRat (acc.getD p.toNat 0) n).den * s ≤ 2520 * 9 := Nat.mul_le_mul (by omega) (by omega)
    have hb0 : 0 < (mkRat (acc.getD p.toNat 0) n).den * s := Nat.mul_pos hd.2 (by omega)
    have e1 := hlo ((mkRat (acc.getD p.toNat 0) n).num * s + (h.sh.getD p.toNat 0 - (if some p = g then (s : Int) else 0)) * (mkRat (acc.getD p.toNat 0) n).den) ((mkRat (acc.getD p.toNat 0) n).den * s) (st ++ [.lst (mixD h n w g acc done)]) hb0 (by omega)
    rw [frac_step ho wo hpn hn0 hpw hs g] at e1
    have hms := mix_set (h := h) (n := n) (w := w) (g := g) (acc := acc) (done := done) (p := p) h0 (by omega)
    have hget : (mixD h n w g acc done)[p.toNat]? = some (frD (mkRat (acc.getD p.toNat 0) n)) := by
      unfold mixD
      rw [List.getElem?_mapIdx]
      have hp : ((p.toNat : Nat) : Int) = p := by omega
      have hl2 : p.toNat < acc.length := by omega
      simp [hl2, hp, hnd]
    obtain ⟨o3', o9', o10', o11', e2⟩ := sum_inner (x1 := x1) (x5 := x5) (o8 := o8) (g := g) hlo ho hpn hn0 hn1 wo hs hl rest (done ++ [p]) (some (.int p)) (some (.int (mkRat (acc.getD p.toNat 0) n).num)) (some (.int (mkRat (acc.getD p.toNat 0) n).den)) (some (.int (h.sh.getD p.toNat 0 - (if some p = g then (s : Int) else 0)))) (by rw [e]; simp)
    refine ⟨o3', o9', o10', o11', ?_⟩
    rw [List.map_cons, forLoop_cons]
    have hml := mix_len h n w g acc done
    have hm1 : p < ((mixD h n w g acc done).length : Int) := by rw [hml]; omega
    generalize frD (mkRat (acc.getD p.toNat 0 + chgM h n w g p) n) = fd at e1 hms
    generalize mixD h n w g acc (done ++ [p]) = ms2 at e2 hms
    generalize mixD h n w g acc done = ms at e1 hms hget hm1 ⊢
    obtain ⟨hm2, hget2⟩ := List.getElem?_eq_some_iff.mp hget
    have hsh := get_it h0 h1
    obtain ⟨hsh2, hsh3⟩ := List.getElem?_eq_some_iff.mp hsh
    have hdl : (mkRat (acc.getD p.toNat 0) n).den ≤ 2520 := by omega
    generalize h.sh.getD p.toNat 0 = shp at *
    generalize mkRat (acc.getD p.toNat 0) n = q at *
    have hgc : evCmp (st ++ [.lst ms]) .eq (.int p) (givD g) = some (decide (some p = g)) := by
      cases g with
      | none =>
        simp [evCmp, okD_int, okD_non, deref, givD]
        rfl
      | some r => simp [givD]
    have hsm : smallI (s : Int) = true := by simp [smallI]; omega
    have hdm : smallI (q.den : Int) = true := by simp [smallI]; omega
    have hk : k_ft cf sub fu (.name 3) b_law_sum_f1 (.int p) [some h.d, some x1, some (.loc st.length), o3, some (it w), some x5, some (givD g), some (.int s), o8, o9, o10, o11] (st ++ [.lst ms]) = .nx [some h.d, some x1, some (.loc st.length), some (.int p), some (it w), some x5, some (givD g), some (.int s), o8, some (.int q.num), some (.int q.den), some (.int (shp - (if some p = g then (s : Int) else 0)))] (st ++ [.lst ms2]) := by
      by_cases c : some p = g
      · rw [decide_eq_true c] at hgc
        rw [if_pos c] at e1
        rw [Int.natCast_mul] at e1
        simp [k_ft_eq, b_law_sum_f1, evIdx, seqOf, deref, h0, hm1, hget2, frD, hgc, h1, hsh3, evBin, hsm, hdm, e1, evSto, hms, c]
      · rw [decide_eq_false c] at hgc
        rw [if_neg c] at e1
        rw [Int.natCast_mul] at e1
        simp at e1
        simp [k_ft_eq, b_law_sum_f1, evIdx, seqOf, deref, h0, hm1, hget2, frD, hgc, h1, hsh3, evBin, hsm, hdm, e1, evSto, hms, c]
    rw [hk, RS.loop_nx, e2]
end
end LawT
namespace LawT
open PySem EV

theorem mk_add {n : Nat} (hn : 0 < n) (a b : Int) : mkRat a n + mkRat b n = mkRat (a + b) n := by
  have hn0' : n ≠ 0 := by omega
  rw [Rat.mkRat_add_mkRat _ _ hn0' hn0', Rat.mkRat_eq_iff (by exact Nat.mul_ne_zero hn0' hn0') hn0']
  rw [Int.natCast_mul, ← Int.mul_assoc, Int.add_mul, Int.add_mul, Int.add_mul]
/-- of a day: a wish, and who of it is given the boat -/
def XOk (h : Hou) (x : List Int × Stg × Option Int) : Prop := WOk h x.1 ∧ (x.1 = [] → x.2.2 = none) ∧ (x.1 ≠ [] → ∃ g, x.2.2 = some g ∧ g ∈ x.1)
theorem zip_ok {h : Hou} (ho : h.Ok) : ∀ (row : List (List Int)) (s : Stg), SOk h s → ROk h row → ∀ x ∈ row.zip (ledM h s row), XOk h x
  | [], s, _, _, x, hx => by simp at hx
  | w :: row, s, so, ro, x, hx => by
    have wo := ro w List.mem_cons_self
    rw [ledM, List.zip_cons_cons] at hx
    rcases List.mem_cons.mp hx with rfl | hx
    · refine ⟨wo, fun e => ?_, fun hn => ⟨giv h s w, ?_, giv_w so wo hn⟩⟩
      · have e : w = [] := e
        subst e; rfl
      · have hn : w ≠ [] := hn
        show (day h s w).2 = _
        unfold day giv; rw [if_neg hn]
    · exact zip_ok ho row _ (day_ok ho so wo) (fun v hv => ro v (List.mem_cons_of_mem _ hv)) x hx
theorem chg_sum {h : Hou} (ho : h.Ok) {x : List Int × Stg × Option Int} (xo : XOk h x) : (∀ a b, h.sh = [a, b] → chgM h (partsM h) x.1 x.2.2 0 + chgM h (partsM h) x.1 x.2.2 1 = 0) ∧ (∀ a b c, h.sh = [a, b, c] → chgM h (partsM h) x.1 x.2.2 0 + chgM h (partsM h) x.1 x.2.2 1 + chgM h (partsM h) x.1 x.2.2 2 = 0) := by
  obtain ⟨w, s, g⟩ := x
  obtain ⟨wo, h1, h2⟩ := xo
  simp only [] at wo h1 h2 ⊢
  by_cases hn : w = []
  · subst hn
    have := h1 rfl
    subst this
    simp [chgM, dueM]
  · obtain ⟨g', rfl, hg⟩ := h2 hn
    obtain ⟨k, hk⟩ := parts_k ho wo hn
    have hs := (sum_pos ho wo hn).1
    have hd : ∀ p, dueM h (partsM h) w p = if p ∈ w then h.sh.getD p.toNat 0 * k else 0 := fun p => by
      by_cases c : p ∈ w
      · rw [if_pos c, due_mul c hs hk]
      · unfold dueM; rw [if_neg c, if_neg c]
    have hw := wishN_all ho wo
    generalize partsM h = P at hk hd ⊢
    refine ⟨fun a b e => ?_, fun a b c e => ?_⟩
    · simp only [chgM, hd]
      unfold sumOf at hk
      rw [e] at hw hk ⊢
      have hw : w ∈ [[], [0], [0, 1], [1]] := hw
      simp only [List.mem_cons, List.not_mem_nil, or_false] at hw
      rcases hw with rfl | rfl | rfl | rfl
      · exact absurd rfl hn
      all_goals
        simp at hg hk ⊢
        (try rcases hg with rfl | rfl) <;> (try subst hg) <;> simp [hk] <;> (try rw [Int.add_mul]) <;> omega
    · simp only [chgM, hd]
      unfold sumOf at hk
      rw [e] at hw hk ⊢
      have hw : w ∈ [[], [0], [0, 1], [0, 1, 2], [0, 2], [1], [1, 2], [2]] := hw
      simp only [List.mem_cons, List.not_mem_nil, or_false] at hw
      rcases hw with rfl | rfl | rfl | rfl | rfl | rfl | rfl | rfl
      · exact absurd rfl hn
      all_goals
        simp at hg hk ⊢
        (try rcases hg with rfl | rfl | rfl) <;> (try rcases hg with rfl | rfl) <;> (try subst hg) <;> simp [hk] <;> (try rw [Int.add_mul]) <;> (try rw [Int.add_mul]) <;> omega
theorem bal_sum {h : Hou} (ho : h.Ok) (row : List (List Int)) (ro : ROk h row) : (balM h row).sum = 0 := by
  have : ∀ (xs : List (List Int × Stg × Option Int)) (acc : List Int), acc.length = h.sh.length → (∀ x ∈ xs, XOk h x) → (xs.foldl (balStep h (partsM h)) acc).sum = acc.sum := by
    intro xs
    induction xs with
    | nil => intro acc _ _; rfl
    | cons x xs ih =>
      intro acc hl hx
      rw [List.foldl_cons, ih _ (by rw [step_len]; exact hl) fun y hy => hx y (List.mem_cons_of_mem _ hy)]
      obtain ⟨c2, c3⟩ := chg_sum ho (hx x List.mem_cons_self)
      unfold balStep
      rcases ho.len with q | q
      · rw [q] at hl
        match hsh : h.sh, acc, q, hl with
        | [a, b], [u, v], _, _ =>
          have := c2 a b hsh
          simp [List.mapIdx_cons]
          omega
      · rw [q] at hl
        match hsh : h.sh, acc, q, hl with
        | [a, b, c], [u, v, z], _, _ =>
          have := c3 a b c hsh
          simp [List.mapIdx_cons]
          omega
  unfold balM
  rw [this _ _ List.length_replicate (zip_ok ho row _ (st0_ok ho) ro)]
  simp
/-- days without wishes change nothing -/
theorem bal_more (h : Hou) (row : List (List Int)) (n : Nat) : balM h (row ++ List.replicate n []) = balM h row := by
  have hz : ∀ (n : Nat) (s : Stg) (acc : List Int), ((List.replicate n ([] : List Int)).zip (ledM h s (List.replicate n []))).foldl (balStep h (partsM h)) acc = acc := by
    intro n
    induction n with
    | zero => intro s acc; rfl
    | succ n ih =>
      intro s acc
      rw [List.replicate_succ, ledM, List.zip_cons_cons, List.foldl_cons]
      have e : balStep h (partsM h) acc ([], day h s []) = acc := by
        unfold balStep
        have : (day h s []).2 = none := rfl
        rw [this]
        apply List.ext_getElem?
        intro i
        rw [List.getElem?_mapIdx]
        simp [chgM, dueM]
      rw [e]
      exact ih _ _
  unfold balM
  rw [led_append, List.zip_append (by rw [led_len]), List.foldl_append]
  exact hz n _ _
section
variable {cf : Call} {st : Store}
def encL (n : Nat) (acc : List Int) : List D := acc.map fun N => frD (mkRat N n)
theorem mix_nil (h : Hou) (n : Nat) (w : List Int) (g : Option Int) (acc : List Int) : mixD h n w g acc [] = encL n acc := by
  unfold mixD encL
  apply List.ext_getElem?
  intro i
  simp
theorem mix_all {h : Hou} {n : Nat} {x : List Int × Stg × Option Int} (xo : XOk h x) (acc : List Int) : mixD h n x.1 x.2.2 acc x.1 = encL n (balStep h n acc x) := by
  unfold mixD encL balStep
  apply List.ext_getElem?
  intro i
  rw [List.getElem?_mapIdx, List.getElem?_map, List.getElem?_mapIdx]
  cases acc[i]? with
  | none => rfl
  | some N =>
    simp only [Option.map_some]
    by_cases c : (i : Int) ∈ x.1
    · rw [if_pos c]
    · rw [if_neg c]
      have hz : chgM h n x.1 x.2.2 i = 0 := by
        unfold chgM dueM
        rw [if_neg c]
        by_cases hn : x.1 = []
        · rw [xo.2.1 hn]; simp
        · obtain ⟨g, e, hg⟩ := xo.2.2 hn
          have : ¬ g = (i : Int) := fun z => c (z ▸ hg)
          rw [e]; simp [this]
      rw [hz, Int.add_zero]
theorem sum_outer (hlo : S_law_low cf) {h : Hou} (ho : h.Ok) {n : Nat} (hpn : partsM h = n) (hn0 : 0 < n) (hn1 : n ≤ 2520) {x1 : D} : ∀ (xs : List (List Int × Stg × Option Int)) (acc : List Int) (o3 o4 o5 o6 o7 o9 o10 o11 : Option D), (∀ x ∈ xs, XOk h x) → acc.length = h.sh.length →
    ∃ o3' o4' o5' o6' o7' o9' o10' o11', forLoop (k_ft cf sub fu (.tup (.cons (.name 4) (.cons (.tup (.cons (.name 5) (.cons (.name 6) .nil))) .nil))) b_law_sum_f0) (xs.map fun x => D.tup [it x.1, pD x.2]) [some h.d, some x1, some (.loc st.length), o3, o4, o5, o6, o7, none, o9, o10, o11] (st ++ [.lst (encL n acc)])
      = .nx [some h.d, some x1, some (.loc st.length), o3', o4', o5', o6', o7', none, o9', o10', o11'] (st ++ [.lst (encL n (xs.foldl (balStep h n) acc))])
  | [], acc, o3, o4, o5, o6, o7, o9, o10, o11, _, _ => ⟨o3, o4, o5, o6, o7, o9, o10, o11, by simp⟩
  | x :: xs, acc, o3, o4, o5, o6, o7, o9, o10, o11, hx, hl => by
    have xo := hx x List.mem_cons_self
    have hs0 : ∃ s : Nat, sumOf h x.1 = s := by
      by_cases hn : x.1 = []
      · exact ⟨0, by rw [hn]; rfl⟩
      · have := sum_pos ho xo.1 hn
        exact ⟨(sumOf h x.1).toNat, by omega⟩
    obtain ⟨s, hs⟩ := hs0
    obtain ⟨a3, a9, a10, a11, e1⟩ := sum_inner (st := st) (x1 := x1) (x5 := stD x.2.1) (o8 := none) (g := x.2.2) hlo ho hpn hn0 hn1 xo.1 hs hl x.1 [] o3 o9 o10 o11 rfl
    rw [mix_nil, mix_all xo] at e1
    obtain ⟨b3, b4, b5, b6, b7, b9, b10, b11, e2⟩ := sum_outer hlo ho hpn hn0 hn1 (x1 := x1) xs (balStep h n acc x) a3 (some (it x.1)) (some (stD x.2.1)) (some (givD x.2.2)) (some (.int s)) a9 a10 a11 (fun y hy => hx y (List.mem_cons_of_mem _ hy)) (by rw [step_len]; exact hl)
    refine ⟨b3, b4, b5, b6, b7, b9, b10, b11, ?_⟩
    have e3 : lcLoop (k_turn cf x_law_sum_1 (.name 8) .none [some h.d, some x1, some (.loc st.length), o3, some (it x.1), some (stD x.2.1), some (givD x.2.2), o7, none, o9, o10, o11]) (x.1.map .int) [] (st ++ [.lst (encL n acc)]) = .ok ((x.1.map fun p => h.sh.getD p.toNat 0).map .int) (st ++ [.lst (encL n acc)]) :=
      lc_ints_map _ fun p hp => by
        obtain ⟨h0, h2⟩ := xo.1.2 p hp
        have h3 := get_it h0 h2
        simp [k_turn_eq, x_law_sum_1, h0, h2, h3]
    have e4 : evBlt (st ++ [.lst (encL n acc)]) .sum [.lst ((x.1.map fun p => h.sh.getD p.toNat 0).map .int)] = some (.int s) := by rw [blt_sum_ints, ← hs]; rfl
    generalize (x.1.map fun p => h.sh.getD p.toNat 0) = zs at e3 e4
    generalize encL n (balStep h n acc x) = l2 at e1 e2
    generalize encL n acc = l1 at e1 e3 e4 ⊢
    have hk : k_ft cf sub fu (.tup (.cons (.name 4) (.cons (.tup (.cons (.name 5) (.cons (.name 6) .nil))) .nil))) b_law_sum_f0 (D.tup [it x.1, pD x.2]) [some h.d, some x1, some (.loc st.length), o3, o4, o5, o6, o7, none, o9, o10, o11] (st ++ [.lst l1]) = .nx [some h.d, some x1, some (.loc st.length), a3, some (it x.1), some (stD x.2.1), some (givD x.2.2), some (.int s), none, a9, a10, a11] (st ++ [.lst l2]) := by
      simp [k_ft_eq, b_law_sum_f0, pD, e3, e4, e1]
    rw [List.map_cons, forLoop_cons, hk, RS.loop_nx, e2, List.foldl_cons]
theorem sp_law_sum (hlo : S_law_low cf) (hl : S_law_led cf) {h : Hou} {row : List (List Int)} (ho : h.Ok) (ro : ROk h row) (hz : row.length ≤ 1000) (hu : stUnd st = true) : evDef cf sub fu 12 b_law_sum [h.d, rowT row] st = .ok (balD h row) (st ++ [.gone]) := by
  obtain ⟨n, hpn, hn0, hn1⟩ := parts_nat ho
  have e1 := fun s hs => hl h row s ho ro hz hs
  obtain ⟨o3, o4, o5, o6, o7, o9, o10, o11, e2⟩ := sum_outer (st := st) hlo ho hpn hn0 hn1 (x1 := rowT row) (row.zip (ledM h (st0 h) row)) (List.replicate h.sh.length 0) none none none none none none none none (zip_ok ho row _ (st0_ok ho) ro) List.length_replicate
  have e5 := zip_items it pD row (ledM h (st0 h) row)
  have e6 : lcLoop (k_turn cf x_law_sum_0 (.name 3) .none [some h.d, some (rowT row), none, none, none, none, none, none, none, none, none, none]) (h.sh.map .int) [] st = .ok (encL n (List.replicate h.sh.length 0)) st := by
    rw [lc_ints_mapD (F := fun _ => .tup [.int 0, .int 1]) _ fun x hx => by simp [k_turn_eq, x_law_sum_0]]
    congr 1
    unfold encL
    rw [List.map_replicate, List.map_const']
    congr 1
    rw [Rat.zero_mkRat]
    rfl
  unfold balD balM
  rw [hpn]
  simp only [Int.toNat_natCast]
  have hres : (((row.zip (ledM h (st0 h) row)).foldl (balStep h n) (List.replicate h.sh.length 0)).map fun x => frD (mkRat x n)) = encL n ((row.zip (ledM h (st0 h) row)).foldl (balStep h n) (List.replicate h.sh.length 0)) := rfl
  rw [hres]
  have hpl : D.pls (encL n (List.replicate h.sh.length 0)) = true := pls_of fun d hd => by
    obtain ⟨x, _, rfl⟩ := List.mem_map.mp hd; rfl
  have e1 := e1 (st ++ [.lst (encL n (List.replicate h.sh.length 0))]) (stUnd_push hu (by rw [O.und]; exact unds_pls _ hpl))
  generalize encL n ((row.zip (ledM h (st0 h) row)).foldl (balStep h n) (List.replicate h.sh.length 0)) = res at e2 ⊢
  generalize row.zip (ledM h (st0 h) row) = xs at e5 e2
  generalize (ledM h (st0 h) row).map pD = ys at e1 e5
  generalize encL n (List.replicate h.sh.length 0) = zs at e1 e2 e6
  simp [evDef_fin, b_law_sum, e6, e1, e5, e2, evFrzv]
end
end LawT
namespace LawT
open PySem EV

theorem range4 : List.range 4 = [0, 1, 2, 3] := by decide
theorem balD_pl (h : Hou) (row : List (List Int)) : (balD h row).pl = true := by rw [D.pl]; exact pls_of fun d hd => by obtain ⟨x, _, rfl⟩ := List.mem_map.mp hd; rfl
theorem balD_dep (h : Hou) (row : List (List Int)) : (balD h row).dep ≤ 2 := by
  rw [balD, D.dep]
  have := deps_of (n := 1) (ds := (balM h row).map fun x => frD (mkRat x (partsM h).toNat)) fun d hd => by obtain ⟨p, _, rfl⟩ := List.mem_map.mp hd; rw [frD_dep]; exact Nat.le_refl _
  omega
def S_law_refused (cf : Call) : Prop := ∀ (h : Hou) v st, h.Ok → D.pl v = true → v.dep ≤ 50 → isRow h.sh.length v = false → stUnd st = true → cf 39 [h.d, v] st = .ok (.bl true) st
section
variable {cf : Call} {st : Store}
theorem sp_law_refused (hb : S_balances cf) {h : Hou} {v : D} (ho : h.Ok) (hv : v.pl = true) (hd : v.dep ≤ 50) (hbad : isRow h.sh.length v = false) (hu : stUnd st = true) : evDef cf sub fu 2 b_law_refused [h.d, v] st = .ok (.bl true) st := by
  have e1 := (hb h v st ho hv hd hu).1 hbad
  have hsub : sub 1 1 = true := by decide
  simp [evDef_fin, b_law_refused, e1, hsub]
/-- the sum of what is told -/
theorem told_loop (hlo : S_law_low cf) {n : Nat} (hn0 : 0 < n) (hn1 : n ≤ 2520) {o0 o1 o2 o3 o4 o5 o6 : Option D} : ∀ (xs : List Int) (S : Int) (o9 o10 : Option D), ∃ o9' o10', forLoop (k_ft cf sub fu (.tup (.cons (.name 9) (.cons (.name 10) .nil))) b_law_f2) (xs.map fun x => frD (mkRat x n)) [o0, o1, o2, o3, o4, o5, o6, some (.int (mkRat S n).num), some (.int (mkRat S n).den), o9, o10, none, none, none] st
      = .nx [o0, o1, o2, o3, o4, o5, o6, some (.int (mkRat (S + xs.sum) n).num), some (.int (mkRat (S + xs.sum) n).den), o9', o10', none, none, none] st
  | [], S, o9, o10 => ⟨o9, o10, by simp⟩
  | x :: xs, S, o9, o10 => by
    obtain ⟨o9', o10', e⟩ := told_loop hlo hn0 hn1 (o0 := o0) (o1 := o1) (o2 := o2) (o3 := o3) (o4 := o4) (o5 := o5) (o6 := o6) xs (S + x) (some (.int (mkRat x n).num)) (some (.int (mkRat x n).den))
    refine ⟨o9', o10', ?_⟩
    have d1 := den_le (N := S) hn0
    have d2 := den_le (N := x) hn0
    have hb : (mkRat S n).den * (mkRat x n).den ≤ 2520 * 2520 := Nat.mul_le_mul (by omega) (by omega)
    have e1 := hlo ((mkRat S n).num * (mkRat x n).den + (mkRat x n).num * (mkRat S n).den) ((mkRat S n).den * (mkRat x n).den) st (Nat.mul_pos d1.2 d2.2) (by omega)
    rw [← Rat.mkRat_add_mkRat _ _ (by omega) (by omega), Rat.mkRat_self, Rat.mkRat_self, mk_add hn0, Int.natCast_mul] at e1
    have hk : k_ft cf sub fu (.tup (.cons (.name 9) (.cons (.name 10) .nil))) b_law_f2 (frD (mkRat x n)) [o0, o1, o2, o3, o4, o5, o6, some (.int (mkRat S n).num), some (.int (mkRat S n).den), o9, o10, none, none, none] st = .nx [o0, o1, o2, o3, o4, o5, o6, some (.int (mkRat (S + x) n).num), some (.int (mkRat (S + x) n).den), some (.int (mkRat x n).num), some (.int (mkRat x n).den), none, none, none] st := by
      have hsm : smallI ((mkRat x n).den : Int) = true := by simp [smallI]; omega
      have hdm : smallI ((mkRat S n).den : Int) = true := by simp [smallI]; omega
      generalize mkRat (S + x) n = qs at *
      generalize mkRat S n = q1 at *
      generalize mkRat x n = q2 at *
      simp [k_ft_eq, b_law_f2, frD, evBin, hsm, hdm]
      rw [e1]
      simp [frD]
    rw [List.map_cons, forLoop_cons, hk, RS.loop_nx, e, List.sum_cons, Int.add_assoc]
theorem add3 (row : List (List Int)) (hl : row.length ≤ 100) : evBin .add (rowT row) (.tup [.tup [], .tup [], .tup []]) = some (rowT (row ++ List.replicate 3 [])) := by
  have : (row.map it).length + 3 ≤ most := by rw [List.length_map]; unfold most; omega
  have e : (row ++ List.replicate 3 []).map it = row.map it ++ [.tup [], .tup [], .tup []] := by rw [List.map_append]; rfl
  rw [rowT, rowT, e]
  show (if decide ((row.map it).length + [D.tup [], .tup [], .tup []].length ≤ most) then some _ else none) = _
  exact if_pos (decide_eq_true this)
theorem mul3 : evBin .mul (.tup [.tup []]) (.int 3) = some (.tup [.tup [], .tup [], .tup []]) := by kernel_rfl
/-- one turn of the inner loop -/
theorem turn_t (hc : S_law_choice cf) (hh : S_law_house cf) (hr : S_law_row cf) (hb : S_balances cf) (hs : S_law_sum cf) (hlo : S_law_low cf) {l : Nat} {i : Nat} {o0 o1 o3 o4 o5 o6 o7 o8 o9 o10 : Option D} (hsr : Src st l) :
    ∃ (h : Hou) (o5' o6' o7' o8' o9' o10' : Option D) (st' : Store), k_ft cf sub fu (.name 3) b_law_f1 (.int (i : Int)) [o0, o1, some (.loc l), o3, o4, o5, o6, o7, o8, o9, o10, none, none, none] st = .nx [o0, o1, some (.loc l), some (.int (i : Int)), some h.d, o5', o6', o7', o8', o9', o10', none, none, none] st' ∧ h.Ok ∧ st'.length = st.length ∧ Src st' l := by
  obtain ⟨d, st1, e1, ⟨hd1, _⟩, hl1, hs1⟩ := hh l 3 st hsr (.inr rfl)
  obtain ⟨h, rfl, ho, _, _⟩ := hs_hou hd1
  obtain ⟨x, st2, e2, hx, hl2, hs2⟩ := hc l [.int 0, .int 1, .int 7, .int 60] st1 hs1 (by simp) (by simp)
  obtain ⟨m, rfl, m0, m1⟩ : ∃ m : Int, x = .int m ∧ 0 ≤ m ∧ m ≤ 60 := by
    simp at hx
    rcases hx with rfl | rfl | rfl | rfl <;> simp
  obtain ⟨row, st3, e3, ⟨ro, hz⟩, hl3, hs3⟩ := hr l h m st2 hs2 ho m0 (by omega)
  have hz : row.length ≤ 60 := by omega
  have hu := und_src hs3
  have e4 := (hb h (rowT row) st3 ho (rowT_pl row) (Nat.le_trans (rowT_dep row) (by decide)) hu).2 row rfl ro (by omega)
  have e5 := hs h row st3 ho ro (by omega) hu
  have ro3 : ROk h (row ++ List.replicate 3 []) := fun w hw => by
    rcases List.mem_append.mp hw with z | z
    · exact ro w z
    · rw [(List.mem_replicate.mp z).2]
      exact ⟨List.Pairwise.nil, fun _ h => by cases h⟩
  have e6 := (hb h (rowT (row ++ List.replicate 3 [])) st3 ho (rowT_pl _) (Nat.le_trans (rowT_dep _) (by decide)) hu).2 _ rfl ro3 (by rw [List.length_append, List.length_replicate]; omega)
  have hbd : balD h (row ++ List.replicate 3 []) = balD h row := by unfold balD; rw [bal_more]
  rw [hbd] at e6
  have e7 := cmp_ne_same_t (st := st3) (okD_of (balD_pl h row) (Nat.le_trans (balD_dep h row) (by decide)))
  obtain ⟨n, hpn, hn0, hn1⟩ := parts_nat ho
  have hbs := bal_sum ho row ro
  have e8 : ∀ (o0 o1 o2 o3 o4 o5 o6 o9 o10 : Option D), ∃ o9' o10', forLoop (k_ft cf sub fu (.tup (.cons (.name 9) (.cons (.name 10) .nil))) b_law_f2) ((balM h row).map fun x => frD (mkRat x (partsM h).toNat)) [o0, o1, o2, o3, o4, o5, o6, some (.int 0), some (.int 1), o9, o10, none, none, none] st3
      = .nx [o0, o1, o2, o3, o4, o5, o6, some (.int 0), some (.int 1), o9', o10', none, none, none] st3 := fun o0 o1 o2 o3 o4 o5 o6 o9 o10 => by
    obtain ⟨o9', o10', e⟩ := told_loop (st := st3) hlo hn0 hn1 (o0 := o0) (o1 := o1) (o2 := o2) (o3 := o3) (o4 := o4) (o5 := o5) (o6 := o6) (balM h row) 0 o9 o10
    refine ⟨o9', o10', ?_⟩
    rw [hbs, Int.add_zero, Rat.zero_mkRat] at e
    rw [hpn]
    exact e
  obtain ⟨p9, p10, e8⟩ := e8 o0 o1 (some (.loc l)) (some (.int (i : Int))) (some h.d) (some (rowT row)) (some (balD h row)) o9 o10
  have ha := add3 row (by omega)
  refine ⟨h, some (rowT row), some (balD h row), some (.int 0), some (.int 1), p9, p10, st3, ?_, ho, by omega, hs3⟩
  generalize row ++ List.replicate 3 [] = row3 at e6 ha
  unfold balD at e4 e5 e6 e7 e8 ⊢
  generalize ((balM h row).map fun x => frD (mkRat x (partsM h).toNat)) = bd at e4 e5 e6 e7 e8 ⊢
  simp [k_ft_eq, b_law_f1, e1, e2, e3, e4, e5, e7, e8, mul3, ha, e6]
end
end LawT
namespace LawT
open PySem EV

def badL : List D := [.non, .lst [], .tup [.tup [.int 1, .int 0]], .tup [.tup [.int 3]], .tup [.int 0]]
theorem badL_ok {p : Int} (hp : p = 2 ∨ p = 3) : ∀ d ∈ badL, d.pl = true ∧ d.dep ≤ 50 ∧ isRow p d = false := by
  rcases hp with rfl | rfl <;> decide +kernel
theorem bal_at {cf : Call} {st : Store} (hg : S_balances cf) (hu : stUnd st = true) (h : Hou) (row : List (List Int)) {d e v : D} (ho : h.Ok) (ro : ROk h row) (hz : row.length ≤ 100) (eh : h.d = d) (er : rowT row = v) (eg : balD h row = e) : cf 26 [d, v] st = .ok e st := by
  subst eh er eg
  exact (hg h (rowT row) st ho (rowT_pl row) (Nat.le_trans (rowT_dep row) (by decide)) hu).2 row rfl ro hz
section
variable {cf : Call} {st : Store}
/-- one turn of the outer loop -/
theorem turn_k (h0 : S_law_source cf) (hc : S_law_choice cf) (hh : S_law_house cf) (hr : S_law_row cf) (hb : S_balances cf) (hs : S_law_sum cf) (hlo : S_law_low cf) (hF : S_law_refused cf) {ns : List Int} {k : Int} (hk : 0 ≤ k) (hk2 : k ≤ 1000) {o1 o2 o3 o4 o5 o6 o7 o8 o9 o10 : Option D} (hcl : Cln st) :
    ∃ o2' o3' o4' o5' o6' o7' o8' o9' o10' st', k_ft cf sub fu (.name 1) b_law_f0 (.int k) [some (.rol (ns.map .int)), o1, o2, o3, o4, o5, o6, o7, o8, o9, o10, none, none, none] st = .nx [some (.rol (ns.map .int)), some (.int k), o2', o3', o4', o5', o6', o7', o8', o9', o10', none, none, none] st' ∧ Cln st' := by
  obtain ⟨a, b, e0, a0, b0, b1⟩ := h0 ns k st hk hk2
  have hs0 : Src (st ++ [.lst [.int a, .int b]]) st.length := ⟨hcl.push a b, a, b, by simp, a0, b0, b1⟩
  obtain ⟨h1, p5, p6, p7, p8, p9, p10, s1, e1, ho1, hl1, hs1⟩ := turn_t (i := 0) (o0 := some (.rol (ns.map .int))) (o1 := some (.int k)) (o3 := o3) (o4 := o4) (o5 := o5) (o6 := o6) (o7 := o7) (o8 := o8) (o9 := o9) (o10 := o10) hc hh hr hb hs hlo hs0
  obtain ⟨h2, q5, q6, q7, q8, q9, q10, s2, e2, ho2, hl2, hs2⟩ := turn_t (i := 1) (o0 := some (.rol (ns.map .int))) (o1 := some (.int k)) (o3 := some (.int ((0 : Nat) : Int))) (o4 := some h1.d) (o5 := p5) (o6 := p6) (o7 := p7) (o8 := p8) (o9 := p9) (o10 := p10) hc hh hr hb hs hlo hs1
  obtain ⟨h3, r5, r6, r7, r8, r9, r10, s3, e3, ho3, hl3, hs3⟩ := turn_t (i := 2) (o0 := some (.rol (ns.map .int))) (o1 := some (.int k)) (o3 := some (.int ((1 : Nat) : Int))) (o4 := some h2.d) (o5 := q5) (o6 := q6) (o7 := q7) (o8 := q8) (o9 := q9) (o10 := q10) hc hh hr hb hs hlo hs2
  obtain ⟨h4, t5, t6, t7, t8, t9, t10, s4, e4, ho4, hl4, hs4⟩ := turn_t (i := 3) (o0 := some (.rol (ns.map .int))) (o1 := some (.int k)) (o3 := some (.int ((2 : Nat) : Int))) (o4 := some h3.d) (o5 := r5) (o6 := r6) (o7 := r7) (o8 := r8) (o9 := r9) (o10 := r10) hc hh hr hb hs hlo hs3
  have hbd := badL_ok (p := (h4.sh.length : Int)) (by have := ho4.len; omega)
  have el : ∀ o0 o1 o2 o3 o5 o6 o7 o8 o9 o10 o11 o12 o13, lcLoop (k_turn cf x_law_0 (.name 11) c_law_0 [o0, o1, o2, o3, some h4.d, o5, o6, o7, o8, o9, o10, o11, o12, o13]) badL [] s4 = .ok [] s4 := fun o0 o1 o2 o3 o5 o6 o7 o8 o9 o10 o11 o12 o13 => by
    rw [lc_filter (p := fun _ => false)]
    · simp
    · intro d hdm
      obtain ⟨d1, d2, d3⟩ := hbd d hdm
      have := hF h4 d s4 ho4 d1 d2 d3 (und_src hs4)
      simp [k_turn_eq, x_law_0, c_law_0, this]
  unfold badL at el
  have ec := cmp_ne_same_l (st := s4) (xs := []) (by decide +kernel)
  refine ⟨some (.loc st.length), some (.int ((3 : Nat) : Int)), some h4.d, t5, t6, t7, t8, t9, t10, s4, ?_, hs4.1⟩
  simp only [Int.cast_ofNat_Int] at e1 e2 e3 e4
  rw [k_ft_eq]
  simp [b_law_f0, e0, range4, most, e1, e2, e3, e4, el, ec]
theorem mul_row3 : evBin .mul (.tup [.tup [.int 0, .int 1]]) (.int 3) = some (.tup [.tup [.int 0, .int 1], .tup [.int 0, .int 1], .tup [.int 0, .int 1]]) := by kernel_rfl
theorem sp_law (h0 : S_law_source cf) (hc : S_law_choice cf) (hh : S_law_house cf) (hr : S_law_row cf) (hb : S_balances cf) (hs : S_law_sum cf) (hlo : S_law_low cf) (hF : S_law_refused cf) (ns : List Int) : ∃ st', evDef cf sub fu 14 b_law [.rol (ns.map .int)] [] = .ok (.bl true) st' := by
  have hmin : ∃ n : Int, (if 10 < (ns.length : Int) then 10 else (ns.length : Int)) = n ∧ 0 ≤ n ∧ n ≤ 10 := ⟨_, rfl, by split <;> omega, by split <;> omega⟩
  obtain ⟨n, hn, n0, n1⟩ := hmin
  obtain ⟨σ', st1, e, o1, o2, o3, o4, o5, o6, o7, o8, o9, o10, rfl, hcl, _⟩ := for_inv (f := k_ft cf sub fu (.name 1) b_law_f0)
    (fun rest σ s => ∃ o1 o2 o3 o4 o5 o6 o7 o8 o9 o10, σ = [some (.rol (ns.map .int)), o1, o2, o3, o4, o5, o6, o7, o8, o9, o10, none, none, none] ∧ Cln s ∧ ∀ d ∈ rest, ∃ i : Int, d = .int i ∧ 0 ≤ i ∧ i ≤ 1000)
    ((List.range (1 + n).toNat).map fun (i : Nat) => D.int (i : Int)) [some (.rol (ns.map .int)), none, none, none, none, none, none, none, none, none, none, none, none, none] []
    ⟨none, none, none, none, none, none, none, none, none, none, rfl, (fun _ h => by cases h), fun d hd => by
      obtain ⟨i, hi, rfl⟩ := List.mem_map.mp hd
      have := List.mem_range.mp hi
      exact ⟨i, rfl, by omega, by omega⟩⟩ (by
      rintro d r σ s ⟨o1, o2, o3, o4, o5, o6, o7, o8, o9, o10, rfl, hcl, q⟩
      obtain ⟨i, rfl, i0, i1⟩ := q d List.mem_cons_self
      obtain ⟨o2', o3', o4', o5', o6', o7', o8', o9', o10', st', e, hc'⟩ := turn_k (st := s) (o1 := o1) (o2 := o2) (o3 := o3) (o4 := o4) (o5 := o5) (o6 := o6) (o7 := o7) (o8 := o8) (o9 := o9) (o10 := o10) h0 hc hh hr hb hs hlo hF (ns := ns) i0 i1 hcl
      exact ⟨_, st', e, some (.int i), o2', o3', o4', o5', o6', o7', o8', o9', o10', rfl, hc', fun d hd => q d (List.mem_cons_of_mem _ hd)⟩)
  have hm1 : 1 + n ≤ 1000000 := by omega
  have hm2 : -4611686018427387904 ≤ 1 + n := by omega
  have hu := hcl.und
  have q1 := bal_at hb hu ⟨[1, 1], .turns, 0, 0⟩ [[0], [0, 1]] (d := .tup [.tup [.int 1, .int 1], .tup [.str "turns", .int 0, .int 0]]) (v := .tup [.tup [.int 0], .tup [.int 0, .int 1]]) (e := .tup [.tup [.int 1, .int 2], .tup [.int (-1), .int 2]]) (by decide +kernel) (by decide +kernel) (by decide) rfl rfl (by kernel_rfl)
  have q2 := bal_at hb hu ⟨[2, 1], .first, 0, 1⟩ [[0, 1], [0, 1], [0, 1]] (d := .tup [.tup [.int 2, .int 1], .tup [.str "first", .int 0, .int 1]]) (v := .tup [.tup [.int 0, .int 1], .tup [.int 0, .int 1], .tup [.int 0, .int 1]]) (e := .tup [.tup [.int 0, .int 1], .tup [.int 0, .int 1]]) (by decide +kernel) (by decide +kernel) (by decide) rfl rfl (by kernel_rfl)
  have q3 := bal_at hb hu ⟨[2, 1], .first, 0, 1⟩ [[0, 1]] (d := .tup [.tup [.int 2, .int 1], .tup [.str "first", .int 0, .int 1]]) (v := .tup [.tup [.int 0, .int 1]]) (e := .tup [.tup [.int (-1), .int 3], .tup [.int 1, .int 3]]) (by decide +kernel) (by decide +kernel) (by decide) rfl rfl (by kernel_rfl)
  have q4 := bal_at hb hu ⟨[2, 1], .first, 0, 1⟩ [[0, 1], [1], [0, 1]] (d := .tup [.tup [.int 2, .int 1], .tup [.str "first", .int 0, .int 1]]) (v := .tup [.tup [.int 0, .int 1], .tup [.int 1], .tup [.int 0, .int 1]]) (e := .tup [.tup [.int (-2), .int 3], .tup [.int 2, .int 3]]) (by decide +kernel) (by decide +kernel) (by decide) rfl rfl (by kernel_rfl)
  have q5 := bal_at hb hu ⟨[3, 2, 1], .first, 0, 0⟩ [[0, 1, 2], [1, 2]] (d := .tup [.tup [.int 3, .int 2, .int 1], .tup [.str "first", .int 0, .int 0]]) (v := .tup [.tup [.int 0, .int 1, .int 2], .tup [.int 1, .int 2]]) (e := .tup [.tup [.int (-1), .int 2], .tup [.int 0, .int 1], .tup [.int 1, .int 2]]) (by decide +kernel) (by decide +kernel) (by decide) rfl rfl (by kernel_rfl)
  have c1 : ∀ s, evCmp s .ne (.tup [.tup [.int 1, .int 2], .tup [.int (-1), .int 2]]) (.tup [.tup [.int 1, .int 2], .tup [.int (-1), .int 2]]) = some false := fun s => cmp_ne_same_t (by decide +kernel)
  have c2 : ∀ s, evCmp s .ne (.tup [.tup [.int 0, .int 1], .tup [.int 0, .int 1]]) (.tup [.tup [.int 0, .int 1], .tup [.int 0, .int 1]]) = some false := fun s => cmp_ne_same_t (by decide +kernel)
  have c3 : ∀ s, evCmp s .ne (.tup [.tup [.int (-1), .int 3], .tup [.int 1, .int 3]]) (.tup [.tup [.int (-1), .int 3], .tup [.int 1, .int 3]]) = some false := fun s => cmp_ne_same_t (by decide +kernel)
  have c4 : ∀ s, evCmp s .ne (.tup [.tup [.int (-2), .int 3], .tup [.int 2, .int 3]]) (.tup [.tup [.int (-2), .int 3], .tup [.int 2, .int 3]]) = some false := fun s => cmp_ne_same_t (by decide +kernel)
  have c5 : ∀ s, evCmp s .eq (.tup [.tup [.int (-1), .int 2], .tup [.int 0, .int 1], .tup [.int 1, .int 2]]) (.tup [.tup [.int (-1), .int 2], .tup [.int 0, .int 1], .tup [.int 1, .int 2]]) = some true := fun s => cmp_eq_same_t (by decide +kernel)
  refine ⟨st1, ?_⟩
  simp [evDef_fin, b_law, hn, hm1, hm2, e, most, q1, q2, q3, q4, q5, c1, c2, c3, c4, c5, mul_row3]
end
end LawT
namespace LawT
open PySem EV
theorem lift_is_from {cf cf' : Call} (e : cf' 0 = cf 0) (h : S_is_from cf) : S_is_from cf' := by unfold S_is_from at h ⊢; rw [e]; exact h
theorem lift_is_tuple {cf cf' : Call} (e : cf' 1 = cf 1) (h : S_is_tuple cf) : S_is_tuple cf' := by unfold S_is_tuple at h ⊢; rw [e]; exact h
theorem lift_is_rule {cf cf' : Call} (e : cf' 2 = cf 2) (h : S_is_rule cf) : S_is_rule cf' := by unfold S_is_rule at h ⊢; rw [e]; exact h
theorem lift_has_house {cf cf' : Call} (e : cf' 3 = cf 3) (h : S_has_house cf) : S_has_house cf' := by unfold S_has_house at h ⊢; rw [e]; exact h
theorem lift_need_house {cf cf' : Call} (e : cf' 4 = cf 4) (h : S_need_house cf) : S_need_house cf' := by unfold S_need_house at h ⊢; rw [e]; exact h
theorem lift_rises {cf cf' : Call} (e : cf' 5 = cf 5) (h : S_rises cf) : S_rises cf' := by unfold S_rises at h ⊢; rw [e]; exact h
theorem lift_is_wish {cf cf' : Call} (e : cf' 6 = cf 6) (h : S_is_wish cf) : S_is_wish cf' := by unfold S_is_wish at h ⊢; rw [e]; exact h
theorem lift_has_row {cf cf' : Call} (e : cf' 7 = cf 7) (h : S_has_row cf) : S_has_row cf' := by unfold S_has_row at h ⊢; rw [e]; exact h
theorem lift_need_row {cf cf' : Call} (e : cf' 8 = cf 8) (h : S_need_row cf) : S_need_row cf' := by unfold S_need_row at h ⊢; rw [e]; exact h
theorem lift_all_wishes {cf cf' : Call} (e : cf' 9 = cf 9) (h : S_all_wishes cf) : S_all_wishes cf' := by unfold S_all_wishes at h ⊢; rw [e]; exact h
theorem lift_first_standing {cf cf' : Call} (e : cf' 10 = cf 10) (h : S_first_standing cf) : S_first_standing cf' := by unfold S_first_standing at h ⊢; rw [e]; exact h
theorem lift_who_may {cf cf' : Call} (e : cf' 11 = cf 11) (h : S_who_may cf) : S_who_may cf' := by unfold S_who_may at h ⊢; rw [e]; exact h
theorem lift_with_dues {cf cf' : Call} (e : cf' 12 = cf 12) (h : S_with_dues cf) : S_with_dues cf' := by unfold S_with_dues at h ⊢; rw [e]; exact h
theorem lift_sum_of {cf cf' : Call} (e : cf' 13 = cf 13) (h : S_sum_of cf) : S_sum_of cf' := by unfold S_sum_of at h ⊢; rw [e]; exact h
theorem lift_cut_off {cf cf' : Call} (e : cf' 14 = cf 14) (h : S_cut_off cf) : S_cut_off cf' := by unfold S_cut_off at h ⊢; rw [e]; exact h
theorem lift_picked {cf cf' : Call} (e : cf' 15 = cf 15) (h : S_picked cf) : S_picked cf' := by unfold S_picked at h ⊢; rw [e]; exact h
theorem lift_book_behind {cf cf' : Call} (e : cf' 16 = cf 16) (h : S_book_behind cf) : S_book_behind cf' := by unfold S_book_behind at h ⊢; rw [e]; exact h
theorem lift_run_behind {cf cf' : Call} (e : cf' 17 = cf 17) (h : S_run_behind cf) : S_run_behind cf' := by unfold S_run_behind at h ⊢; rw [e]; exact h
theorem lift_day_behind {cf cf' : Call} (e : cf' 18 = cf 18) (h : S_day_behind cf) : S_day_behind cf' := by unfold S_day_behind at h ⊢; rw [e]; exact h
theorem lift_led {cf cf' : Call} (e : cf' 19 = cf 19) (h : S_led cf) : S_led cf' := by unfold S_led at h ⊢; rw [e]; exact h
theorem lift_share {cf cf' : Call} (e : cf' 20 = cf 20) (h : S_share cf) : S_share cf' := by unfold S_share at h ⊢; rw [e]; exact h
theorem lift_common {cf cf' : Call} (e : cf' 21 = cf 21) (h : S_common cf) : S_common cf' := by unfold S_common at h ⊢; rw [e]; exact h
theorem lift_parts_of {cf cf' : Call} (e : cf' 22 = cf 22) (h : S_parts_of cf) : S_parts_of cf' := by unfold S_parts_of at h ⊢; rw [e]; exact h
theorem lift_due_parts {cf cf' : Call} (e : cf' 23 = cf 23) (h : S_due_parts cf) : S_due_parts cf' := by unfold S_due_parts at h ⊢; rw [e]; exact h
theorem lift_change_of {cf cf' : Call} (e : cf' 24 = cf 24) (h : S_change_of cf) : S_change_of cf' := by unfold S_change_of at h ⊢; rw [e]; exact h
theorem lift_balances_of {cf cf' : Call} (e : cf' 25 = cf 25) (h : S_balances_of cf) : S_balances_of cf' := by unfold S_balances_of at h ⊢; rw [e]; exact h
theorem lift_balances {cf cf' : Call} (e : cf' 26 = cf 26) (h : S_balances cf) : S_balances cf' := by unfold S_balances at h ⊢; rw [e]; exact h
theorem lift_law_source {cf cf' : Call} (e : cf' 27 = cf 27) (h : S_law_source cf) : S_law_source cf' := by unfold S_law_source at h ⊢; rw [e]; exact h
theorem lift_law_draw {cf cf' : Call} (e : cf' 28 = cf 28) (h : S_law_draw cf) : S_law_draw cf' := by unfold S_law_draw at h ⊢; rw [e]; exact h
theorem lift_law_choice {cf cf' : Call} (e : cf' 29 = cf 29) (h : S_law_choice cf) : S_law_choice cf' := by unfold S_law_choice at h ⊢; rw [e]; exact h
theorem lift_law_low {cf cf' : Call} (e : cf' 30 = cf 30) (h : S_law_low cf) : S_law_low cf' := by unfold S_law_low at h ⊢; rw [e]; exact h
theorem lift_law_house {cf cf' : Call} (e : cf' 31 = cf 31) (h : S_law_house cf) : S_law_house cf' := by unfold S_law_house at h ⊢; rw [e]; exact h
theorem lift_law_wishes {cf cf' : Call} (e : cf' 32 = cf 32) (h : S_law_wishes cf) : S_law_wishes cf' := by unfold S_law_wishes at h ⊢; rw [e]; exact h
theorem lift_law_row {cf cf' : Call} (e : cf' 33 = cf 33) (h : S_law_row cf) : S_law_row cf' := by unfold S_law_row at h ⊢; rw [e]; exact h
theorem lift_law_first {cf cf' : Call} (e : cf' 34 = cf 34) (h : S_law_first cf) : S_law_first cf' := by unfold S_law_first at h ⊢; rw [e]; exact h
theorem lift_law_whom {cf cf' : Call} (e : cf' 35 = cf 35) (h : S_law_whom cf) : S_law_whom cf' := by unfold S_law_whom at h ⊢; rw [e]; exact h
theorem lift_law_day {cf cf' : Call} (e : cf' 36 = cf 36) (h : S_law_day cf) : S_law_day cf' := by unfold S_law_day at h ⊢; rw [e]; exact h
theorem lift_law_led {cf cf' : Call} (e : cf' 37 = cf 37) (h : S_law_led cf) : S_law_led cf' := by unfold S_law_led at h ⊢; rw [e]; exact h
theorem lift_law_sum {cf cf' : Call} (e : cf' 38 = cf 38) (h : S_law_sum cf) : S_law_sum cf' := by unfold S_law_sum at h ⊢; rw [e]; exact h
theorem lift_law_refused {cf cf' : Call} (e : cf' 39 = cf 39) (h : S_law_refused cf) : S_law_refused cf' := by unfold S_law_refused at h ⊢; rw [e]; exact h
theorem t_is_from : S_is_from (cc tl_1) := fun v lo hi st hv => pure_top rfl (sp_is_from hv)
theorem t_is_tuple : S_is_tuple (cc tl_2) := fun v lo hi st hv => pure_top rfl (sp_is_tuple hv)
theorem t_is_rule : S_is_rule (cc tl_3) := fun v st hv hd => pure_top rfl (sp_is_rule (lift_is_from (cfL_app (r := tl_1) (by decide) (tl_2.take 1)) t_is_from) (lift_is_tuple (cfL_app (r := tl_2) (by decide) (tl_2.take 0)) t_is_tuple) hv hd)
theorem t_has_house : S_has_house (cc tl_4) := fun v st hv hd => pure_top rfl (sp_has_house (lift_is_from (cfL_app (r := tl_1) (by decide) (tl_3.take 2)) t_is_from) (lift_is_tuple (cfL_app (r := tl_2) (by decide) (tl_3.take 1)) t_is_tuple) (lift_is_rule (cfL_app (r := tl_3) (by decide) (tl_3.take 0)) t_is_rule) hv hd)
theorem t_need_house : S_need_house (cc tl_5) := fun v st hv hd hh => pure_top rfl (sp_need_house (lift_has_house (cfL_app (r := tl_4) (by decide) (tl_4.take 0)) t_has_house) hv hd hh)
theorem t_rises : S_rises (cc tl_6) := fun ns st => pure_top rfl (sp_rises ns)
theorem t_is_wish : S_is_wish (cc tl_7) := fun ss r v st hv hs => pure_top rfl (sp_is_wish (lift_is_from (cfL_app (r := tl_1) (by decide) (tl_6.take 5)) t_is_from) (lift_is_tuple (cfL_app (r := tl_2) (by decide) (tl_6.take 4)) t_is_tuple) (lift_rises (cfL_app (r := tl_6) (by decide) (tl_6.take 0)) t_rises) hv hs)
theorem t_has_row : S_has_row (cc tl_8) := fun ss r v st hv hs => pure_top rfl (sp_has_row (lift_is_tuple (cfL_app (r := tl_2) (by decide) (tl_7.take 5)) t_is_tuple) (lift_is_wish (cfL_app (r := tl_7) (by decide) (tl_7.take 0)) t_is_wish) hv hs)
theorem t_need_row : S_need_row (cc tl_9) := fun ss r v st hv hs => ite_top rfl (sp_need_row (lift_has_row (cfL_app (r := tl_8) (by decide) (tl_8.take 0)) t_has_row) (r := r) hv hs)
theorem t_all_wishes : S_all_wishes (cc tl_10) := fun h st ho => pure_top rfl (sp_all_wishes ho)
theorem t_first_standing : S_first_standing (cc tl_11) := fun h st ho => pure_top rfl (sp_first_standing ho)
theorem t_who_may : S_who_may (cc tl_12) := fun h run w st => pure_top rfl sp_who_may
theorem t_with_dues : S_with_dues (cc tl_13) := fun h pts w st hl => pure_top rfl (sp_with_dues hl)
theorem t_sum_of : S_sum_of (cc tl_14) := fun h w st hw => pure_top rfl (sp_sum_of hw)
theorem t_cut_off : S_cut_off (cc tl_15) := fun n m st => pure_top rfl sp_cut_off
theorem t_picked : S_picked (cc tl_16) := fun h book may w st h1 h2 h3 h4 => pure_top rfl (sp_picked (lift_with_dues (cfL_app (r := tl_13) (by decide) (tl_15.take 2)) t_with_dues) h1 h2 h3 h4)
theorem t_book_behind : S_book_behind (cc tl_17) := fun h book w g st h1 h2 h3 => pure_top rfl (sp_book_behind (lift_with_dues (cfL_app (r := tl_13) (by decide) (tl_16.take 3)) t_with_dues) (lift_sum_of (cfL_app (r := tl_14) (by decide) (tl_16.take 2)) t_sum_of) (lift_cut_off (cfL_app (r := tl_15) (by decide) (tl_16.take 1)) t_cut_off) h1 h2 h3)
theorem t_run_behind : S_run_behind (cc tl_18) := fun h run g st => pure_top rfl sp_run_behind
theorem t_day_behind : S_day_behind (cc tl_19) := fun h s w st ho so wo => pure_top rfl (sp_day_behind (lift_who_may (cfL_app (r := tl_12) (by decide) (tl_18.take 6)) t_who_may) (lift_picked (cfL_app (r := tl_16) (by decide) (tl_18.take 2)) t_picked) (lift_book_behind (cfL_app (r := tl_17) (by decide) (tl_18.take 1)) t_book_behind) (lift_run_behind (cfL_app (r := tl_18) (by decide) (tl_18.take 0)) t_run_behind) ho so wo)
theorem t_led : S_led (cc tl_20) := fun h row st ho ro hl hu => junk_top rfl (sp_led (lift_first_standing (cfL_app (r := tl_11) (by decide) (tl_19.take 8)) t_first_standing) (lift_day_behind (cfL_app (r := tl_19) (by decide) (tl_19.take 0)) t_day_behind) ho ro hl hu) rfl (led_und h row _ _) hu
theorem t_share : S_share (cc tl_21) := fun t b st h0 h1 => pure_top rfl (sp_share h0 h1)
theorem t_common : S_common (cc tl_22) := fun a b st h0 h1 h2 h3 => pure_top rfl (sp_common h0 h1 h2 h3)
theorem t_parts_of : S_parts_of (cc tl_23) := fun h st ho => pure_top rfl (sp_parts_of (lift_all_wishes (cfL_app (r := tl_10) (by decide) (tl_22.take 12)) t_all_wishes) (lift_common (cfL_app (r := tl_22) (by decide) (tl_22.take 0)) t_common) (lift_sum_of (cfL_app (r := tl_14) (by decide) (tl_22.take 8)) t_sum_of) ho)
theorem t_due_parts : S_due_parts (cc tl_24) := fun h parts w p st ho wo => pure_top rfl (sp_due_parts (lift_sum_of (cfL_app (r := tl_14) (by decide) (tl_23.take 9)) t_sum_of) ho wo)
theorem t_change_of : S_change_of (cc tl_25) := fun h parts w g p st ho wo => pure_top rfl (sp_change_of (lift_due_parts (cfL_app (r := tl_24) (by decide) (tl_24.take 0)) t_due_parts) ho wo)
theorem t_balances_of : S_balances_of (cc tl_26) := fun h row st ho ro hz hu => pure_top rfl (sp_balances_of (lift_parts_of (cfL_app (r := tl_23) (by decide) (tl_25.take 2)) t_parts_of) (lift_led (cfL_app (r := tl_20) (by decide) (tl_25.take 5)) t_led) (lift_change_of (cfL_app (r := tl_25) (by decide) (tl_25.take 0)) t_change_of) ho ro hz hu)
theorem t_balances : S_balances (cc tl_27) := fun h v st ho hv hd hu => ⟨fun hb => exc_top rfl (sp_balances_bad (lift_need_house (cfL_app (r := tl_5) (by decide) (tl_26.take 21)) t_need_house) (lift_need_row (cfL_app (r := tl_9) (by decide) (tl_26.take 17)) t_need_row) ho hv hb), fun row e ro hz => by subst e; exact pure_top rfl (sp_balances (lift_need_house (cfL_app (r := tl_5) (by decide) (tl_26.take 21)) t_need_house) (lift_need_row (cfL_app (r := tl_9) (by decide) (tl_26.take 17)) t_need_row) (lift_parts_of (cfL_app (r := tl_23) (by decide) (tl_26.take 3)) t_parts_of) (lift_balances_of (cfL_app (r := tl_26) (by decide) (tl_26.take 0)) t_balances_of) (lift_share (cfL_app (r := tl_21) (by decide) (tl_26.take 5)) t_share) ho ro hz hu)⟩
theorem t_law_source : S_law_source (cc tl_28) := fun ns k st h1 h2 => let ⟨a, b, e, q⟩ := sp_law_source h1 h2; ⟨a, b, loc_top rfl e, q⟩
theorem t_law_draw : S_law_draw (cc tl_29) := fun l many st h h1 h2 => let ⟨r, st', e, q1, q2, q3, q4⟩ := sp_law_draw h h1 h2; ⟨r, st', st_top rfl e q3, q1, q2, q3, q4⟩
theorem t_law_choice : S_law_choice (cc tl_30) := fun l ds st h h1 h2 => let ⟨r, st', e, q1, q3, q4⟩ := sp_law_choice (lift_law_draw (cfL_app (r := tl_29) (by decide) (tl_29.take 0)) t_law_draw) h h1 h2; ⟨r, st', st_top rfl e q3, q1, q3, q4⟩
theorem t_law_low : S_law_low (cc tl_31) := fun t b st h0 h1 => pure_top rfl (sp_law_low h0 h1)
theorem t_law_house : S_law_house (cc tl_32) := fun l mp st h hm => let ⟨r, st', e, q1, q3, q4⟩ := sp_law_house (lift_law_draw (cfL_app (r := tl_29) (by decide) (tl_31.take 2)) t_law_draw) (lift_law_choice (cfL_app (r := tl_30) (by decide) (tl_31.take 1)) t_law_choice) h hm; ⟨r, st', st_top rfl e q3, q1, q3, q4⟩
theorem t_law_wishes : S_law_wishes (cc tl_33) := fun h st ho => pure_top rfl (sp_law_wishes ho)
theorem t_law_row : S_law_row (cc tl_34) := fun l h n st hs ho h0 h1 => let ⟨r, st', e, q1, q3, q4⟩ := sp_law_row (lift_law_choice (cfL_app (r := tl_30) (by decide) (tl_33.take 3)) t_law_choice) (lift_law_wishes (cfL_app (r := tl_33) (by decide) (tl_33.take 0)) t_law_wishes) hs ho h0 h1; ⟨r, st', st_top rfl e q3, q1, q3, q4⟩
theorem t_law_first : S_law_first (cc tl_35) := fun h st ho => pure_top rfl (sp_law_first ho)
theorem t_law_whom : S_law_whom (cc tl_36) := fun h book w may st ho h1 h2 h3 h4 h5 h6 h7 hu => let ⟨junk, e⟩ := sp_law_whom ho h1 h2 h3 h4 h5 h6 h7; junk_top rfl e rfl (und_pl _ (by simp only [D.pl, D.pls, Bool.true_and, Bool.and_true]; exact pls_ints _)) hu
theorem t_law_day : S_law_day (cc tl_37) := fun h s w st ho so wo hu => pure_top rfl (sp_law_day (lift_law_whom (cfL_app (r := tl_36) (by decide) (tl_36.take 0)) t_law_whom) ho so wo hu)
theorem t_law_led : S_law_led (cc tl_38) := fun h row st ho ro hl hu => junk_top rfl (sp_law_led (lift_law_first (cfL_app (r := tl_35) (by decide) (tl_37.take 2)) t_law_first) (lift_law_day (cfL_app (r := tl_37) (by decide) (tl_37.take 0)) t_law_day) ho ro hl hu) rfl (led_und h row _ _) hu
theorem t_law_sum : S_law_sum (cc tl_39) := fun h row st ho ro hz hu => junk_top rfl (sp_law_sum (lift_law_low (cfL_app (r := tl_31) (by decide) (tl_38.take 7)) t_law_low) (lift_law_led (cfL_app (r := tl_38) (by decide) (tl_38.take 0)) t_law_led) ho ro hz hu) rfl (und_pl _ (by rw [D.pl]; exact pls_of fun d hd => by obtain ⟨x, _, rfl⟩ := List.mem_map.mp hd; rfl)) hu
theorem t_law_refused : S_law_refused (cc tl_40) := fun h v st ho hv hd hb hu => pure_top rfl (sp_law_refused (lift_balances (cfL_app (r := tl_27) (by decide) (tl_39.take 12)) t_balances) ho hv hd hb hu)
theorem law_true (ns : List Int) (h : ns.length ≤ 63) : cc tl_41 40 [.rol (ns.map .int)] [] = .ok (.bl true) [] := by
  obtain ⟨st', e⟩ := sp_law (lift_law_source (cfL_app (r := tl_28) (by decide) (tl_40.take 12)) t_law_source) (lift_law_choice (cfL_app (r := tl_30) (by decide) (tl_40.take 10)) t_law_choice) (lift_law_house (cfL_app (r := tl_32) (by decide) (tl_40.take 8)) t_law_house) (lift_law_row (cfL_app (r := tl_34) (by decide) (tl_40.take 6)) t_law_row) (lift_balances (cfL_app (r := tl_27) (by decide) (tl_40.take 13)) t_balances) (lift_law_sum (cfL_app (r := tl_39) (by decide) (tl_40.take 1)) t_law_sum) (lift_law_low (cfL_app (r := tl_31) (by decide) (tl_40.take 9)) t_law_low) (lift_law_refused (cfL_app (r := tl_40) (by decide) (tl_40.take 0)) t_law_refused) ns
  show cfL sub fu (_ :: tl_40) tl_40.length _ _ = _
  rw [cfL_top]
  rw [show evDef (cfL sub fu tl_40) sub fu 14 b_law [.rol (ns.map .int)] [] = _ from e]
  simp [trimR, D.und, stUnd]
end LawT
open PySem PySem.W PyProof.Rows
set_option maxHeartbeats 0 in
theorem PySem.Challenge.cw_falsewish_k03_whole_balances_of_rows_holds : PySem.Challenge.rw_falsewish_k03_whole_balances_of_rows.Holds := by
  w_on; o_law; k_head; (case hw => w_witness2)
  k_fill
  refine L2.walk_of (l := PySem.Challenge.rw_falsewish_k03_whole_balances_of_rows) (n := 63) (k := 41) (x := "script") (CX := fun w => L2.CX PySem.Challenge.rw_falsewish_k03_whole_balances_of_rows.prog w) (sp := fun w => EV.spLaw _ (LawT.cc LawT.tl_41 40)) rfl (by decide) rfl ⟨rfl, by decide, by decide⟩ (fun w h Y => PySem.W.kIn_of Y) ?F (fun _ _ a ns hl hO hS => ⟨a, ns, rfl, hl, hO, hS, LawT.law_true ns hl, fun _ => rfl⟩) (fun _ _ _ _ _ h => by obtain ⟨_, _, _, _, _, _, _, _, _, _, _, _, z⟩ := h; exact z.elim)
  case F =>
    intro w mg fa h KX G hmg
    refine' LawT.all_mk KX G hmg ?a0 ?l0 ?c0 ?k0 ?a1 ?l1 ?c1 ?k1 ?a2 ?l2 ?c2 ?k2 ?a3 ?l3 ?c3 ?k3 ?a4 ?l4 ?c4 ?k4 ?a5 ?l5 ?c5 ?k5 ?a6 ?l6 ?c6 ?k6 ?a7 ?l7 ?c7 ?k7 ?a8 ?l8 ?c8 ?k8 ?a9 ?l9 ?c9 ?k9 ?a10 ?l10 ?c10 ?k10 ?a11 ?l11 ?c11 ?k11 ?a12 ?l12 ?c12 ?k12 ?a13 ?l13 ?c13 ?k13 ?a14 ?l14 ?c14 ?k14 ?a15 ?l15 ?c15 ?k15 ?a16 ?l16 ?c16 ?k16 ?a17 ?l17 ?c17 ?k17 ?a18 ?l18 ?c18 ?k18 ?a19 ?l19 ?c19 ?k19 ?a20 ?l20 ?c20 ?k20 ?a21 ?l21 ?c21 ?k21 ?a22 ?l22 ?c22 ?k22 ?a23 ?l23 ?c23 ?k23 ?a24 ?l24 ?c24 ?k24 ?a25 ?l25 ?c25 ?k25 ?a26 ?l26 ?c26 ?k26 ?a27 ?l27 ?c27 ?k27 ?a28 ?l28 ?c28 ?k28 ?a29 ?l29 ?c29 ?k29 ?a30 ?l30 ?c30 ?k30 ?a31 ?l31 ?c31 ?k31 ?a32 ?l32 ?c32 ?k32 ?a33 ?l33 ?c33 ?k33 ?a34 ?l34 ?c34 ?k34 ?a35 ?l35 ?c35 ?k35 ?a36 ?l36 ?c36 ?k36 ?a37 ?l37 ?c37 ?k37 ?a38 ?l38 ?c38 ?k38 ?a39 ?l39 ?c39 ?k39 ?a40 ?l40 ?c40 ?k40 ?ga0 ?gk0 ?gb0 ?gi0 ?gt0 ?gx0 ?ga1 ?gk1 ?gb1 ?gi1 ?gt1 ?gx1 ?gs0_0 ?gs0_1 ?gs1_0 ?gs1_1 ?z_len ?z_abs ?z_int ?z_sum ?z_min ?z_max ?z_all ?z_tuple ?z_list ?z_sorted ?z_set ?z_isinstance ?z_range ?z_enumerate ?z_zip ?z_str ?z_bool ?ua0 ?ul0 ?uz0 ?uc0 ?ua1 ?uc1 ?ua2 ?uc2
    (case a0 => k_is)
    (case l0 => k_is)
    (case c0 => k_is)
    (case k0 => k_is)
    (case a1 => k_is)
    (case l1 => k_is)
    (case c1 => k_is)
    (case k1 => k_is)
    (case a2 => k_is)
    (case l2 => k_is)
    (case c2 => k_is)
    (case k2 => k_is)
    (case a3 => k_is)
    (case l3 => k_is)
    (case c3 => k_is)
    (case k3 => k_is)
    (case a4 => k_is)
    (case l4 => k_is)
    (case c4 => k_is)
    (case k4 => k_is)
    (case a5 => k_is)
    (case l5 => k_is)
    (case c5 => k_is)
    (case k5 => k_is)
    (case a6 => k_is)
    (case l6 => k_is)
    (case c6 => k_is)
    (case k6 => k_is)
    (case a7 => k_is)
    (case l7 => k_is)
    (case c7 => k_is)
    (case k7 => k_is)
    (case a8 => k_is)
    (case l8 => k_is)
    (case c8 => k_is)
    (case k8 => k_is)
    (case a9 => k_is)
    (case l9 => k_is)
    (case c9 => k_is)
    (case k9 => k_is)
    (case a10 => k_is)
    (case l10 => k_is)
    (case c10 => k_is)
    (case k10 => k_is)
    (case a11 => k_is)
    (case l11 => k_is)
    (case c11 => k_is)
    (case k11 => k_is)
    (case a12 => k_is)
    (case l12 => k_is)
    (case c12 => k_is)
    (case k12 => k_is)
    (case a13 => k_is)
    (case l13 => k_is)
    (case c13 => k_is)
    (case k13 => k_is)
    (case a14 => k_is)
    (case l14 => k_is)
    (case c14 => k_is)
    (case k14 => k_is)
    (case a15 => k_is)
    (case l15 => k_is)
    (case c15 => k_is)
    (case k15 => k_is)
    (case a16 => k_is)
    (case l16 => k_is)
    (case c16 => k_is)
    (case k16 => k_is)
    (case a17 => k_is)
    (case l17 => k_is)
    (case c17 => k_is)
    (case k17 => k_is)
    (case a18 => k_is)
    (case l18 => k_is)
    (case c18 => k_is)
    (case k18 => k_is)
    (case a19 => k_is)
    (case l19 => k_is)
    (case c19 => k_is)
    (case k19 => k_is)
    (case a20 => k_is)
    (case l20 => k_is)
    (case c20 => k_is)
    (case k20 => k_is)
    (case a21 => k_is)
    (case l21 => k_is)
    (case c21 => k_is)
    (case k21 => k_is)
    (case a22 => k_is)
    (case l22 => k_is)
    (case c22 => k_is)
    (case k22 => k_is)
    (case a23 => k_is)
    (case l23 => k_is)
    (case c23 => k_is)
    (case k23 => k_is)
    (case a24 => k_is)
    (case l24 => k_is)
    (case c24 => k_is)
    (case k24 => k_is)
    (case a25 => k_is)
    (case l25 => k_is)
    (case c25 => k_is)
    (case k25 => k_is)
    (case a26 => k_is)
    (case l26 => k_is)
    (case c26 => k_is)
    (case k26 => k_is)
    (case a27 => k_is)
    (case l27 => k_is)
    (case c27 => k_is)
    (case k27 => k_is)
    (case a28 => k_is)
    (case l28 => k_is)
    (case c28 => k_is)
    (case k28 => k_is)
    (case a29 => k_is)
    (case l29 => k_is)
    (case c29 => k_is)
    (case k29 => k_is)
    (case a30 => k_is)
    (case l30 => k_is)
    (case c30 => k_is)
    (case k30 => k_is)
    (case a31 => k_is)
    (case l31 => k_is)
    (case c31 => k_is)
    (case k31 => k_is)
    (case a32 => k_is)
    (case l32 => k_is)
    (case c32 => k_is)
    (case k32 => k_is)
    (case a33 => k_is)
    (case l33 => k_is)
    (case c33 => k_is)
    (case k33 => k_is)
    (case a34 => k_is)
    (case l34 => k_is)
    (case c34 => k_is)
    (case k34 => k_is)
    (case a35 => k_is)
    (case l35 => k_is)
    (case c35 => k_is)
    (case k35 => k_is)
    (case a36 => k_is)
    (case l36 => k_is)
    (case c36 => k_is)
    (case k36 => k_is)
    (case a37 => k_is)
    (case l37 => k_is)
    (case c37 => k_is)
    (case k37 => k_is)
    (case a38 => k_is)
    (case l38 => k_is)
    (case c38 => k_is)
    (case k38 => k_is)
    (case a39 => k_is)
    (case l39 => k_is)
    (case c39 => k_is)
    (case k39 => k_is)
    (case a40 => k_is)
    (case l40 => k_is)
    (case c40 => k_is)
    (case k40 => k_is)
    (case ga0 => k_is)
    (case gk0 => k_is)
    (case gb0 => k_is)
    (case gi0 => k_is)
    (case gt0 => k_is)
    (case gx0 => k_exc)
    (case ga1 => k_is)
    (case gk1 => k_is)
    (case gb1 => k_is)
    (case gi1 => k_is)
    (case gt1 => k_is)
    (case gx1 => k_exc)
    (case gs0_0 => k_is)
    (case gs0_1 => k_is)
    (case gs1_0 => k_is)
    (case gs1_1 => k_is)
    (case z_len => k_is)
    (case z_abs => k_is)
    (case z_int => k_is)
    (case z_sum => k_is)
    (case z_min => k_is)
    (case z_max => k_is)
    (case z_all => k_is)
    (case z_tuple => k_is)
    (case z_list => k_is)
    (case z_sorted => k_is)
    (case z_set => k_is)
    (case z_isinstance => k_is)
    (case z_range => k_is)
    (case z_enumerate => k_is)
    (case z_zip => k_is)
    (case z_str => k_is)
    (case z_bool => k_is)
    (case ua0 => k_is)
    (case ul0 => k_is)
    (case uz0 => decide +kernel)
    (case uc0 => decide +kernel)
    (case ua1 => k_is)
    (case uc1 => decide +kernel)
    (case ua2 => k_is)
    (case uc2 => decide +kernel)
