import PyProof.Rows.All
import Wide.All
import OpenK.AllK
import Wide.FinOn
import KE.KStateDown
import HandS.ForMost
import HandS.Exc
import HandS.Defaults
import HandS.Wide
import HandS.Lambda
import KE.KDictKeyed
import KE.KeyNested
import KE.DataEq
import KE.DataCmp
import KE.SortData
import HandS.Base
import HandS.Call
import HandS.List
import HandS.TupMul
import HandS.TupAny
import HandS.WideMore
import HandS.Flow
import HandS.DictTup
import HandS.Conv
import HandS.SortInts
import HandS.IsInst
import KE.KTupSum
import HandS.Dict
import HandS.TupLen
import PyProof.Rows.TupDisplay
import KE.KDictPairs
import HandS.CallSlots
import KE.GoesEnum
import KE.KDictWalk
import HandS.Iter
import HandS.Zip
import HandS.Comp
import HandS.ExcOwn
import HandS.TryOnly
import PyProof.ExcBaseAll.ValueError
import HandS.SortKw
import KE.DataMinKey
import PyProof.TupleIter
import HandS.EndBits
import HandS.EndTab
import HandS.HeadHook1
import HandS.HeadHook2
import HandS.HeadHook3
import HandS.HeadHook4
import HandS.HeadWalk
import HandS.Head0
import HandS.Head1
import HandS.Head2
import HandS.HeadEnd
import PySem.Challenge.RW_thrownpots_k64_polynomials_of_weights
-- Ev0
set_option Elab.async false
set_option linter.all false
set_option maxRecDepth 100000
/-! Ev: a small evaluator of the language's pure part over plain data, with a store of lists and dicts. -/
namespace Ev
open PySem PySem.Spec PyProof.Rows L2

/-- values: tuples by value, lists and dicts by their place in the store, defs by their number -/
inductive D where
  | non | bl (b : Bool) | int (i : Int) | str (s : Str) | tup (xs : List D) | ref (k : Nat) | fn (i : Nat)
  deriving Inhabited

mutual
def D.py : D → PyData
  | .non => .none
  | .bl b => .bool b
  | .int i => .int i
  | .str s => .str s
  | .tup xs => .tuple (D.pys xs)
  | .ref _ => .none
  | .fn _ => .none
def D.pys : List D → List PyData
  | [] => []
  | x :: xs => x.py :: D.pys xs
end
mutual
/-- no place of the store, no def within -/
def D.pure : D → Bool
  | .tup xs => D.pures xs
  | .ref _ => false
  | .fn _ => false
  | _ => true
def D.pures : List D → Bool
  | [] => true
  | x :: xs => x.pure && D.pures xs
end
mutual
def D.dep : D → Nat
  | .tup xs => D.deps xs + 1
  | _ => 0
def D.deps : List D → Nat
  | [] => 0
  | x :: xs => max x.dep (D.deps xs)
end
mutual
/-- all places below n -/
def D.bnd (n : Nat) : D → Bool
  | .tup xs => D.bnds n xs
  | .ref k => decide (k < n)
  | _ => true
def D.bnds (n : Nat) : List D → Bool
  | [] => true
  | x :: xs => x.bnd n && D.bnds n xs
end
mutual
/-- as a key of a dict -/
def D.nk : D → NestedKey
  | .non => .none
  | .bl b => .num (if b = true then 1 else 0)
  | .int i => .num i
  | .str s => .text s
  | .tup xs => .tup (D.nks xs)
  | .ref _ => .none
  | .fn _ => .none
def D.nks : List D → List NestedKey
  | [] => []
  | x :: xs => x.nk :: D.nks xs
end
/-- what a dict's key may be: a tuple of plain data, not too deep -/
def D.isKey : D → Bool
  | .tup xs => D.pures xs && decide (D.deps xs ≤ 7)
  | _ => false
def keq (a b : D) : Bool := NestedKey.beq a.nk b.nk
def getD (kvs : List (D × D)) (k : D) : Option D := (kvs.find? fun p => keq p.1 k).map (·.2)
def putD (kvs : List (D × D)) (k v : D) : List (D × D) :=
  if kvs.any (fun p => keq p.1 k) then kvs.map (fun p => if keq p.1 k then (p.1, v) else p) else kvs ++ [(k, v)]

inductive Cell where
  | lst (lk : Bool) (xs : List D)
  | ro (xs : List D)
  | dT (lk : Bool) (kvs : List (D × D))
  deriving Inhabited
abbrev Store := List Cell
abbrev Env := List (Option D)
def Cell.bnd (n : Nat) : Cell → Bool
  | .lst _ xs => D.bnds n xs
  | .ro xs => D.bnds n xs
  | .dT _ kvs => kvs.all fun p => p.1.bnd n && p.2.bnd n
def lockAt (S : Store) (k : Nat) : Bool := match S[k]? with
  | some (.lst b _) => b
  | some (.dT b _) => b
  | _ => true
def setLock (S : Store) (k : Nat) (b : Bool) : Store := match S[k]? with
  | some (.lst _ xs) => S.set k (.lst b xs)
  | some (.dT _ kvs) => S.set k (.dT b kvs)
  | _ => S

/-- a value, or a new list or dict that stands in no place yet -/
inductive T where
  | v (d : D) | l (xs : List D) | t (kvs : List (D × D))
  deriving Inhabited
/-- an exception: its class, its arguments -/
structure Xc where
  cls : Str
  args : List D
  deriving Inhabited
inductive R (α : Type) where
  | ok (a : α) (S : Store) | exc (x : Xc) (S : Store) | bad
  deriving Inhabited
def R.bind {α β : Type} (r : R α) (f : α → Store → R β) : R β := match r with
  | .ok a S => f a S
  | .exc x S => .exc x S
  | .bad => .bad
inductive Fl where
  | nx | bk | ct | rt (t : T)
  deriving Inhabited
inductive SR where
  | ok (f : Fl) (ρ : Env) (S : Store) | exc (x : Xc) (ρ : Env) (S : Store) | bad
  deriving Inhabited

/-- a length that a list, a tuple, a dict may have -/
def lim : Nat := 1000000

inductive Op2 where
  | add | sub | mul | mod | fdiv | pow
  deriving DecidableEq
inductive Cm where
  | eq | ne | lt | le | gt | ge | isN | noN
  deriving DecidableEq
inductive Bi where
  | len | all | sum | sorted | tuple | list | dict | abs | int | max2 | isInt | isBool | isTup | range | range2 | zip | enum
  deriving DecidableEq
inductive Me where
  | get2 | items | append
  deriving DecidableEq
inductive Tg where
  | v (i : Nat) | tup (ts : List Tg)
inductive Ex where
  | c (d : D) | v (i : Nat) | gc (x : Str) (d : D) | gf (f : Nat)
  | tup (es : List Ex) | lst (es : List Ex) | dT0 | dT1 (k v : Ex)
  | bin (o : Op2) (a b : Ex) | neg (a : Ex) | not (a : Ex)
  | and (es : List Ex) | or (es : List Ex)
  | cmp (o : Cm) (a b : Ex) | chn (o o' : Cm) (a b c : Ex)
  | ife (t a b : Ex)
  | ix (a i : Ex) | sl (bl bh : Bool) (a lo hi : Ex)
  | call (f : Nat) (es : List Ex)
  | bi (b : Bi) (es : List Ex)
  | me (m : Me) (o : Ex) (es : List Ex)
  | lc (own : List Nat) (elt : Ex) (tg : Tg) (it : Ex) (conds : List Ex)
  | isNo (x : Str) (e : Ex)
  | maxk (o : Ex)
inductive St where
  | ex (e : Ex)
  | app (o e : Ex)
  | asg (tg : Tg) (e : Ex)
  | par (i j : Nat) (a b : Ex)
  | seti (o i e : Ex)
  | aug (i : Nat) (o : Op2) (e : Ex)
  | augi (oo i : Ex) (o : Op2) (e : Ex)
  | ite (t : Ex) (a b : List St)
  | for (tg : Tg) (it : Ex) (body : List St)
  | ret (e : Ex) | retN
  | raise0 (x : Str)
  | raise (x : Str) (es : List Ex)
  | try1 (body : List St) (x : Str) (suite : List St)
  | pass | brk | cont

/-! ### values and the store -/
def mat : T → Store → R D
  | .v d, S => .ok d S
  | .l xs, S => .ok (.ref S.length) (S ++ [.lst false xs])
  | .t kvs, S => .ok (.ref S.length) (S ++ [.dT false kvs])
/-- a list -/
def asL (t : T) (S : Store) : Option (List D) := match t with
  | .l xs => some xs
  | .v (.ref k) => (match S[k]? with
    | some (.lst _ xs) => some xs
    | some (.ro xs) => some xs
    | _ => none)
  | _ => none
/-- a list of one's own -/
def asM (t : T) (S : Store) : Option (List D) := match t with
  | .l xs => some xs
  | .v (.ref k) => (match S[k]? with
    | some (.lst _ xs) => some xs
    | _ => none)
  | _ => none
/-- a list or a tuple -/
def asQ (t : T) (S : Store) : Option (List D) := match t with
  | .v (.tup xs) => some xs
  | t => asL t S
/-- a dict -/
def asT (t : T) (S : Store) : Option (List (D × D)) := match t with
  | .t kvs => some kvs
  | .v (.ref k) => (match S[k]? with
    | some (.dT _ kvs) => some kvs
    | _ => none)
  | _ => none
/-- as plain data -/
def toPy (t : T) (S : Store) : Option PyData := match t with
  | .v (.ref k) => (match S[k]? with
    | some (.lst _ xs) => if D.pures xs then some (.list (D.pys xs)) else none
    | some (.ro xs) => if D.pures xs then some (.list (D.pys xs)) else none
    | _ => none)
  | .l xs => if D.pures xs then some (.list (D.pys xs)) else none
  | .v d => if d.pure then some d.py else none
  | .t _ => none
def truth (t : T) (S : Store) : Option Bool := match t with
  | .v .non => some false
  | .v (.bl b) => some b
  | .v (.int i) => some (i != 0)
  | .v (.tup xs) => some (!xs.isEmpty)
  | t => (asL t S).map fun xs => !xs.isEmpty
def opt {α : Type} (o : Option α) (S : Store) : R α := match o with
  | some a => .ok a S
  | none => .bad
def mulOk (i j : Int) : Bool := decide (i.natAbs < 2 ^ 64) || decide (j.natAbs < 2 ^ 64) || (decide (i.natAbs < 2 ^ 400000) && decide (j.natAbs < 2 ^ 400000))
def binI (o : Op2) (i j : Int) : Option Int := match o with
  | .add => some (i + j)
  | .sub => some (i - j)
  | .mul => if mulOk i j then some (i * j) else none
  | .mod => if 0 < j then some (i % j) else none
  | .fdiv => if 0 < j ∧ j.natAbs < 2 ^ 8000 then some (i / j) else none
  | .pow => if 0 ≤ j ∧ j ≤ 1000000 ∧ i.natAbs < 2 ^ 64 then some (i ^ j.toNat) else none
def bin2 (o : Op2) (a b : T) (S : Store) : Option T := match o, a, b with
  | .mul, .v (.tup xs), .v (.int k) => if -(2 ^ 63) ≤ k ∧ k ≤ 1000 ∧ xs.length ≤ 1000 then some (.v (.tup (List.replicate k.toNat xs).flatten)) else none
  | .add, .v (.tup xs), .v (.tup ys) => if xs.length + ys.length ≤ lim then some (.v (.tup (xs ++ ys))) else none
  | o, .v (.int i), .v (.int j) => (binI o i j).map fun k => .v (.int k)
  | .add, a, b => (match asM a S, asM b S with
    | some xs, some ys => if xs.length + ys.length ≤ lim then some (.l (xs ++ ys)) else none
    | _, _ => none)
  | _, _, _ => none
/-- op= : ints alone -/
def aug2 (o : Op2) (a b : T) : Option D := match a, b with
  | .v (.int i), .v (.int j) => (binI o i j).map .int
  | _, _ => none
def cmpI (o : Cm) (i j : Int) : Option Bool := match o with
  | .lt => some (decide (i < j))
  | .le => some (decide (i ≤ j))
  | .gt => some (decide (j < i))
  | .ge => some (decide (j ≤ i))
  | _ => none
def T.isNon : T → Bool
  | .v .non => true
  | _ => false
def eqT (a b : T) (S : Store) : Option Bool := match toPy a S, toPy b S with
  | some d, some e => if min d.depth e.depth ≤ 60 then some (PyData.eqv d e) else none
  | _, _ => none
def cmp2 (o : Cm) (a b : T) (S : Store) : Option Bool := match o with
  | .eq => eqT a b S
  | .ne => (eqT a b S).map fun k => !k
  | .isN => if b.isNon then some a.isNon else none
  | .noN => if b.isNon then some (!a.isNon) else none
  | o => (match a, b with
    | .v (.int i), .v (.int j) => cmpI o i j
    | _, _ => none)
def ixAt (xs : List D) (i : Int) : Option D := L2.atI xs i
def cutD (xs : List D) (lo hi : Option Int) : List D := (xs.drop (HT.sIx xs.length 0 lo)).take (HT.sIx xs.length xs.length hi - HT.sIx xs.length 0 lo)
def slice (a : T) (lo hi : Option Int) (S : Store) : Option T := match a with
  | .v (.tup xs) => some (.v (.tup (cutD xs lo hi)))
  | a => (asL a S).map fun xs => .l (cutD xs lo hi)
def intL : List D → Option (List Int)
  | [] => some []
  | .int i :: r => (intL r).map (i :: ·)
  | _ => none
def bools : List D → Option (List Bool)
  | [] => some []
  | .bl i :: r => (bools r).map (i :: ·)
  | _ => none
/-- a row of pairs (key, value) -/
def pairs : List D → Option (List (D × D))
  | [] => some []
  | .tup [k, v] :: r => if k.isKey then (pairs r).map ((k, v) :: ·) else none
  | _ => none
def intsFrom (lo : Int) : Nat → List D
  | 0 => []
  | n + 1 => .int lo :: intsFrom (lo + 1) n
def zipD : List D → List D → List D
  | x :: xs, y :: ys => .tup [x, y] :: zipD xs ys
  | _, _ => []
def enumD (i : Int) : List D → List D
  | [] => []
  | x :: xs => .tup [.int i, x] :: enumD (i + 1) xs
def itemD (kvs : List (D × D)) : List D := kvs.map fun p => .tup [p.1, p.2]
def D.isNone : D → Bool
  | .non => true
  | _ => false
/-- what may be sorted: all alike each other; tuples that are not empty, or no tuples and not None -/
def sortable (xs : List D) : Bool :=
  D.pures xs && (xs.all fun x => xs.all fun y => PySem.W.alike x.py y.py) && decide (D.deps xs ≤ 50) && decide (xs.length ≤ lim) &&
    ((xs.all fun x => match x with | .tup (_ :: _) => true | _ => false) || (xs.all fun x => match x with | .int _ => true | .str _ => true | .bl _ => true | _ => false))
def leD (x y : D) : Bool := PySem.W.dataLe false D.py x y
def insD (x : D) : List D → List D
  | [] => [x]
  | y :: ys => if leD x y then x :: y :: ys else y :: insD x ys
def sortD (xs : List D) : List D := xs.foldr insD []
def isI : D → Bool
  | .int _ => true
  | _ => false
def biF (b : Bi) (ts : List T) (S : Store) : Option T := match b, ts with
  | .len, [t] => (match asQ t S with
    | some xs => some (.v (.int xs.length))
    | none => (asT t S).map fun kvs => .v (.int kvs.length))
  | .all, [t] => (asL t S).bind fun xs => (bools xs).map fun bs => .v (.bl (bs.all id))
  | .sum, [t] => (asQ t S).bind fun xs => (intL xs).map fun ns => .v (.int ns.sum)
  | .sorted, [t] => (asQ t S).bind fun xs => if sortable xs then some (.l (sortD xs)) else none
  | .tuple, [t] => (asQ t S).map fun xs => .v (.tup xs)
  | .list, [t] => (asQ t S).map fun xs => .l xs
  | .dict, [t] => (asQ t S).bind fun xs => if xs.length ≤ lim then (pairs xs).map fun kvs => .t (kvs.foldl (fun acc p => putD acc p.1 p.2) []) else none
  | .abs, [.v (.int i)] => some (.v (.int (if i < 0 then -i else i)))
  | .int, [.v (.int i)] => some (.v (.int i))
  | .max2, [.v (.int i), .v (.int j)] => some (.v (.int (if j > i then j else i)))
  | .isInt, [.v (.int _)] => some (.v (.bl true))
  | .isInt, [.v (.bl _)] => some (.v (.bl true))
  | .isInt, [.v .non] => some (.v (.bl false))
  | .isInt, [.v (.str _)] => some (.v (.bl false))
  | .isBool, [.v (.bl _)] => some (.v (.bl true))
  | .isBool, [.v (.int _)] => some (.v (.bl false))
  | .isBool, [.v .non] => some (.v (.bl false))
  | .isBool, [.v (.str _)] => some (.v (.bl false))
  | _, _ => none
def meF (m : Me) (t : T) (ts : List T) (S : Store) : R T := match m, t, ts with
  | .get2, t, [.v k, .v x] => (match asT t S with
    | some kvs => if k.isKey then .ok (.v ((getD kvs k).getD x)) S else .bad
    | none => .bad)
  | .append, .v (.ref k), [.v d] => (match S[k]? with
    | some (.lst false xs) => if xs.length < lim then .ok (.v .non) (S.set k (.lst false (xs ++ [d]))) else .bad
    | _ => .bad)
  | _, _, _ => .bad
/-- what may receive the method -/
def rcv (m : Me) (t : T) (S : Store) : Bool := match m with
  | .get2 => (asT t S).isSome
  | .items => (asT t S).isSome
  | .append => (asM t S).isSome
def setF (o i : T) (d : D) (S : Store) : Option Store := match o, i with
  | .v (.ref k), .v i => (match S[k]?, i with
    | some (.lst false xs), .int j => (match L2.ixN xs.length j with
      | some p => some (S.set k (.lst false (xs.set p d)))
      | none => none)
    | some (.dT false kvs), k' => if k'.isKey ∧ kvs.length < lim then some (S.set k (.dT false (putD kvs k' d))) else none
    | _, _ => none)
  | _, _ => none
def getF (a i : T) (S : Store) : Option T := match i with
  | .v (.int j) => (match asQ a S with
    | some xs => (ixAt xs j).map .v
    | none => none)
  | _ => none

mutual
def asg : Tg → D → Env → Option Env
  | .v i, d, ρ => if i < ρ.length then some (ρ.set i (some d)) else none
  | .tup ts, .tup ds, ρ => asgs ts ds ρ
  | .tup _, _, _ => none
def asgs : List Tg → List D → Env → Option Env
  | [], [], ρ => some ρ
  | t :: ts, d :: ds, ρ => (asg t d ρ).bind fun ρ' => asgs ts ds ρ'
  | _, _, _ => none
end
def wipeE (ρ : Env) : List Nat → Env
  | [] => ρ
  | v :: vs => (wipeE ρ vs).set v none

/-- behind a call that began at S: what it left in new places is forgotten where nothing leads there -/
def T.bnd (n : Nat) : T → Bool
  | .v d => d.bnd n
  | .l xs => D.bnds n xs
  | .t kvs => kvs.all fun p => p.1.bnd n && p.2.bnd n
def fresh (n : Nat) (t : T) (S : Store) : T := match t with
  | .v (.ref k) => if k < n then t else (match S[k]? with
    | some (.lst false xs) => .l xs
    | some (.dT false kvs) => .t kvs
    | _ => t)
  | t => t
def oldOk (n : Nat) (S' : Store) : Bool := (S'.take n).all fun c => c.bnd n
def finish (n : Nat) (t : T) (S' : Store) : R T :=
  if (fresh n t S').bnd n && oldOk n S' then .ok (fresh n t S') (S'.take n) else .ok t S'
def finishX (n : Nat) (x : Xc) (S' : Store) : R T :=
  if D.bnds n x.args && oldOk n S' then .exc x (S'.take n) else .exc x S'
def fin (n : Nat) : R T → R T
  | .ok t S' => finish n t S'
  | .exc x S' => finishX n x S'
  | .bad => .bad

/-- what must not raise -/
def noX {α : Type} (r : R α) : R α := match r with
  | .exc _ _ => .bad
  | r => r
def loopC (f : D → Store → R (Option D)) : List D → Store → R (List D)
  | [], S => .ok [] S
  | x :: xs, S => (f x S).bind fun o S1 => (loopC f xs S1).bind fun ys S2 => .ok (match o with | some y => y :: ys | none => ys) S2
def loopS (f : D → Env → Store → SR) : List D → Env → Store → SR
  | [], ρ, S => .ok .nx ρ S
  | x :: xs, ρ, S => match f x ρ S with
    | .ok .nx ρ1 S1 => loopS f xs ρ1 S1
    | .ok .ct ρ1 S1 => loopS f xs ρ1 S1
    | .ok .bk ρ1 S1 => .ok .nx ρ1 S1
    | r => r

/-- the first item with the greatest key -/
def maxFrom (x k : D) : List D → List D → D
  | y :: ys, l :: ls => if PySem.W.dataLt k.py l.py then maxFrom y l ys ls else maxFrom x k ys ls
  | _, _ => x
/-- what the one key= of this program tells of (powers, ..): (sum(powers), powers) -/
def keyOf : D → Option D
  | .tup (.tup ps :: _) => (intL ps).map fun ns => .tup [.int ns.sum, .tup ps]
  | _ => none
def keysOf : List D → Option (List D)
  | [] => some []
  | x :: xs => (match keyOf x, keysOf xs with
    | some k, some ks => some (k :: ks)
    | _, _ => none)
def keysOk (ks : List D) : Bool := ks.all (fun a => ks.all fun b => PySem.W.alike a.py b.py) && decide (D.deps ks ≤ 50) && D.pures ks
def maxK : T → Option T
  | .v (.tup (x :: xs)) => (match keysOf (x :: xs) with
    | some (k :: ks) => if keysOk (k :: ks) then some (.v (maxFrom x k xs ks)) else none
    | _ => none)
  | _ => none
/-- the call of a def by its number -/
abbrev Calls := Nat → List D → Store → R T
/-- of what a for walks: its items, the place that is locked meanwhile -/
def itQ0 (t : T) (S : Store) : Option (List D × Option Nat) := match t with
  | .v (.ref k) => (match asL t S with
    | some xs => some (xs, if lockAt S k then none else some k)
    | none => none)
  | .v (.tup xs) => some (xs, none)
  | .l xs => some (xs, none)
  | _ => none
/-- the keys of a dict -/
def keysQ (t : T) (S : Store) : Option (List D × Option Nat) := match t with
  | .v (.ref k) => (asT (.v (.ref k)) S).map fun kvs => (kvs.map (·.1), if lockAt S k then none else some k)
  | _ => none
def itQ (t : T) (S : Store) : Option (List D × Option Nat) := match itQ0 t S with
  | some w => some w
  | none => keysQ t S
def lockO (S : Store) (o : Option Nat) (b : Bool) : Store := match o with
  | some k => setLock S k b
  | none => S
/-- the iterator forms: (items, locked place) -/
def itF (b : Bi) (ts : List T) (S : Store) : Option (List D × Option Nat) := match b, ts with
  | .range, [.v (.int j)] => if -(2 ^ 62) ≤ j ∧ j < 2 ^ 62 then some (intsFrom 0 j.toNat, none) else none
  | .range2, [.v (.int i), .v (.int j)] => if -(2 ^ 62) ≤ i ∧ i < 2 ^ 62 ∧ -(2 ^ 62) ≤ j ∧ j < 2 ^ 62 then some (intsFrom i (j - i).toNat, none) else none
  | .zip, [.v (.tup xs), .v (.tup ys)] => some (zipD xs ys, none)
  | .enum, [.v (.tup xs)] => some (enumD 0 xs, none)
  | b, ts => none
def isIt : Bi → Bool
  | .range => true
  | .range2 => true
  | .zip => true
  | .enum => true
  | _ => false

/-- what an expression is worth: as a value, as a test, as what is walked -/
structure Sm where
  E : Env → Store → R T
  B : Env → Store → R Bool
  I : Env → Store → R (List D × Option Nat)
def mk (E : Env → Store → R T) : Sm := ⟨E, fun ρ S => (E ρ S).bind fun t S1 => opt (truth t S1) S1, fun ρ S => (E ρ S).bind fun t S1 => opt (itQ t S1) S1⟩
def mkB (B : Env → Store → R Bool) : Sm := ⟨fun ρ S => (B ρ S).bind fun k S1 => .ok (.v (.bl k)) S1, B, fun _ _ => .bad⟩
/-- a slice's part, where one is written -/
def evP (b : Bool) (E : Env → Store → R T) (ρ : Env) (S : Store) : R (Option Int) := if b then (E ρ S).bind fun t S1 => (match t with
  | .v (.int i) => .ok (some i) S1
  | _ => .bad) else .ok none S
/-- values that stand in places -/
def evM : List Sm → Env → Store → R (List D)
  | [], _, S => .ok [] S
  | e :: es, ρ, S => (e.E ρ S).bind fun t S1 => (mat t S1).bind fun d S2 => (evM es ρ S2).bind fun ds S3 => .ok (d :: ds) S3
def evTs : List Sm → Env → Store → R (List T)
  | [], _, S => .ok [] S
  | e :: es, ρ, S => (e.E ρ S).bind fun t S1 => (evTs es ρ S1).bind fun ts S2 => .ok (t :: ts) S2
/-- all of some tests, one of some -/
def evC : List Sm → Env → Store → R Bool
  | [], _, S => .ok true S
  | e :: es, ρ, S => (e.B ρ S).bind fun k S1 => if k then evC es ρ S1 else .ok false S1
def evO : List Sm → Env → Store → R Bool
  | [], _, S => .ok false S
  | e :: es, ρ, S => (e.B ρ S).bind fun k S1 => if k then .ok true S1 else evO es ρ S1
def evAnd : List Sm → Env → Store → R T
  | [], _, S => .bad
  | [e], ρ, S => e.E ρ S
  | e :: es, ρ, S => (e.E ρ S).bind fun t S1 => (opt (truth t S1) S1).bind fun k S2 => if k then evAnd es ρ S2 else .ok t S2
def evOr : List Sm → Env → Store → R T
  | [], _, S => .bad
  | [e], ρ, S => e.E ρ S
  | e :: es, ρ, S => (e.E ρ S).bind fun t S1 => (opt (truth t S1) S1).bind fun k S2 => if k then .ok t S2 else evOr es ρ S2
/-- a comprehension -/
def evL (own : List Nat) (elt : Sm) (tg : Tg) (it : Sm) (conds : List Sm) (ρ : Env) (S : Store) : R T :=
  (it.I ρ S).bind fun w S1 => if w.1.length ≤ lim then
    (noX (loopC (fun x S2 => match asg tg x (wipeE ρ own) with
      | some ρ' => (evC conds ρ' S2).bind fun k S3 => if k then (elt.E ρ' S3).bind fun t S4 => (mat t S4).bind fun d S5 => .ok (some d) S5 else .ok none S3
      | none => .bad) w.1 (lockO S1 w.2 true))).bind fun ys S2 => .ok (.l ys) (lockO S2 w.2 false) else .bad
mutual
def ev (C : Calls) : Ex → Sm
  | .c d => mk fun _ S => .ok (.v d) S
  | .v i => mk fun ρ S => (match ρ[i]? with
    | some (some d) => .ok (.v d) S
    | _ => .bad)
  | .gc _ d => mk fun _ S => .ok (.v d) S
  | .gf f => mk fun _ S => .ok (.v (.fn f)) S
  | .tup es => mk fun ρ S => (evM (evs C es) ρ S).bind fun ds S1 => if ds.length ≤ lim then .ok (.v (.tup ds)) S1 else .bad
  | .lst es => mk fun ρ S => (evM (evs C es) ρ S).bind fun ds S1 => if ds.length ≤ lim then .ok (.l ds) S1 else .bad
  | .dT0 => mk fun _ S => .ok (.t []) S
  | .dT1 k v => mk fun ρ S => ((ev C k).E ρ S).bind fun tk S1 => (mat tk S1).bind fun dk S2 => ((ev C v).E ρ S2).bind fun tv S3 => (mat tv S3).bind fun dv S4 => if dk.isKey then .ok (.t [(dk, dv)]) S4 else .bad
  | .bin o a b => mk fun ρ S => ((ev C a).E ρ S).bind fun ta S1 => ((ev C b).E ρ S1).bind fun tb S2 => opt (bin2 o ta tb S2) S2
  | .neg a => mk fun ρ S => ((ev C a).E ρ S).bind fun ta S1 => (match ta with
    | .v (.int i) => .ok (.v (.int (-i))) S1
    | _ => .bad)
  | .not a => mkB fun ρ S => ((ev C a).B ρ S).bind fun k S1 => .ok (!k) S1
  | .and es => { mk (evAnd (evs C es)) with B := evC (evs C es) }
  | .or es => { mk (evOr (evs C es)) with B := evO (evs C es) }
  | .cmp o a b => mkB fun ρ S => ((ev C a).E ρ S).bind fun ta S1 => ((ev C b).E ρ S1).bind fun tb S2 => opt (cmp2 o ta tb S2) S2
  | .chn o o' a b c => mkB fun ρ S => ((ev C a).E ρ S).bind fun ta S1 => ((ev C b).E ρ S1).bind fun tb S2 => (opt (cmp2 o ta tb S2) S2).bind fun k S3 =>
      if k then ((ev C c).E ρ S3).bind fun tc S4 => opt (cmp2 o' tb tc S4) S4 else .ok false S3
  | .ife t a b => mk fun ρ S => ((ev C t).B ρ S).bind fun k S1 => if k then (ev C a).E ρ S1 else (ev C b).E ρ S1
  | .ix a i => mk fun ρ S => ((ev C a).E ρ S).bind fun ta S1 => ((ev C i).E ρ S1).bind fun ti S2 => opt (getF ta ti S2) S2
  | .sl bl bh a lo hi => mk fun ρ S => ((ev C a).E ρ S).bind fun ta S1 => (evP bl (ev C lo).E ρ S1).bind fun l S2 => (evP bh (ev C hi).E ρ S2).bind fun h S3 => opt (slice ta l h S3) S3
  | .call f es => mk fun ρ S => fin S.length ((evM (evs C es) ρ S).bind fun ds S1 => C f ds S1)
  | .bi b es => { mk (fun ρ S => (evTs (evs C es) ρ S).bind fun ts S1 => opt (biF b ts S1) S1) with
      I := fun ρ S => (evTs (evs C es) ρ S).bind fun ts S1 => if isIt b then opt (itF b ts S1) S1 else (opt (biF b ts S1) S1).bind fun t S2 => opt (itQ t S2) S2 }
  | .me m o es => { mk (fun ρ S => ((ev C o).E ρ S).bind fun t S1 => if rcv m t S1 then (evTs (evs C es) ρ S1).bind fun ts S2 => meF m t ts S2 else .bad) with
      I := fun ρ S => ((ev C o).E ρ S).bind fun t S1 => (match m, t, es with
        | .items, .v (.ref k), [] => opt ((asT (.v (.ref k)) S1).map fun kvs => (itemD kvs, if lockAt S1 k then none else some k)) S1
        | _, _, _ => .bad) }
  | .lc own elt tg it conds => mk (evL own (ev C elt) tg (ev C it) (evs C conds))
  | .isNo x0 e => mkB fun ρ S => (match fin S.length ((ev C e).E ρ S) with
    | .ok _ S1 => .ok false S1
    | .exc x S1 => if x.cls = x0 then .ok true S1 else .bad
    | .bad => .bad)
  | .maxk o => mk fun ρ S => ((ev C o).E ρ S).bind fun t S1 => opt (maxK t) S1
def evs (C : Calls) : List Ex → List Sm
  | [] => []
  | e :: es => ev C e :: evs C es
end

/-! ### statements -/
/-- an expression's result, then a statement's -/
def thenS {α : Type} (r : R α) (ρ : Env) (f : α → Store → SR) : SR := match r with
  | .ok a S => f a S
  | .exc x S => .exc x ρ S
  | .bad => .bad
def optS (o : Option Store) : R Unit := match o with
  | some S => .ok () S
  | none => .bad
def unlockS (o : Option Nat) (r : SR) : SR := match r with
  | .ok f ρ S => .ok f ρ (lockO S o false)
  | .exc x ρ S => .exc x ρ (lockO S o false)
  | .bad => .bad
def seqS (r : SR) (f : Env → Store → SR) : SR := match r with
  | .ok .nx ρ S => f ρ S
  | q => q
def tryS (r : SR) (x : Str) (f : Env → Store → SR) : SR := match r with
  | .exc y ρ S => if y.cls = x then f ρ S else .exc y ρ S
  | q => q
mutual
def sv (n : Nat) (C : Calls) : St → Env → Store → SR
  | .ex e, ρ, S => thenS ((ev C e).E ρ S) ρ fun _ S1 => .ok .nx ρ S1
  | .app o e, ρ, S => thenS (((ev C o).E ρ S).bind fun t S1 => if rcv .append t S1 then (evM [ev C e] ρ S1).bind fun ds S2 => meF .append t (ds.map .v) S2 else .bad) ρ fun _ S1 => .ok .nx ρ S1
  | .asg tg e, ρ, S => thenS (((ev C e).E ρ S).bind mat) ρ fun d S1 => (match asg tg d ρ with
    | some ρ' => .ok .nx ρ' S1
    | none => .bad)
  | .par i j a b, ρ, S => thenS (evM [ev C a, ev C b] ρ S) ρ fun ds S1 => (match ds with
    | [x, y] => if i < ρ.length ∧ j < ρ.length then .ok .nx ((ρ.set i (some x)).set j (some y)) S1 else .bad
    | _ => .bad)
  | .seti o i e, ρ, S => thenS (((ev C e).E ρ S).bind mat) ρ fun d S1 => thenS (((ev C o).E ρ S1).bind fun to S2 => ((ev C i).E ρ S2).bind fun ti S3 => optS (setF to ti d S3)) ρ fun _ S4 => .ok .nx ρ S4
  | .aug i o e, ρ, S => (match ρ[i]? with
    | some (some d) => thenS (((ev C e).E ρ S).bind fun t S1 => opt (aug2 o (.v d) t) S1) ρ fun d' S1 => .ok .nx (ρ.set i (some d')) S1
    | _ => .bad)
  | .augi oo i o e, ρ, S => thenS (((ev C oo).E ρ S).bind fun to S1 => ((ev C i).E ρ S1).bind fun ti S2 => (opt (getF to ti S2) S2).bind fun told S3 => ((ev C e).E ρ S3).bind fun t S4 =>
        (opt (aug2 o told t) S4).bind fun d' S5 => optS (setF to ti d' S5)) ρ fun _ S6 => .ok .nx ρ S6
  | .ite t a b, ρ, S => thenS ((ev C t).B ρ S) ρ fun k S1 => if k then svs n C a ρ S1 else svs n C b ρ S1
  | .for tg it body, ρ, S => thenS ((ev C it).I ρ S) ρ fun w S1 => unlockS w.2 (loopS (fun x ρ1 S2 => match asg tg x ρ1 with
        | some ρ2 => svs n C body ρ2 S2
        | none => .bad) w.1 ρ (lockO S1 w.2 true))
  | .ret e, ρ, S => thenS ((ev C e).E ρ S) ρ fun t S1 => .ok (.rt t) ρ S1
  | .retN, ρ, S => .ok (.rt (.v .non)) ρ S
  | .raise0 x, ρ, S => .exc ⟨x, []⟩ ρ S
  | .raise _ _, _, _ => .bad
  | .try1 body x suite, ρ, S => tryS (svs n C body ρ S) x (fun ρ1 S1 => svs n C suite ρ1 S1)
  | .pass, ρ, S => .ok .nx ρ S
  | .brk, ρ, S => .ok .bk ρ S
  | .cont, ρ, S => .ok .ct ρ S
def svs (n : Nat) (C : Calls) : List St → Env → Store → SR
  | [], ρ, S => .ok .nx ρ S
  | s :: r, ρ, S => seqS (sv n C s ρ S) (fun ρ1 S1 => svs n C r ρ1 S1)
end
/-- a def: how many parameters, how many names, its body -/
structure Fd where
  np : Nat
  nn : Nat
  body : List St
def startE (nn : Nat) (ds : List D) : Env := ds.map some ++ List.replicate (nn - ds.length) none
def runF (n : Nat) (C : Calls) (fd : Fd) (ds : List D) (S : Store) : R T :=
  if ds.length = fd.np then (match svs n C fd.body (startE fd.nn ds) S with
    | .ok .nx _ S1 => .ok (.v .non) S1
    | .ok (.rt t) _ S1 => .ok t S1
    | .exc x _ S1 => .exc x S1
    | _ => .bad) else .bad
def callN (F : List Fd) : Nat → Calls
  | 0, _, _, _ => .bad
  | n + 1, f, ds, S => (match F[f]? with
    | some fd => runF n (callN F n) fd ds S
    | none => .bad)
end Ev
-- EvS1
set_option Elab.async false
set_option linter.all false
set_option maxRecDepth 100000
set_option maxHeartbeats 4000000
/-! EvS1: how plain data stand in the heap. -/
namespace Ev
open PySem PySem.Spec PyProof.Rows L2

/-- what is fixed through a law: the program, the world, the written part, the module's names, the defs' names by number, the tables of code objects, the names of the classes that are raised -/
structure Gx where
  P : Program
  w : World
  K : PySem.W.Frag
  mg : Str → Option Value
  base : Heap
  fnm : List Str
  T : List (Addr × Str)
  exc : List Str

/-- a tuple that is known to the object, without attributes of its own -/
def PlT (K : PySem.W.Frag) (H : Hp) (a : Addr) (vs : List V) : Prop :=
  (∃ o, H a = some (.frz o (.tup vs)) ∧ o.dict = none) ∨
    ∃ (o : Obj) (its : Array Value) (n : Nat), K.lookup a = some o ∧ o.cls = .type "tuple" ∧ o.dict = none ∧ o.data = .seq its n ∧ its.size ≤ sizeLine ∧ Vals vs its.toList
theorem PlT.sq {K : PySem.W.Frag} {H : Hp} {a : Addr} {vs : List V} (h : PlT K H a vs) : SqT K H a vs := by
  rcases h with ⟨o, h, _⟩ | ⟨o, its, n, h1, h2, _, h3, h4, h5⟩
  · exact .inl (.inr ⟨o, h⟩)
  · exact .inr ⟨o, its, n, h1, h2, h3, h4, h5⟩
theorem PlT.new {K : PySem.W.Frag} {H : Hp} {p : Addr} {o : Obj} {vs : List V} (h : o.dict = none) : PlT K (upd H p (.frz o (.tup vs))) p vs := .inl ⟨o, upd_same, h⟩
mutual
def Enc (g : Gx) (H : Hp) (m : Nat → Addr) (n : Nat) : D → V → Prop
  | .non, v => v = .non
  | .bl b, v => v = .bl b
  | .int i, v => v = .int i
  | .str s, v => v = .str s
  | .tup xs, v => ∃ a vs, v = .ref a ∧ PlT g.K H a vs ∧ EncAll g H m n xs vs
  | .ref k, v => k < n ∧ v = .ref (m k)
  | .fn i, v => ∃ x a, g.fnm[i]? = some x ∧ v = .ref a ∧ g.mg x = some (.ref a)
def EncAll (g : Gx) (H : Hp) (m : Nat → Addr) (n : Nat) : List D → List V → Prop
  | [], vs => vs = []
  | x :: xs, vs => ∃ v r, vs = v :: r ∧ Enc g H m n x v ∧ EncAll g H m n xs r
end
/-- tuples stay -/
def TK (g : Gx) (H H' : Hp) : Prop := ∀ a vs, PlT g.K H a vs → PlT g.K H' a vs
mutual
theorem Enc.mono {g : Gx} {H H' : Hp} {m m' : Nat → Addr} {n n' : Nat} (t : TK g H H') (hn : n ≤ n') (hm : ∀ k, k < n → m' k = m k) : ∀ (d : D) (v : V), Enc g H m n d v → Enc g H' m' n' d v
  | .non, _, h => h
  | .bl _, _, h => h
  | .int _, _, h => h
  | .str _, _, h => h
  | .tup xs, _, h => by
    obtain ⟨a, vs, e, s, r⟩ := h
    exact ⟨a, vs, e, t a vs s, EncAll.mono t hn hm xs vs r⟩
  | .ref k, _, h => ⟨Nat.lt_of_lt_of_le h.1 hn, by rw [hm k h.1]; exact h.2⟩
  | .fn _, _, h => h
theorem EncAll.mono {g : Gx} {H H' : Hp} {m m' : Nat → Addr} {n n' : Nat} (t : TK g H H') (hn : n ≤ n') (hm : ∀ k, k < n → m' k = m k) : ∀ (ds : List D) (vs : List V), EncAll g H m n ds vs → EncAll g H' m' n' ds vs
  | [], _, h => h
  | x :: xs, _, h => by
    obtain ⟨v, r, e, h1, h2⟩ := h
    exact ⟨v, r, e, Enc.mono t hn hm x v h1, EncAll.mono t hn hm xs r h2⟩
end
mutual
/-- a narrower store: what names no place beyond it -/
theorem Enc.narrow {g : Gx} {H : Hp} {m : Nat → Addr} {n n' : Nat} : ∀ (d : D) (v : V), d.bnd n' = true → Enc g H m n d v → Enc g H m n' d v
  | .non, _, _, h => h
  | .bl _, _, _, h => h
  | .int _, _, _, h => h
  | .str _, _, _, h => h
  | .tup xs, _, b, h => by
    obtain ⟨a, vs, e, s, r⟩ := h
    exact ⟨a, vs, e, s, EncAll.narrow xs vs b r⟩
  | .ref k, _, b, h => ⟨of_decide_eq_true b, h.2⟩
  | .fn _, _, _, h => h
theorem EncAll.narrow {g : Gx} {H : Hp} {m : Nat → Addr} {n n' : Nat} : ∀ (ds : List D) (vs : List V), D.bnds n' ds = true → EncAll g H m n ds vs → EncAll g H m n' ds vs
  | [], _, _, h => h
  | x :: xs, _, b, h => by
    obtain ⟨v, r, e, h1, h2⟩ := h
    have b' : (x.bnd n' && D.bnds n' xs) = true := b
    rw [Bool.and_eq_true] at b'
    exact ⟨v, r, e, Enc.narrow x v b'.1 h1, EncAll.narrow xs r b'.2 h2⟩
end
theorem EncAll.length {g : Gx} {H : Hp} {m : Nat → Addr} {n : Nat} : ∀ {ds : List D} {vs : List V}, EncAll g H m n ds vs → vs.length = ds.length
  | [], _, h => by
    have h' : _ = [] := h
    rw [h']
    rfl
  | x :: xs, _, h => by
    obtain ⟨v, r, e, h1, h2⟩ := h
    rw [e, List.length_cons, List.length_cons, EncAll.length h2]
theorem EncAll.nil {g : Gx} {H : Hp} {m : Nat → Addr} {n : Nat} : EncAll g H m n [] [] := rfl
theorem EncAll.cons {g : Gx} {H : Hp} {m : Nat → Addr} {n : Nat} {d : D} {ds : List D} {v : V} {vs : List V} (h : Enc g H m n d v) (r : EncAll g H m n ds vs) : EncAll g H m n (d :: ds) (v :: vs) := ⟨v, vs, rfl, h, r⟩
theorem EncAll.append {g : Gx} {H : Hp} {m : Nat → Addr} {n : Nat} : ∀ {ds es : List D} {vs us : List V}, EncAll g H m n ds vs → EncAll g H m n es us → EncAll g H m n (ds ++ es) (vs ++ us)
  | [], _, _, _, h, h2 => by
    have h' : _ = [] := h
    rw [h']
    exact h2
  | x :: xs, _, _, _, h, h2 => by
    obtain ⟨v, r, e, h1, h3⟩ := h
    rw [e]
    exact ⟨v, _, rfl, h1, EncAll.append h3 h2⟩
theorem EncAll.get {g : Gx} {H : Hp} {m : Nat → Addr} {n : Nat} : ∀ {ds : List D} {vs : List V} {i : Nat} {d : D}, EncAll g H m n ds vs → ds[i]? = some d → ∃ v, vs[i]? = some v ∧ Enc g H m n d v
  | [], _, _, _, _, e => by simp at e
  | x :: xs, _, 0, d, h, e => by
    obtain ⟨v, r, e1, h1, h2⟩ := h
    have e' : x = d := by simpa using e
    rw [e1, ← e']
    exact ⟨v, rfl, h1⟩
  | x :: xs, _, i + 1, d, h, e => by
    obtain ⟨v, r, e1, h1, h2⟩ := h
    rw [e1]
    exact EncAll.get (i := i) h2 (by simpa using e)
theorem EncAll.getV {g : Gx} {H : Hp} {m : Nat → Addr} {n : Nat} {ds : List D} {vs : List V} {i : Nat} {v : V} (h : EncAll g H m n ds vs) (e : vs[i]? = some v) : ∃ d, ds[i]? = some d ∧ Enc g H m n d v := by
  have hl := h.length
  have hi : i < ds.length := by
    rw [← hl]
    exact (List.getElem?_eq_some_iff.mp e).1
  obtain ⟨v', e1, h1⟩ := h.get (List.getElem?_eq_getElem hi)
  rw [e] at e1
  cases e1
  exact ⟨_, List.getElem?_eq_getElem hi, h1⟩
theorem EncAll.take {g : Gx} {H : Hp} {m : Nat → Addr} {n : Nat} : ∀ {ds : List D} {vs : List V} (k : Nat), EncAll g H m n ds vs → EncAll g H m n (ds.take k) (vs.take k)
  | [], _, k, h => by
    have h' : _ = [] := h
    rw [h', List.take_nil, List.take_nil]
    exact EncAll.nil
  | x :: xs, _, 0, h => by
    rw [List.take_zero, List.take_zero]
    exact EncAll.nil
  | x :: xs, _, k + 1, h => by
    obtain ⟨v, r, e, h1, h2⟩ := h
    rw [e]
    exact ⟨v, _, rfl, h1, EncAll.take k h2⟩
theorem EncAll.drop {g : Gx} {H : Hp} {m : Nat → Addr} {n : Nat} : ∀ {ds : List D} {vs : List V} (k : Nat), EncAll g H m n ds vs → EncAll g H m n (ds.drop k) (vs.drop k)
  | [], _, k, h => by
    have h' : _ = [] := h
    rw [h', List.drop_nil, List.drop_nil]
    exact EncAll.nil
  | x :: xs, _, 0, h => h
  | x :: xs, _, k + 1, h => by
    obtain ⟨v, r, e, h1, h2⟩ := h
    rw [e]
    exact EncAll.drop k h2
theorem EncAll.set {g : Gx} {H : Hp} {m : Nat → Addr} {n : Nat} {d : D} {v : V} (hd : Enc g H m n d v) : ∀ {ds : List D} {vs : List V} (k : Nat), EncAll g H m n ds vs → EncAll g H m n (ds.set k d) (vs.set k v)
  | [], _, k, h => by
    have h' : _ = [] := h
    rw [h', List.set_nil, List.set_nil]
    exact EncAll.nil
  | x :: xs, _, 0, h => by
    obtain ⟨v', r, e, h1, h2⟩ := h
    rw [e]
    exact ⟨v, r, rfl, hd, h2⟩
  | x :: xs, _, k + 1, h => by
    obtain ⟨v', r, e, h1, h2⟩ := h
    rw [e]
    exact ⟨v', _, rfl, h1, EncAll.set hd k h2⟩
theorem EncAll.rep {g : Gx} {H : Hp} {m : Nat → Addr} {n : Nat} {ds : List D} {vs : List V} (h : EncAll g H m n ds vs) : ∀ k : Nat, EncAll g H m n (List.replicate k ds).flatten (List.replicate k vs).flatten
  | 0 => EncAll.nil
  | k + 1 => by
    rw [List.replicate_succ, List.replicate_succ, List.flatten_cons, List.flatten_cons]
    exact h.append (EncAll.rep h k)
/-- two lists of data for one list of values have one length -/
theorem EncAll.nil_iff {g : Gx} {H : Hp} {m : Nat → Addr} {n : Nat} {ds : List D} {vs : List V} (h : EncAll g H m n ds vs) : vs = [] ↔ ds = [] := by
  have hl := h.length
  constructor
  · intro e
    rw [e] at hl
    exact List.eq_nil_of_length_eq_zero hl.symm
  · intro e
    rw [e] at hl
    exact List.eq_nil_of_length_eq_zero hl
mutual
/-- plain data read off the heap -/
theorem Enc.dp {g : Gx} {H : Hp} {m : Nat → Addr} {n : Nat} : ∀ (d : D) (v : V), d.pure = true → Enc g H m n d v → Dp g.K H v d.py
  | .non, _, _, h => by
    have h' : _ = V.non := h
    rw [h']
    exact .non
  | .bl b, _, _, h => by
    have h' : _ = V.bl b := h
    rw [h']
    exact .bl b
  | .int b, _, _, h => by
    have h' : _ = V.int b := h
    rw [h']
    exact .int b
  | .str b, _, _, h => by
    have h' : _ = V.str b := h
    rw [h']
    exact .str b
  | .tup xs, _, p, h => by
    obtain ⟨a, vs, e, s, r⟩ := h
    rw [e]
    exact .tup s.sq (EncAll.dp xs vs p r)
  | .ref _, _, p, _ => by cases p
  | .fn _, _, p, _ => by cases p
theorem EncAll.dp {g : Gx} {H : Hp} {m : Nat → Addr} {n : Nat} : ∀ (ds : List D) (vs : List V), D.pures ds = true → EncAll g H m n ds vs → DpAll g.K H vs (D.pys ds)
  | [], _, _, h => by
    have h' : _ = [] := h
    rw [h']
    exact .nil
  | x :: xs, _, p, h => by
    obtain ⟨v, r, e, h1, h2⟩ := h
    have p' : (x.pure && D.pures xs) = true := p
    rw [Bool.and_eq_true] at p'
    rw [e]
    exact .cons (Enc.dp x v p'.1 h1) (EncAll.dp xs r p'.2 h2)
end
mutual
theorem py_plain : ∀ d : D, d.py.plain = true
  | .non => rfl
  | .bl _ => rfl
  | .int _ => rfl
  | .str _ => rfl
  | .tup xs => pys_plain xs
  | .ref _ => rfl
  | .fn _ => rfl
theorem pys_plain : ∀ ds : List D, PyData.plainAll (D.pys ds) = true
  | [] => rfl
  | x :: xs => by
    show (x.py.plain && PyData.plainAll (D.pys xs)) = true
    rw [py_plain x, pys_plain xs]
    rfl
end
mutual
theorem py_dep : ∀ d : D, d.py.depth = d.dep
  | .non => by simp [D.py, D.dep, PyData.depth]
  | .bl _ => by simp [D.py, D.dep, PyData.depth]
  | .int _ => by simp [D.py, D.dep, PyData.depth]
  | .str _ => by simp [D.py, D.dep, PyData.depth]
  | .tup xs => by
    show PyData.depth (.tuple (D.pys xs)) = D.deps xs + 1
    rw [PyData.depth, pys_dep xs]
  | .ref _ => by simp [D.py, D.dep, PyData.depth]
  | .fn _ => by simp [D.py, D.dep, PyData.depth]
theorem pys_dep : ∀ ds : List D, PyData.depthAll (D.pys ds) = D.deps ds
  | [] => by simp [D.pys, D.deps, PyData.depthAll]
  | x :: xs => by
    show PyData.depthAll (x.py :: D.pys xs) = max x.dep (D.deps xs)
    rw [PyData.depthAll, py_dep x, pys_dep xs]
end
theorem pys_map : ∀ ds : List D, D.pys ds = ds.map D.py
  | [] => rfl
  | x :: xs => by
    show x.py :: D.pys xs = x.py :: xs.map D.py
    rw [pys_map xs]
theorem pures_all : ∀ ds : List D, D.pures ds = ds.all D.pure
  | [] => rfl
  | x :: xs => by
    show (x.pure && D.pures xs) = (x.pure && xs.all D.pure)
    rw [pures_all xs]
theorem bnds_all (n : Nat) : ∀ ds : List D, D.bnds n ds = ds.all (D.bnd n)
  | [] => rfl
  | x :: xs => by
    show (x.bnd n && D.bnds n xs) = (x.bnd n && xs.all (D.bnd n))
    rw [bnds_all n xs]

/-! ### cells -/
/-- the very object at a -/
def RawO (a : Addr) (o : Obj) : HO := .ext fun h => h.get? a = some o
theorem RawO_lst {a : Addr} {o : Obj} {xs : List V} : RawO a o ≠ .lst xs := fun e => by
  unfold RawO at e
  cases e
/-- a dict's entries -/
def EntOk (g : Gx) (H : Hp) (m : Nat → Addr) (n : Nat) (e : DictEntry) (p : D × D) : Prop :=
  ∃ b u v, e = ⟨p.1.nk.hash g.w, .ref b, u⟩ ∧ p.1.isKey = true ∧ Enc g H m n p.1 (.ref b) ∧ RelV v u ∧ Enc g H m n p.2 v
def DTrel (g : Gx) (H : Hp) (m : Nat → Addr) (n : Nat) (a : Addr) (kvs : List (D × D)) : Prop :=
  ∃ (o : Obj) (es : Array DictEntry) (ep : Nat), H a = some (RawO a o) ∧ o.ExactDict ∧ o.data = .dict es ep ∧ (a == sysModules) = false ∧ es.size ≤ sizeLine ∧
    Paired (EntOk g H m n) es.toList kvs ∧ (kvs.map (·.1.nk)).Nodup
def CellRel (g : Gx) (H : Hp) (m : Nat → Addr) (n : Nat) (a : Addr) : Cell → Prop
  | .lst _ xs => ∃ vs, H a = some (.lst vs) ∧ EncAll g H m n xs vs
  | .ro xs => ∃ vs, ((∃ o, H a = some (.frz o (.lst vs))) ∨ SqL g.K (fun _ => none) a vs) ∧ EncAll g H m n xs vs
  | .dT _ kvs => DTrel g H m n a kvs
structure StRel (g : Gx) (S : Store) (m : Nat → Addr) (H : Hp) : Prop where
  inj : ∀ i j, 0 < i → 0 < j → i < S.length → j < S.length → m i = m j → i = j
  zero : ∃ xs, S[0]? = some (.ro xs)
  own : ∀ k xs, S[k]? = some (.ro xs) → k = 0
  cell : ∀ k c, S[k]? = some c → CellRel g H m S.length (m k) c
  tabs : LamX.Tabs g.T H
structure EnvRel (g : Gx) (H : Hp) (m : Nat → Addr) (n : Nat) (ρ : Env) (σ : L2.St) : Prop where
  len : ρ.length = σ.length
  at_ : ∀ (i : Nat) (d : D), ρ[i]? = some (some d) → ∃ v, σ[i]? = some (some v) ∧ Enc g H m n d v
/-- free, or a table of code objects -/
def Fr (H : Hp) (p : Addr) : Prop := ∀ o, H p = some o → ∃ ps, o = .tbl ps
theorem Fr.of {H : Hp} {p : Addr} (h : H p = none) : Fr H p := fun o e => by
  rw [h] at e
  cases e
theorem Fr.no {H : Hp} {p : Addr} {o : HO} (h : Fr H p) (e : H p = some o) (nt : ∀ ps, o ≠ .tbl ps) : False := by
  obtain ⟨ps, z⟩ := h o e
  exact nt ps z
/-- what stays, what is new -/
structure Ext (g : Gx) (S : Store) (m : Nat → Addr) (H : Hp) (S' : Store) (m' : Nat → Addr) (H' : Hp) : Prop where
  le : S.length ≤ S'.length
  ag : ∀ k, k < S.length → m' k = m k
  lk : ∀ k, k < S.length → lockAt S' k = lockAt S k
  keep : ∀ b o, H b = some o → (∀ ps, o ≠ .tbl ps) → (∀ k, k < S.length → m k = b → lockAt S k = true) → H' b = some o
  tup : ∀ b xs, H b = some (.tup xs) → H' b = some (.tup xs)
  frz : ∀ b o u, H b = some (.frz o u) → H' b = some (.frz o u)
  dom : ∀ b, Fr H' b → Fr H b
  new : ∀ k, S.length ≤ k → k < S'.length → Fr H (m' k)
theorem Ext.refl {g : Gx} {S : Store} {m : Nat → Addr} {H : Hp} : Ext g S m H S m H :=
  ⟨Nat.le_refl _, fun _ _ => rfl, fun _ _ => rfl, fun _ _ e _ _ => e, fun _ _ e => e, fun _ _ _ e => e, fun _ e => e, fun k h1 h2 => absurd (Nat.lt_of_le_of_lt h1 h2) (Nat.lt_irrefl _)⟩
theorem Ext.free {g : Gx} {S S' : Store} {m m' : Nat → Addr} {H H' : Hp} (x : Ext g S m H S' m' H') {b : Addr} (h : Fr H' b) : Fr H b := x.dom b h
theorem Ext.trans {g : Gx} {S S1 S2 : Store} {m m1 m2 : Nat → Addr} {H H1 H2 : Hp} (x : Ext g S m H S1 m1 H1) (y : Ext g S1 m1 H1 S2 m2 H2) : Ext g S m H S2 m2 H2 := by
  refine ⟨Nat.le_trans x.le y.le, fun k h => (y.ag k (Nat.lt_of_lt_of_le h x.le)).trans (x.ag k h), fun k h => (y.lk k (Nat.lt_of_lt_of_le h x.le)).trans (x.lk k h), fun b o e nt hl => ?_, fun b xs e => y.tup b xs (x.tup b xs e), fun b o u e => y.frz b o u (x.frz b o u e), fun b e => x.dom b (y.dom b e), fun k h1 h2 => ?_⟩
  · refine y.keep b o (x.keep b o e nt hl) nt fun k hk hb => ?_
    by_cases hs : k < S.length
    · rw [x.lk k hs]
      exact hl k hs ((x.ag k hs).symm.trans hb)
    · have z := x.new k (Nat.le_of_not_lt hs) hk
      rw [hb] at z
      exact (z.no e nt).elim
  · by_cases hs : k < S1.length
    · rw [y.ag k hs]
      exact x.new k h1 hs
    · exact x.free (y.new k (Nat.le_of_not_lt hs) h2)
theorem Ext.tk {g : Gx} {S S' : Store} {m m' : Nat → Addr} {H H' : Hp} (x : Ext g S m H S' m' H') : TK g H H' := fun a vs h => by
  rcases h with ⟨o, h, d⟩ | h
  · exact .inl ⟨o, x.frz a o _ h, d⟩
  · exact .inr h
theorem Ext.enc {g : Gx} {S S' : Store} {m m' : Nat → Addr} {H H' : Hp} (x : Ext g S m H S' m' H') {d : D} {v : V} (h : Enc g H m S.length d v) : Enc g H' m' S'.length d v := Enc.mono x.tk x.le x.ag d v h
theorem Ext.encAll {g : Gx} {S S' : Store} {m m' : Nat → Addr} {H H' : Hp} (x : Ext g S m H S' m' H') {ds : List D} {vs : List V} (h : EncAll g H m S.length ds vs) : EncAll g H' m' S'.length ds vs := EncAll.mono x.tk x.le x.ag ds vs h
theorem Ext.env {g : Gx} {S S' : Store} {m m' : Nat → Addr} {H H' : Hp} (x : Ext g S m H S' m' H') {ρ : Env} {σ : L2.St} (h : EnvRel g H m S.length ρ σ) : EnvRel g H' m' S'.length ρ σ :=
  ⟨h.len, fun i d e => by
    obtain ⟨v, e1, h1⟩ := h.at_ i d e
    exact ⟨v, e1, x.enc h1⟩⟩
theorem Paired.imp {α β : Type} {F G : α → β → Prop} (h : ∀ a b, F a b → G a b) : ∀ {l₁ : List α} {l₂ : List β}, Paired F l₁ l₂ → Paired G l₁ l₂
  | _, _, .nil => .nil
  | _, _, .cons r t => .cons (h _ _ r) (Paired.imp h t)
theorem EntOk.mono {g : Gx} {H H' : Hp} {m m' : Nat → Addr} {n n' : Nat} (t : TK g H H') (hn : n ≤ n') (hm : ∀ k, k < n → m' k = m k) {e : DictEntry} {p : D × D} (h : EntOk g H m n e p) : EntOk g H' m' n' e p := by
  obtain ⟨b, u, v, h1, h2, h3, h4, h5⟩ := h
  exact ⟨b, u, v, h1, h2, Enc.mono t hn hm _ _ h3, h4, Enc.mono t hn hm _ _ h5⟩
theorem DTrel.mono {g : Gx} {H H' : Hp} {m m' : Nat → Addr} {n n' : Nat} {a : Addr} {kvs : List (D × D)} (t : TK g H H') (hn : n ≤ n') (hm : ∀ k, k < n → m' k = m k) (hk : ∀ o, H a = some (RawO a o) → H' a = some (RawO a o)) (h : DTrel g H m n a kvs) : DTrel g H' m' n' a kvs := by
  obtain ⟨o, es, ep, h1, h2, h3, h4, h5, h6, h7⟩ := h
  exact ⟨o, es, ep, hk o h1, h2, h3, h4, h5, Paired.imp (fun _ _ z => EntOk.mono t hn hm z) h6, h7⟩
/-- a cell whose object stays -/
theorem CellRel.mono {g : Gx} {H H' : Hp} {m m' : Nat → Addr} {n n' : Nat} {a : Addr} {c : Cell} (t : TK g H H') (hn : n ≤ n') (hm : ∀ k, k < n → m' k = m k) (hk : ∀ o, H a = some o → (∀ ps, o ≠ .tbl ps) → H' a = some o) (h : CellRel g H m n a c) : CellRel g H' m' n' a c := by
  cases c with
  | lst b xs =>
    obtain ⟨vs, h1, h2⟩ := h
    exact ⟨vs, hk _ h1 (fun ps e => by cases e), EncAll.mono t hn hm _ _ h2⟩
  | ro xs =>
    obtain ⟨vs, h1, h2⟩ := h
    refine ⟨vs, ?_, EncAll.mono t hn hm _ _ h2⟩
    rcases h1 with ⟨o, h⟩ | h
    · exact .inl ⟨o, hk _ h (fun ps e => by cases e)⟩
    · exact .inr h
  | dT b kvs => exact DTrel.mono t hn hm (fun o e => hk _ e (fun ps z => by unfold RawO at z; cases z)) h

def Cell.isRo : Cell → Bool
  | .ro _ => true
  | _ => false
theorem CellRel.dom {g : Gx} {H : Hp} {m : Nat → Addr} {n : Nat} {a : Addr} {c : Cell} (hc : c.isRo = false) (h : CellRel g H m n a c) : H a ≠ none := by
  intro z
  cases c with
  | lst b xs =>
    obtain ⟨vs, h1, _⟩ := h
    rw [z] at h1
    cases h1
  | ro xs => cases hc
  | dT b kvs =>
    obtain ⟨o, es, ep, h1, _⟩ := h
    rw [z] at h1
    cases h1
theorem StRel.notRo {g : Gx} {S : Store} {m : Nat → Addr} {H : Hp} (st : StRel g S m H) {k : Nat} {c : Cell} (hk : 0 < k) (e : S[k]? = some c) : c.isRo = false := by
  cases c with
  | ro xs =>
    have z := st.own k xs e
    omega
  | _ => rfl
theorem StRel.apart {g : Gx} {S : Store} {m : Nat → Addr} {H : Hp} (st : StRel g S m H) {p : Addr} (hp : H p = none) (k : Nat) (h0 : 0 < k) (hk : k < S.length) : m k ≠ p := fun e => by
  have e1 := List.getElem?_eq_getElem hk
  have z := (st.cell k _ e1).dom (st.notRo h0 e1)
  rw [e] at z
  exact z hp
theorem StRel.pos {g : Gx} {S : Store} {m : Nat → Addr} {H : Hp} (st : StRel g S m H) : 0 < S.length := by
  obtain ⟨xs, e⟩ := st.zero
  exact (List.getElem?_eq_some_iff.mp e).1

/-! ### values and new things -/
def EncT (g : Gx) (H : Hp) (m : Nat → Addr) (n : Nat) : T → V → Prop
  | .v d, v => Enc g H m n d v
  | .l xs, v => ∃ p vs, v = .ref p ∧ H p = some (.lst vs) ∧ EncAll g H m n xs vs ∧ ∀ k, 0 < k → k < n → m k ≠ p
  | .t kvs, v => ∃ p, v = .ref p ∧ DTrel g H m n p kvs ∧ ∀ k, 0 < k → k < n → m k ≠ p
def FreT (H : Hp) (t : T) (v : V) : Prop := match t with
  | .v _ => True
  | _ => ∀ p, v = .ref p → Fr H p
theorem FreT.back {g : Gx} {S S' : Store} {m m' : Nat → Addr} {H H' : Hp} (x : Ext g S m H S' m' H') {t : T} {v : V} (h : FreT H' t v) : FreT H t v := by
  cases t with
  | v d => trivial
  | l xs => exact fun p e => x.free (h p e)
  | t kvs => exact fun p e => x.free (h p e)
theorem Ext.encT {g : Gx} {S S' : Store} {m m' : Nat → Addr} {H H' : Hp} (x : Ext g S m H S' m' H') (st : StRel g S m H) {t : T} {v : V} (h : EncT g H m S.length t v) : EncT g H' m' S'.length t v := by
  obtain ⟨zs, hz⟩ := st.zero
  have lk0 : lockAt S 0 = true := by
    unfold lockAt
    rw [hz]
  have keeps : ∀ {p : Addr}, (∀ k, 0 < k → k < S.length → m k ≠ p) → ∀ k, k < S.length → m k = p → lockAt S k = true := fun {p} hn k hk e => by
    by_cases h0 : 0 < k
    · exact absurd e (hn k h0 hk)
    · have : k = 0 := by omega
      rw [this]
      exact lk0
  have apart : ∀ {p : Addr} {o : HO}, H p = some o → (∀ ps, o ≠ .tbl ps) → (∀ k, 0 < k → k < S.length → m k ≠ p) → ∀ k, 0 < k → k < S'.length → m' k ≠ p := fun {p o} e nt hn k h0 hk z => by
    by_cases hs : k < S.length
    · exact hn k h0 hs ((x.ag k hs).symm.trans z)
    · have q := x.new k (Nat.le_of_not_lt hs) hk
      rw [z] at q
      exact (q.no e nt).elim
  cases t with
  | v d => exact x.enc h
  | l xs =>
    obtain ⟨p, vs, e, h1, h2, h3⟩ := h
    exact ⟨p, vs, e, x.keep p _ h1 (fun ps z => by cases z) (keeps h3), x.encAll h2, apart h1 (fun ps z => by cases z) h3⟩
  | t kvs =>
    obtain ⟨p, e, h1, h3⟩ := h
    obtain ⟨o, es, ep, q1, q2⟩ := id h1
    exact ⟨p, e, DTrel.mono x.tk x.le x.ag (fun o' e' => x.keep p _ e' (fun ps z => by unfold RawO at z; cases z) (keeps h3)) h1, apart q1 (fun ps z => by unfold RawO at z; cases z) h3⟩
/-- what a new thing is when it gets a place -/
def ncell : T → Option Cell
  | .v _ => none
  | .l xs => some (.lst false xs)
  | .t kvs => some (.dT false kvs)
def plc (m : Nat → Addr) (n : Nat) (p : Addr) : Nat → Addr := fun k => if k = n then p else m k
theorem plc_old {m : Nat → Addr} {n : Nat} {p : Addr} {k : Nat} (h : k < n) : plc m n p k = m k := if_neg (Nat.ne_of_lt h)
theorem plc_new {m : Nat → Addr} {n : Nat} {p : Addr} : plc m n p n = p := if_pos rfl
theorem lockAt_app {S : Store} {c : Cell} {k : Nat} (h : k < S.length) : lockAt (S ++ [c]) k = lockAt S k := by
  unfold lockAt
  rw [List.getElem?_append_left h]
theorem place_ok {g : Gx} {S S1 : Store} {m m1 : Nat → Addr} {H H1 : Hp} {p : Addr} {c : Cell} {o : HO} (x : Ext g S m H S1 m1 H1) (st : StRel g S1 m1 H1) (hp : Fr H p) (ho : H1 p = some o) (hc : CellRel g H1 m1 S1.length p c) (hr : c.isRo = false) (hn : ∀ k, 0 < k → k < S1.length → m1 k ≠ p) :
    Ext g S m H (S1 ++ [c]) (plc m1 S1.length p) H1 ∧ StRel g (S1 ++ [c]) (plc m1 S1.length p) H1 := by
  have ll : (S1 ++ [c]).length = S1.length + 1 := by simp
  have mono : ∀ {a : Addr} {c : Cell}, CellRel g H1 m1 S1.length a c → CellRel g H1 (plc m1 S1.length p) (S1 ++ [c]).length a c := fun {a c} h => by
    have ll : (S1 ++ [c]).length = S1.length + 1 := by simp
    rw [ll]
    exact CellRel.mono (fun _ _ z => z) (Nat.le_succ _) (fun k hk => plc_old hk) (fun _ e _ => e) h
  refine ⟨⟨by rw [ll]; exact Nat.le_succ_of_le x.le, fun k hk => (plc_old (Nat.lt_of_lt_of_le hk x.le)).trans (x.ag k hk), fun k hk => (lockAt_app (Nat.lt_of_lt_of_le hk x.le)).trans (x.lk k hk), x.keep, x.tup, x.frz, x.dom, fun k h1 h2 => ?_⟩, ⟨fun i j i0 j0 hi hj e => ?_, ?_, fun k xs e => ?_, fun k c' e => ?_, st.tabs⟩⟩
  · rw [ll] at h2
    by_cases hk : k < S1.length
    · rw [plc_old hk]
      exact x.new k h1 hk
    · have ek : k = S1.length := by omega
      rw [ek, plc_new]
      exact hp
  · rw [ll] at hi hj
    by_cases h1 : i < S1.length
    · by_cases h2 : j < S1.length
      · rw [plc_old h1, plc_old h2] at e
        exact st.inj i j i0 j0 h1 h2 e
      · have ej : j = S1.length := by omega
        rw [plc_old h1, ej, plc_new] at e
        exact absurd e (hn i i0 h1)
    · have ei : i = S1.length := by omega
      by_cases h2 : j < S1.length
      · rw [ei, plc_new, plc_old h2] at e
        exact absurd e.symm (hn j j0 h2)
      · omega
  · obtain ⟨zs, hz⟩ := st.zero
    exact ⟨zs, by rw [List.getElem?_append_left st.pos]; exact hz⟩
  · by_cases hk : k < S1.length
    · rw [List.getElem?_append_left hk] at e
      exact st.own k xs e
    · have hk2 : k < (S1 ++ [c]).length := (List.getElem?_eq_some_iff.mp e).1
      rw [ll] at hk2
      have ek : k = S1.length := by omega
      rw [ek, List.getElem?_concat_length] at e
      cases e
      cases hr
  · have e' := e
    by_cases hk : k < S1.length
    · rw [List.getElem?_append_left hk] at e
      rw [plc_old hk, ll]
      exact CellRel.mono (fun _ _ z => z) (Nat.le_succ _) (fun k hk => plc_old hk) (fun _ e _ => e) (st.cell k c' e)
    · have hk2 : k < (S1 ++ [c]).length := (List.getElem?_eq_some_iff.mp e').1
      rw [ll] at hk2
      have ek : k = S1.length := by omega
      rw [ek, List.getElem?_concat_length] at e
      cases e
      rw [ek, plc_new, ll]
      exact CellRel.mono (fun _ _ z => z) (Nat.le_succ _) (fun k hk => plc_old hk) (fun _ e _ => e) hc
/-- a value gets its place -/
theorem mat_ok {g : Gx} {S S1 S2 : Store} {m m1 : Nat → Addr} {H H1 : Hp} {t : T} {v : V} {d : D} (x : Ext g S m H S1 m1 H1) (st : StRel g S1 m1 H1) (en : EncT g H1 m1 S1.length t v) (fr : FreT H t v) (e : mat t S1 = .ok d S2) :
    ∃ m2, Ext g S m H S2 m2 H1 ∧ StRel g S2 m2 H1 ∧ Enc g H1 m2 S2.length d v := by
  cases t with
  | v d' =>
    cases e
    exact ⟨m1, x, st, en⟩
  | l xs =>
    cases e
    obtain ⟨p, vs, rfl, h1, h2, h3⟩ := en
    obtain ⟨y, st2⟩ := place_ok (c := .lst false xs) x st (fr p rfl) h1 ⟨vs, h1, h2⟩ rfl h3
    exact ⟨_, y, st2, by simp, by rw [plc_new]⟩
  | t kvs =>
    cases e
    obtain ⟨p, rfl, h1, h3⟩ := en
    obtain ⟨o, es, ep, q1, q2⟩ := id h1
    obtain ⟨y, st2⟩ := place_ok (c := .dT false kvs) x st (fr p rfl) q1 h1 rfl h3
    exact ⟨_, y, st2, by simp, by rw [plc_new]⟩
theorem mat_cases (t : T) (S : Store) : ∃ d S2, mat t S = .ok d S2 := by
  cases t with
  | v d => exact ⟨_, _, rfl⟩
  | l xs => exact ⟨_, _, rfl⟩
  | t kvs => exact ⟨_, _, rfl⟩
end Ev
-- EvS2
set_option Elab.async false
set_option linter.all false
set_option maxRecDepth 100000
set_option maxHeartbeats 4000000
/-! EvS2: readings by the evaluator. -/
namespace Ev
open PySem PySem.Spec PyProof.Rows L2

/-- what the compiled text leans on: the defs' names, the tables, the classes that are raised, the defs -/
structure Tb where
  fnm : List Str
  T : List (Addr × Str)
  exc : List Str
  exr : List Str
  con : List (Str × D)
  no : Option (Str × Str)
  blt : List Str
  F : List Fd
abbrev gof (u : Tb) (X : Cx) : Gx := ⟨X.prog, X.w, X.K, X.mg, X.base, u.fnm, u.T, u.exc⟩

/-! ### R.bind -/
theorem R.bind_assoc {α β γ : Type} (r : R α) (f : α → Store → R β) (h : β → Store → R γ) : (r.bind f).bind h = r.bind fun a S => (f a S).bind h := by
  cases r <;> rfl
theorem R.bind_ok {α : Type} (r : R α) : (r.bind fun a S => .ok a S) = r := by
  cases r <;> rfl

/-! ### a new object -/
theorem SqT.alloc {K : PySem.W.Frag} {H : Hp} {p : Addr} {o : HO} (hp : H p = none) {a : Addr} {vs : List V} (h : SqT K H a vs) : SqT K (upd H p o) a vs := by
  rcases h with (h | ⟨ob, h⟩) | h
  · exact .inl (.inl (by rw [upd_ne (ne_of_none h hp)]; exact h))
  · exact .inl (.inr ⟨ob, by rw [upd_ne (ne_of_none h hp)]; exact h⟩)
  · exact .inr h
theorem PlT.alloc {K : PySem.W.Frag} {H : Hp} {p : Addr} {o : HO} (hp : H p = none) {a : Addr} {vs : List V} (h : PlT K H a vs) : PlT K (upd H p o) a vs := by
  rcases h with ⟨ob, h, d⟩ | h
  · exact .inl ⟨ob, by rw [upd_ne (ne_of_none h hp)]; exact h, d⟩
  · exact .inr h
/-- a new tuple -/
theorem laidT {X : Cx} {pins : List (Addr × Obj)} {σ : L2.St} {H : Hp} {s : Shared} {us : List Value} {xs : List V} {t' : Nat} (I : L2.Inv X pins σ H s) (r : Vals xs us) (hz : xs.length ≤ sizeLine) :
    L2.Inv X pins σ (upd H s.heap.objs.size (.frz { cls := .type "tuple", data := .seq us.toArray } (.tup xs))) { s with heap := s.heap.push { cls := .type "tuple", data := .seq us.toArray }, toks := t' } :=
  I.laid (fun _ _ q => Heap.get?_push_of_some _ q) (Nat.le_refl _) ⟨Heap.get?_push_size _ rfl, hz, us, r, IsTup.new _ _⟩
/-- a written tuple -/
theorem pe_tupF {X : Cx} {es : List Expr} {t : TA} {k : Nat} {pos : Pos} (h : PA X es t) : PE X (.Tuple es k pos) (fun σ H Q => t σ H fun xs H1 => xs.length ≤ sizeLine ∧ ∀ p o, H1 p = none → Obj.dict o = none → Q (.ref p) (upd H1 p (.frz o (.tup xs)))) := by
  refine ⟨fun pins s σ H Q I hq => ?_⟩
  refine wpAny_Tuple_spliced (thn (h.run pos pins s σ H _ I hq) fun us s1 ⟨xs, H1, I1, r, z, q⟩ => ⟨by rw [← r.length]; exact z, ?_⟩)
  exact ⟨.ref s1.heap.objs.size, _, laidT (t' := s1.toks) I1 r z, rfl, q _ _ (I1.hok.fresh (Nat.le_refl _)) rfl⟩
theorem alloc_ok {g : Gx} {S : Store} {m : Nat → Addr} {H : Hp} {p : Addr} {o : HO} (st : StRel g S m H) (hp : H p = none) : Ext g S m H S m (upd H p o) ∧ StRel g S m (upd H p o) := by
  have k : ∀ b u, H b = some u → upd H p o b = some u := fun b u e => by rw [upd_ne (ne_of_none e hp)]; exact e
  refine ⟨⟨Nat.le_refl _, fun _ _ => rfl, fun _ _ => rfl, fun b u e _ _ => k b u e, fun b xs e => k b _ e, fun b ob u e => k b _ e, fun b e => ?_, fun k h1 h2 => absurd (Nat.lt_of_le_of_lt h1 h2) (Nat.lt_irrefl _)⟩, ⟨st.inj, st.zero, st.own, fun i c e => CellRel.mono (fun a vs h => PlT.alloc hp h) (Nat.le_refl _) (fun _ _ => rfl) (fun u e _ => k _ u e) (st.cell i c e), st.tabs.ext k⟩⟩
  intro u eu
  exact e u (k b u eu)

/-! ### what is wanted behind an evaluation -/
def Post {α : Type} (g : Gx) (W : WX) (S : Store) (m : Nat → Addr) (H : Hp) (σ : L2.St) (K : α → Store → (Nat → Addr) → Hp → Prop) : R α → Prop
  | .ok a S' => ∀ m' H', Ext g S m H S' m' H' → StRel g S' m' H' → K a S' m' H'
  | .exc x S' => ∀ m' H' cls, Ext g S m H S' m' H' → StRel g S' m' H' → x.cls ∈ g.exc → g.mg x.cls = some cls → W cls none σ H'
  | .bad => False
section
variable {α β : Type} {g : Gx} {W : WX} {S S1 : Store} {m m1 : Nat → Addr} {H H1 : Hp} {σ : L2.St} {K K' : α → Store → (Nat → Addr) → Hp → Prop} {r : R α}
theorem Post.mono (p : Post g W S m H σ K r) (h : ∀ a S' m' H', Ext g S m H S' m' H' → StRel g S' m' H' → K a S' m' H' → K' a S' m' H') : Post g W S m H σ K' r := by
  cases r with
  | ok a S' => exact fun m' H' x s => h a S' m' H' x s (p m' H' x s)
  | exc x S' => exact p
  | bad => exact p
theorem Post.rebase (x : Ext g S m H S1 m1 H1) (p : Post g W S m H σ K r) : Post g W S1 m1 H1 σ K r := by
  cases r with
  | ok a S' => exact fun m' H' y s => p m' H' (x.trans y) s
  | exc e S' => exact fun m' H' c y s => p m' H' c (x.trans y) s
  | bad => exact p
theorem Post.bind {f : α → Store → R β} {K : β → Store → (Nat → Addr) → Hp → Prop} (p : Post g W S m H σ K (r.bind f)) : Post g W S m H σ (fun a S1 m1 H1 => Post g W S1 m1 H1 σ K (f a S1)) r := by
  cases r with
  | ok a S' => exact fun m' H' x s => Post.rebase (r := f a S') x p
  | exc e S' => exact p
  | bad => exact p
theorem Post.wish {W' : WX} (p : Post g W S m H σ K r) (h : ∀ c H', W c none σ H' → W' c none σ H') : Post g W' S m H σ K r := by
  cases r with
  | ok a S' => exact p
  | exc e S' => exact fun m' H' c y s q1 q2 => h _ _ (p m' H' c y s q1 q2)
  | bad => exact p
theorem Post.noX (p : Post g W S m H σ K (noX r)) : Post g (fun _ _ _ _ => False) S m H σ K r := by
  cases r with
  | ok a S' => exact p
  | exc e S' => exact p.elim
  | bad => exact p
end
/-- of a value: whoever stands for it -/
def KE (g : Gx) (H : Hp) (Q : VK) : T → Store → (Nat → Addr) → Hp → Prop := fun t S' m' H' => ∀ v, FreT H t v → EncT g H' m' S'.length t v → Q v H'
theorem Post.opt {g : Gx} {W : WX} {S : Store} {m : Nat → Addr} {H : Hp} {σ : L2.St} {α : Type} {K : α → Store → (Nat → Addr) → Hp → Prop} {o : Option α} (p : Post g W S m H σ K (opt o S)) : ∃ a, o = some a ∧ ∀ m' H', Ext g S m H S m' H' → StRel g S m' H' → K a S m' H' := by
  cases o with
  | none => exact p.elim
  | some a => exact ⟨a, rfl, p⟩
theorem Post.here {g : Gx} {W : WX} {S : Store} {m : Nat → Addr} {H : Hp} {σ : L2.St} {α : Type} {K : α → Store → (Nat → Addr) → Hp → Prop} {a : α} (st : StRel g S m H) (p : Post g W S m H σ K (.ok a S)) : K a S m H := p m H Ext.refl st
/-- a value gets its place -/
theorem Post.mat {g : Gx} {W : WX} {S : Store} {m : Nat → Addr} {H : Hp} {σ : L2.St} {K : D → Store → (Nat → Addr) → Hp → Prop} {r : R T} (p : Post g W S m H σ K (r.bind mat)) :
    Post g W S m H σ (fun t S1 m1 H1 => ∀ v, FreT H t v → EncT g H1 m1 S1.length t v → ∃ d S2 m2, Ext g S m H S2 m2 H1 ∧ StRel g S2 m2 H1 ∧ Enc g H1 m2 S2.length d v ∧ K d S2 m2 H1) r := by
  cases r with
  | ok t S1 =>
    intro m1 H1 x st v fr en
    obtain ⟨d, S2, e⟩ := mat_cases t S1
    obtain ⟨m2, x2, st2, en2⟩ := mat_ok x st en fr e
    have p' : Post g W S m H σ K (Ev.mat t S1) := p
    rw [e] at p'
    exact ⟨d, S2, m2, x2, st2, en2, p' m2 H1 x2 st2⟩
  | exc e S' => exact p
  | bad => exact p

/-! ### what a call leaves -/
theorem CellRel.narrow {g : Gx} {H : Hp} {m : Nat → Addr} {n n' : Nat} {a : Addr} {c : Cell} (b : c.bnd n' = true) (h : CellRel g H m n a c) : CellRel g H m n' a c := by
  cases c with
  | lst l xs =>
    obtain ⟨vs, h1, h2⟩ := h
    exact ⟨vs, h1, EncAll.narrow _ _ b h2⟩
  | ro xs =>
    obtain ⟨vs, h1, h2⟩ := h
    exact ⟨vs, h1, EncAll.narrow _ _ b h2⟩
  | dT l kvs =>
    obtain ⟨o, es, ep, h1, h2, h3, h4, h5, h6, h7⟩ := h
    refine ⟨o, es, ep, h1, h2, h3, h4, h5, ?_, h7⟩
    have b' : ∀ p ∈ kvs, (p.1.bnd n' && p.2.bnd n') = true := List.all_eq_true.mp b
    clear h7 h1 h2 h3 h4 h5
    generalize es.toList = l₁ at h6
    induction h6 with
    | nil => exact .nil
    | cons r t ih =>
      refine .cons ?_ (ih (List.all_eq_true.mpr fun p hp => b' p (List.mem_cons_of_mem _ hp)) fun p hp => b' p (List.mem_cons_of_mem _ hp))
      obtain ⟨b1, u, v, q1, q2, q3, q4, q5⟩ := r
      have z := b' _ List.mem_cons_self
      rw [Bool.and_eq_true] at z
      exact ⟨b1, u, v, q1, q2, Enc.narrow _ _ z.1 q3, q4, Enc.narrow _ _ z.2 q5⟩
theorem EncT.narrow {g : Gx} {H : Hp} {m : Nat → Addr} {n n' : Nat} (hn : n' ≤ n) {t : T} {v : V} (b : t.bnd n' = true) (h : EncT g H m n t v) : EncT g H m n' t v := by
  cases t with
  | v d => exact Enc.narrow _ _ b h
  | l xs =>
    obtain ⟨p, vs, e, h1, h2, h3⟩ := h
    exact ⟨p, vs, e, h1, EncAll.narrow _ _ b h2, fun k h0 hk => h3 k h0 (Nat.lt_of_lt_of_le hk hn)⟩
  | t kvs =>
    obtain ⟨p, e, h1, h3⟩ := h
    exact ⟨p, e, CellRel.narrow (c := .dT false kvs) b h1, fun k h0 hk => h3 k h0 (Nat.lt_of_lt_of_le hk hn)⟩
theorem take_ok {g : Gx} {S S' : Store} {m m' : Nat → Addr} {H H' : Hp} (hp0 : 0 < S.length) (x : Ext g S m H S' m' H') (st : StRel g S' m' H') (ok : oldOk S.length S' = true) :
    Ext g S m H (S'.take S.length) m' H' ∧ StRel g (S'.take S.length) m' H' ∧ (S'.take S.length).length = S.length := by
  have ll : (S'.take S.length).length = S.length := by
    rw [List.length_take]
    exact Nat.min_eq_left x.le
  have ge : ∀ k, k < S.length → (S'.take S.length)[k]? = S'[k]? := fun k hk => List.getElem?_take_of_lt hk
  refine ⟨⟨Nat.le_of_eq ll.symm, x.ag, fun k hk => ?_, x.keep, x.tup, x.frz, x.dom, fun k h1 h2 => ?_⟩, ⟨fun i j i0 j0 hi hj e => ?_, ?_, fun k xs e => ?_, fun k c e => ?_, st.tabs⟩, ll⟩
  · rw [← x.lk k hk]
    unfold lockAt
    rw [ge k hk]
  · rw [ll] at h2
    exact absurd (Nat.lt_of_le_of_lt h1 h2) (Nat.lt_irrefl _)
  · rw [ll] at hi hj
    exact st.inj i j i0 j0 (Nat.lt_of_lt_of_le hi x.le) (Nat.lt_of_lt_of_le hj x.le) e
  · obtain ⟨zs, hz⟩ := st.zero
    exact ⟨zs, by rw [ge 0 hp0]; exact hz⟩
  · have hk : k < S.length := by
      have := (List.getElem?_eq_some_iff.mp e).1
      rw [ll] at this
      exact this
    rw [ge k hk] at e
    exact st.own k xs e
  · have hk : k < S.length := by
      have := (List.getElem?_eq_some_iff.mp e).1
      rw [ll] at this
      exact this
    have e' := e
    rw [ge k hk] at e'
    have hb : c.bnd S.length = true := List.all_eq_true.mp ok c (List.mem_of_getElem? e)
    rw [ll]
    exact CellRel.narrow hb (st.cell k c e')
theorem fresh_ok {g : Gx} {S S' : Store} {m m' : Nat → Addr} {H H' : Hp} (x : Ext g S m H S' m' H') (st : StRel g S' m' H') {t : T} {v : V} (fr : FreT H t v) (en : EncT g H' m' S'.length t v) (hb : (fresh S.length t S').bnd S.length = true) :
    FreT H (fresh S.length t S') v ∧ EncT g H' m' S.length (fresh S.length t S') v := by
  have base : (fresh S.length t S' = t) → FreT H (fresh S.length t S') v ∧ EncT g H' m' S.length (fresh S.length t S') v := fun e => by
    rw [e] at hb ⊢
    exact ⟨fr, EncT.narrow x.le hb en⟩
  cases t with
  | l xs => exact base rfl
  | t kvs => exact base rfl
  | v d =>
    cases d with
    | ref k =>
      by_cases hk : k < S.length
      · exact base (if_pos hk)
      · obtain ⟨h1, h2⟩ := (show k < S'.length ∧ v = V.ref (m' k) from en)
        have fre : ∀ p, v = .ref p → Fr H p := fun p e => by
          rw [h2] at e
          cases e
          exact x.new k (Nat.le_of_not_lt hk) h1
        have apart : ∀ j, 0 < j → j < S.length → m' j ≠ m' k := fun j j0 hj e => by
          have z := st.inj j k j0 (by omega) (Nat.lt_of_lt_of_le hj x.le) h1 e
          omega
        have e1 : S'[k]? = some S'[k] := List.getElem?_eq_getElem h1
        have cr := st.cell k _ e1
        have e0 : ∀ t', (match S'[k]? with | some (.lst false xs) => T.l xs | some (.dT false kvs) => .t kvs | _ => .v (.ref k)) = t' → fresh S.length (.v (.ref k)) S' = t' := fun t' e => by
          exact (if_neg hk).trans e
        rw [e1] at e0
        cases hc : S'[k] with
        | ro xs => exact base (e0 _ (by rw [hc]))
        | lst b xs =>
          cases b with
          | true => exact base (e0 _ (by rw [hc]))
          | false =>
            have e2 := e0 (.l xs) (by rw [hc])
            rw [e2] at hb ⊢
            rw [hc] at cr
            obtain ⟨vs, q1, q2⟩ := cr
            exact ⟨fre, m' k, vs, h2, q1, EncAll.narrow _ _ hb q2, apart⟩
        | dT b kvs =>
          cases b with
          | true => exact base (e0 _ (by rw [hc]))
          | false =>
            have e2 := e0 (.t kvs) (by rw [hc])
            rw [e2] at hb ⊢
            rw [hc] at cr
            exact ⟨fre, m' k, h2, CellRel.narrow (c := .dT false kvs) hb cr, apart⟩
    | _ => exact base rfl
theorem fin_ok {g : Gx} {W : WX} {S : Store} {m : Nat → Addr} {H : Hp} {σ : L2.St} {Q : VK} {r : R T} (hp0 : 0 < S.length) (p : Post g W S m H σ (KE g H Q) (fin S.length r)) : Post g W S m H σ (KE g H Q) r := by
  cases r with
  | ok t S' =>
    intro m' H' x st v fr en
    have p' : Post g W S m H σ (KE g H Q) (finish S.length t S') := p
    unfold finish at p'
    split at p'
    · rename_i h
      rw [Bool.and_eq_true] at h
      obtain ⟨y, st', ll⟩ := take_ok hp0 x st h.2
      obtain ⟨f1, f2⟩ := fresh_ok x st fr en h.1
      exact p' m' H' y st' v f1 (by rw [ll]; exact f2)
    · exact p' m' H' x st v fr en
  | exc e S' =>
    intro m' H' c x st q1 q2
    have p' : Post g W S m H σ (KE g H Q) (finishX S.length e S') := p
    unfold finishX at p'
    split at p'
    · rename_i h
      rw [Bool.and_eq_true] at h
      obtain ⟨y, st', ll⟩ := take_ok hp0 x st h.2
      exact p' m' H' c y st' q1 q2
    · exact p' m' H' c x st q1 q2
  | bad => exact p
/-- the same for a call's wish -/
theorem fin_okX {g : Gx} {W : WX} {S : Store} {m : Nat → Addr} {H : Hp} {σ : L2.St} {K : T → Store → (Nat → Addr) → Hp → Prop} {r : R T} (hp0 : 0 < S.length) (p : Post g W S m H σ K (fin S.length r)) : Post g W S m H σ (fun _ _ _ _ => True) r := by
  cases r with
  | ok t S' => exact fun _ _ _ _ => trivial
  | exc e S' =>
    intro m' H' c x st q1 q2
    have p' : Post g W S m H σ K (finishX S.length e S') := p
    unfold finishX at p'
    split at p'
    · rename_i h
      rw [Bool.and_eq_true] at h
      obtain ⟨y, st', ll⟩ := take_ok hp0 x st h.2
      exact p' m' H' c y st' q1 q2
    · exact p' m' H' c x st q1 q2
  | bad => exact p

/-! ### the readings -/
def RdE (g : Gx) (W : WX) (E : Env → Store → R T) : TE := fun σ H Q => ∃ S m ρ, StRel g S m H ∧ EnvRel g H m S.length ρ σ ∧ Post g W S m H σ (KE g H Q) (E ρ S)
def RdB (g : Gx) (W : WX) (B : Env → Store → R Bool) : TT := fun σ H Q => ∃ S m ρ, StRel g S m H ∧ EnvRel g H m S.length ρ σ ∧ Post g W S m H σ (fun k _ _ H' => Q k H') (B ρ S)
def RdM (g : Gx) (W : WX) (M : Env → Store → R (List D)) : TA := fun σ H Q => ∃ S m ρ, StRel g S m H ∧ EnvRel g H m S.length ρ σ ∧ Post g W S m H σ (fun ds S' m' H' => ∀ vs, EncAll g H' m' S'.length ds vs → Q vs H') (M ρ S)
/-- values that need no place -/
inductive EncTs (g : Gx) (H0 H : Hp) (m : Nat → Addr) (n : Nat) : List T → List V → Prop
  | nil : EncTs g H0 H m n [] []
  | cons {t : T} {v : V} {ts : List T} {vs : List V} : FreT H0 t v → EncT g H m n t v → EncTs g H0 H m n ts vs → EncTs g H0 H m n (t :: ts) (v :: vs)
def RdTs (g : Gx) (W : WX) (M : Env → Store → R (List T)) : TA := fun σ H Q => ∃ S m ρ, StRel g S m H ∧ EnvRel g H m S.length ρ σ ∧ Post g W S m H σ (fun ts S' m' H' => ∀ vs, EncTs g H H' m' S'.length ts vs → Q vs H') (M ρ S)
theorem PE.imp {X : Cx} {e : Expr} {t t' : TE} (h : PE X e t) (i : ∀ σ H Q, t' σ H Q → t σ H Q) : PE X e t' := ⟨fun pins s σ H Q I q => h.run pins s σ H Q I (i σ H Q q)⟩
theorem PT.imp {X : Cx} {e : Expr} {t t' : TT} (h : PT X e t) (i : ∀ σ H Q, t' σ H Q → t σ H Q) : PT X e t' := ⟨fun pins s σ H Q I q => h.run pins s σ H Q I (i σ H Q q)⟩
theorem PW.imp {X : Cx} {e : Expr} {t t' : TT} (h : PW X e t) (i : ∀ σ H Q, t' σ H Q → t σ H Q) : PW X e t' := ⟨fun wh pins s σ H Q I q => h.run wh pins s σ H Q I (i σ H Q q)⟩
theorem PA.imp {X : Cx} {es : List Expr} {t t' : TA} (h : PA X es t) (i : ∀ σ H Q, t' σ H Q → t σ H Q) : PA X es t' := ⟨fun pos pins s σ H Q I q => h.run pos pins s σ H Q I (i σ H Q q)⟩
theorem PS.imp {X : Cx} {e : Stmt} {t t' : TS} (h : PS X e t) (i : ∀ D σ H, t' D σ H → t D σ H) : PS X e t' := ⟨fun pins s σ H D I q => h.run pins s σ H D I (i D σ H q)⟩
theorem PSs.imp {X : Cx} {e : List Stmt} {t t' : TS} (h : PSs X e t) (i : ∀ D σ H, t' D σ H → t D σ H) : PSs X e t' := ⟨fun pins s σ H D I q => h.run pins s σ H D I (i D σ H q)⟩
theorem PI.imp {X : Cx} {tg e : Expr} {t t' : TI} (h : PI X tg e t) (i : ∀ σ H Q, t' σ H Q → t σ H Q) : PI X tg e t' := ⟨fun pins s σ H Q I q => h.run pins s σ H Q I (i σ H Q q)⟩
section
variable {X : Cx} {u : Tb} {W : WX}
/-- a part, at its own start, under a wish about its value and the store behind it -/
theorem sub {E : Env → Store → R T} {σ : L2.St} {H : Hp} {Q : VK} {S : Store} {m : Nat → Addr} {ρ : Env} {g : Gx} (st : StRel g S m H) (en : EnvRel g H m S.length ρ σ)
    (p : Post g W S m H σ (fun t S1 m1 H1 => ∀ v, FreT H t v → EncT g H1 m1 S1.length t v → Q v H1) (E ρ S)) : RdE g W E σ H Q := ⟨S, m, ρ, st, en, p⟩
/-- a, then b -/
theorem sub2 {Ea Eb : Env → Store → R T} {σ : L2.St} {H : Hp} {S : Store} {m : Nat → Addr} {ρ : Env} {g : Gx} {R2' : V → V → Hp → Prop} {α : Type} {f : T → T → Store → R α} {K : α → Store → (Nat → Addr) → Hp → Prop} (st : StRel g S m H) (en : EnvRel g H m S.length ρ σ)
    (p : Post g W S m H σ K ((Ea ρ S).bind fun ta S1 => (Eb ρ S1).bind fun tb S2 => f ta tb S2))
    (h : ∀ ta tb S2 m2 H2 x y, Ext g S m H S2 m2 H2 → StRel g S2 m2 H2 → EncT g H2 m2 S2.length ta x → EncT g H2 m2 S2.length tb y → Post g W S2 m2 H2 σ K (f ta tb S2) → R2' x y H2) :
    RdE g W Ea σ H fun x H1 => RdE g W Eb σ H1 fun y H2 => R2' x y H2 :=
  sub st en (p.bind.mono fun ta S1 m1 H1 x1 st1 p1 v fv ev => sub st1 (x1.env en) (p1.bind.mono fun tb S2 m2 H2 x2 st2 p2 w fw ew => h ta tb S2 m2 H2 v w (x1.trans x2) st2 (x2.encT st1 ev) ew p2))

/-- two values to one -/
def rOp (g : Gx) (f : T → T → Store → Option T) : R2 := fun x y H Q => ∃ S m ta tb t, StRel g S m H ∧ EncT g H m S.length ta x ∧ EncT g H m S.length tb y ∧ f ta tb S = some t ∧ ∀ m' H' v, Ext g S m H S m' H' → StRel g S m' H' → FreT H t v → EncT g H' m' S.length t v → Q v H'
theorem pe_bin2 {op : Operator} {a b : Expr} {Ea Eb : Env → Store → R T} {f : T → T → Store → Option T} {pos : Pos} (ho : OpR X (binaryOp op) (rOp (gof u X) f)) (ha : PE X a (RdE (gof u X) W Ea)) (hb : PE X b (RdE (gof u X) W Eb)) :
    PE X (.BinOp a op b pos) (RdE (gof u X) W fun ρ S => (Ea ρ S).bind fun ta S1 => (Eb ρ S1).bind fun tb S2 => opt (f ta tb S2) S2) := by
  refine PE.imp (pe_op ho ha hb) ?_
  rintro σ H Q ⟨S, m, ρ, st, en, p⟩
  refine sub2 st en p fun ta tb S2 m2 H2 x y x2 st2 e1 e2 p2 => ?_
  obtain ⟨t, e, k⟩ := p2.opt
  exact ⟨S2, m2, ta, tb, t, st2, e1, e2, e, fun m' H' v y st' fr en' => k m' H' y st' v (FreT.back x2 fr) en'⟩

/-! ### names, constants -/
theorem pe_v {i : Nat} {x : Str} {pos : Pos} (hN : X.N[i]? = some x) (hv : Vis X.env.scope x) (hd : (x == ("__debug__" : Str)) = false) (hcd : (x == ("__classdict__" : Str)) = false) {C : Calls} : PE X (.Name x pos) (RdE (gof u X) W (ev C (.v i)).E) := by
  refine PE.imp (pe_var hN hv hd hcd) ?_
  rintro σ H Q ⟨S, m, ρ, st, en, p⟩
  unfold ev at p
  change Post _ _ _ _ _ _ _ (match ρ[i]? with | some (some d) => R.ok (T.v d) S | _ => R.bad) at p
  split at p
  · rename_i d e
    obtain ⟨v, e1, h1⟩ := en.at_ i d e
    exact ⟨v, e1, (Post.here st p) v trivial h1⟩
  · exact p.elim
def cV : D → Option V
  | .non => some .non
  | .bl b => some (.bl b)
  | .int i => some (.int i)
  | .str s => some (.str s)
  | _ => none
theorem cV_enc {g : Gx} {H : Hp} {m : Nat → Addr} {n : Nat} {d : D} {v : V} (h : cV d = some v) : Enc g H m n d v := by
  cases d <;> first | (cases h; rfl) | cases h
theorem pe_k {e : Expr} {d : D} {v : V} (hv : cV d = some v) (h : PE X e (tC v)) {C : Calls} : PE X e (RdE (gof u X) W (ev C (.c d)).E) := by
  refine PE.imp h ?_
  rintro σ H Q ⟨S, m, ρ, st, en, p⟩
  unfold ev at p
  exact (Post.here st p) v trivial (cV_enc hv)
theorem pe_gc {e : Expr} {d : D} {x : Str} {v : V} (hv : cV d = some v) (h : PE X e (tC v)) {C : Calls} : PE X e (RdE (gof u X) W (ev C (.gc x d)).E) := by
  refine PE.imp h ?_
  rintro σ H Q ⟨S, m, ρ, st, en, p⟩
  unfold ev at p
  exact (Post.here st p) v trivial (cV_enc hv)

/-! ### rows of values -/
def noStar : Expr → Bool
  | .Starred .. => false
  | _ => true
theorem star_ok {e : Expr} {es : List Expr} {env : PySem.Env} (h : noStar e = true) : starEach (e :: es) env = (false, eval e env) :: starEach es env := by
  cases e <;> first | rfl | cases h
theorem pa_m0 : PA X [] (RdM (gof u X) W (evM [])) := by
  refine PA.imp pa_nil ?_
  rintro σ H Q ⟨S, m, ρ, st, en, p⟩
  exact (Post.here st p) [] EncAll.nil
theorem evM_cons {e : Sm} {es : List Sm} {ρ : Env} {S : Store} : evM (e :: es) ρ S = ((e.E ρ S).bind mat).bind fun d S2 => (evM es ρ S2).bind fun ds S3 => .ok (d :: ds) S3 := by
  rw [R.bind_assoc]
  rfl
theorem pa_m1 {e : Expr} {es : List Expr} {sm : Sm} {sms : List Sm} (hn : noStar e = true) (he : PE X e (RdE (gof u X) W sm.E)) (hs : PA X es (RdM (gof u X) W (evM sms))) : PA X (e :: es) (RdM (gof u X) W (evM (sm :: sms))) := by
  refine PA.imp (pa_cons he hs (star_ok hn)) ?_
  rintro σ H Q ⟨S, m, ρ, st, en, p⟩
  rw [evM_cons] at p
  refine sub st en (p.bind.mat.mono fun t S1 m1 H1 x1 st1 p1 v fv ev => ?_)
  obtain ⟨d, S2, m2, x2, st2, ed, p2⟩ := p1 v fv ev
  refine ⟨S2, m2, ρ, st2, x2.env en, p2.bind.mono fun ds S3 m3 H3 x3 st3 p3 vs hvs => ?_⟩
  exact (Post.here st3 p3) (v :: vs) (EncAll.cons (x3.enc ed) hvs)
theorem pa_t0 : PA X [] (RdTs (gof u X) W (evTs [])) := by
  refine PA.imp pa_nil ?_
  rintro σ H Q ⟨S, m, ρ, st, en, p⟩
  exact (Post.here st p) [] .nil
theorem EncTs.up {g : Gx} {H0 : Hp} {S S' : Store} {m m' : Nat → Addr} {H H' : Hp} (x : Ext g S m H S' m' H') (st : StRel g S m H) {ts : List T} {vs : List V} (h : EncTs g H0 H m S.length ts vs) : EncTs g H0 H' m' S'.length ts vs := by
  induction h with
  | nil => exact .nil
  | cons f e _ ih => exact .cons f (x.encT st e) ih
theorem EncTs.back {g : Gx} {S0 S1 : Store} {m0 m1 : Nat → Addr} {H0 H1 H : Hp} {m : Nat → Addr} {n : Nat} (x : Ext g S0 m0 H0 S1 m1 H1) {ts : List T} {vs : List V} (h : EncTs g H1 H m n ts vs) : EncTs g H0 H m n ts vs := by
  induction h with
  | nil => exact .nil
  | cons f e _ ih => exact .cons (FreT.back x f) e ih
theorem pa_t1 {e : Expr} {es : List Expr} {sm : Sm} {sms : List Sm} (hn : noStar e = true) (he : PE X e (RdE (gof u X) W sm.E)) (hs : PA X es (RdTs (gof u X) W (evTs sms))) : PA X (e :: es) (RdTs (gof u X) W (evTs (sm :: sms))) := by
  refine PA.imp (pa_cons he hs (star_ok hn)) ?_
  rintro σ H Q ⟨S, m, ρ, st, en, p⟩
  change Post _ _ _ _ _ _ _ ((sm.E ρ S).bind fun t S1 => (evTs sms ρ S1).bind fun ts S2 => .ok (t :: ts) S2) at p
  refine sub st en (p.bind.mono fun t S1 m1 H1 x1 st1 p1 v fv ev => ?_)
  refine ⟨S1, m1, ρ, st1, x1.env en, p1.bind.mono fun ts S2 m2 H2 x2 st2 p2 vs hvs => ?_⟩
  exact (Post.here st2 p2) (v :: vs) (.cons fv (x2.encT st1 ev) (EncTs.back x1 hvs))
theorem lim_le : lim ≤ sizeLine := by rw [sizeLine_eq]; decide
theorem pe_tupD {es : List Expr} {sms : List Sm} {k : Nat} {pos : Pos} (h : PA X es (RdM (gof u X) W (evM sms))) : PE X (.Tuple es k pos) (RdE (gof u X) W fun ρ S => (evM sms ρ S).bind fun ds S1 => if ds.length ≤ lim then .ok (.v (.tup ds)) S1 else .bad) := by
  refine PE.imp (pe_tupF h) ?_
  rintro σ H Q ⟨S, m, ρ, st, en, p⟩
  refine ⟨S, m, ρ, st, en, p.bind.mono fun ds S1 m1 H1 x1 st1 p1 vs hvs => ?_⟩
  split at p1
  · rename_i hl
    refine ⟨Nat.le_trans (by rw [hvs.length]; exact hl) lim_le, fun q o hq ho => ?_⟩
    obtain ⟨y, st2⟩ := alloc_ok (o := .frz o (.tup vs)) st1 hq
    exact p1 m1 _ y st2 _ trivial ⟨q, vs, rfl, PlT.new ho, y.encAll hvs⟩
  · exact p1.elim
theorem pe_lstD {es : List Expr} {sms : List Sm} {pos : Pos} (h : PA X es (RdM (gof u X) W (evM sms))) : PE X (.List es pos) (RdE (gof u X) W fun ρ S => (evM sms ρ S).bind fun ds S1 => if ds.length ≤ lim then .ok (.l ds) S1 else .bad) := by
  refine PE.imp (pe_lst h) ?_
  rintro σ H Q ⟨S, m, ρ, st, en, p⟩
  refine ⟨S, m, ρ, st, en, p.bind.mono fun ds S1 m1 H1 x1 st1 p1 vs hvs => ?_⟩
  split at p1
  · rename_i hl
    refine ⟨Nat.le_trans (by rw [hvs.length]; exact hl) lim_le, fun q hq => ?_⟩
    obtain ⟨y, st2⟩ := alloc_ok (o := .lst vs) st1 hq
    refine p1 m1 _ y st2 _ (fun r e => ?_) ⟨q, vs, rfl, upd_same, y.encAll hvs, fun k h0 hk e => ?_⟩
    · cases e
      exact x1.free (Fr.of hq)
    · exact st1.apart hq k h0 hk e
  · exact p1.elim
end
end Ev
-- EvS3
set_option Elab.async false
set_option linter.all false
set_option maxRecDepth 100000
set_option maxHeartbeats 4000000
/-! EvS3: operators. -/
namespace Ev
open PySem PySem.Spec PyProof.Rows L2
theorem tuple_mulS (l : Addr) (items : Array Value) (n : Nat) (dd : Option Addr) (sl : Array (Option Value)) (x : Int) (u : Tok) (c0 : (decide (x < -(2 ^ 63)) || decide (x ≥ 2 ^ 63)) = false) (c1 : (items.isEmpty || x == 1) = true) :
    Meets (Builtin.«tuple.__mul__» ⟨[.ref l, .int x u], []⟩) (fun _ R s => s.heap.get? l = some { cls := .type "tuple", dict := dd, data := .seq items n, slots := sl } ∧ R (.ok (.ret (Value.ref l))) s) :=
  .of_wp fun prog w A R s h => by
    obtain ⟨hp, g, d, tk, os⟩ := s
    obtain ⟨hl, h⟩ := h
    have f1 := AutoSeq1.idx_int
    wp_walk using wpAny_loadPart' hl
    repeat (first
      | (refine wpAny_ite_false (decide_eq_false (by rw [c0]; exact Bool.false_ne_true)) ?_; wp_walk using wpAny_loadPart' hl)
      | (refine wpAny_ite_true (decide_eq_true c1) ?_; wp_walk using wpAny_loadPart' hl))
    exact ⟨_, rfl, h⟩
theorem tuple_mul0 (l : Addr) (items : Array Value) (n : Nat) (dd : Option Addr) (sl : Array (Option Value)) (x : Int) (u : Tok) (c0 : (decide (x < -(2 ^ 63)) || decide (x ≥ 2 ^ 63)) = false) (c1 : (items.isEmpty || x == 1) = false) (c2 : (decide (x ≤ 0) || items.isEmpty) = true) :
    Meets (Builtin.«tuple.__mul__» ⟨[.ref l, .int x u], []⟩) (fun _ R s => s.heap.get? l = some { cls := .type "tuple", dict := dd, data := .seq items n, slots := sl } ∧
      R (.ok (.ret (Value.ref s.heap.objs.size))) { s with heap := s.heap.push { cls := Value.type "tuple", data := Data.seq #[] }, toks := s.toks }) :=
  .of_wp fun prog w A R s h => by
    obtain ⟨hp, g, d, tk, os⟩ := s
    obtain ⟨hl, h⟩ := h
    have f1 := AutoSeq1.idx_int
    wp_walk using wpAny_loadPart' hl
    repeat (first
      | (refine wpAny_ite_false (decide_eq_false (by rw [c0]; exact Bool.false_ne_true)) ?_; wp_walk using wpAny_loadPart' hl)
      | (refine wpAny_ite_false (decide_eq_false (by rw [c1]; exact Bool.false_ne_true)) ?_; wp_walk using wpAny_loadPart' hl)
      | (refine wpAny_ite_true (decide_eq_true c2) ?_; wp_walk using wpAny_loadPart' hl))
    exact ⟨_, rfl, h⟩
/-- tuple * int, any int -/
def rRepA (K : PySem.W.Frag) : R2 := fun x y H Q => ∃ l k xs, x = .ref l ∧ y = .int k ∧ SqT K H l xs ∧ -(2 ^ 63) ≤ k ∧ k ≤ 1000 ∧ xs.length ≤ 1000 ∧
  ((xs = [] ∨ k = 1) → Q (.ref l) H) ∧ (¬ (xs = [] ∨ k = 1) → ∀ p o, H p = none → Obj.dict o = none → Q (.ref p) (upd H p (.frz o (.tup (List.replicate k.toNat xs).flatten))))
theorem op_repA {X : Cx} : OpR X (binaryOp .Mult) (rRepA X.K) := by
  intro pins s σ H x y v u Q I rx ry h
  obtain ⟨l, k, xs, e1, e2, hT, h0, h2, hz, q1, q2⟩ := h
  subst e1; subst e2
  cases rx
  obtain ⟨t, rfl⟩ := ry
  obtain ⟨its, r, ⟨⟨cls, dd, data, sl⟩, ho, hc, n, hd⟩, hs⟩ := I.tuple hT
  simp only at hc hd
  subst hc hd
  have hle : its.length = xs.length := r.length.symm
  have c0 : (decide (k < -(2 ^ 63)) || decide (k ≥ 2 ^ 63)) = false := by
    rw [decide_eq_false (by omega), decide_eq_false (by omega)] <;> rfl
  have hi : its.toArray.isEmpty = decide (xs = []) := by
    cases its with
    | nil =>
      cases r
      rfl
    | cons a b =>
      cases r
      rfl
  by_cases hsame : xs = [] ∨ k = 1
  · have c1 : (its.toArray.isEmpty || k == 1) = true := by
      rw [hi]
      rcases hsame with e | e
      · rw [decide_eq_true e, Bool.true_or]
      · subst e
        simp
    refine wpAny_binaryOp_repeat_ref (T := "tuple") (U := "int") (by decide) ⟨_, ho, rfl⟩ (fun s' => typeIs_int s' k t) noFill_tuple_mul F.fills_int_mul F.slot_int_rmul repeat_tuple F.slot_int_index.lookup
      (call_meets F.slot_int_rmul (typeIs_int s k t) F.entry_int_rmul (F.args_int_rmul_2 _ _) (int_rmul_tuple k t l its.toArray n dd sl)
        ⟨ho, rfl, ⟨_, ho, rfl⟩, call_meets F.slot_tuple_mul ⟨_, ho, rfl⟩ F.entry_tuple_mul (F.args_tuple_mul_2 _ _) (tuple_mulS l its.toArray n dd sl k t c0 c1) ⟨ho, ?_⟩⟩)
    exact ⟨.ref l, H, I, rfl, q1 hsame⟩
  · have q2' := q2 hsame
    have c1 : (its.toArray.isEmpty || k == 1) = false := by
      rw [hi, decide_eq_false (fun e => hsame (.inl e)), Bool.false_or]
      exact beq_eq_false_iff_ne.mpr (fun e => hsame (.inr e))
    have a1 : k ≠ 1 := fun e => hsame (.inr e)
    by_cases hk : k ≤ 0
    · have c2 : (decide (k ≤ 0) || its.toArray.isEmpty) = true := by
        rw [decide_eq_true hk, Bool.true_or]
      have e0 : (List.replicate k.toNat xs).flatten = [] := by
        have : k.toNat = 0 := by omega
        rw [this]
        rfl
      rw [e0] at q2'
      refine wpAny_binaryOp_repeat_ref (T := "tuple") (U := "int") (by decide) ⟨_, ho, rfl⟩ (fun s' => typeIs_int s' k t) noFill_tuple_mul F.fills_int_mul F.slot_int_rmul repeat_tuple F.slot_int_index.lookup
        (call_meets F.slot_int_rmul (typeIs_int s k t) F.entry_int_rmul (F.args_int_rmul_2 _ _) (int_rmul_tuple k t l its.toArray n dd sl)
          ⟨ho, rfl, ⟨_, ho, rfl⟩, call_meets F.slot_tuple_mul ⟨_, ho, rfl⟩ F.entry_tuple_mul (F.args_tuple_mul_2 _ _) (tuple_mul0 l its.toArray n dd sl k t c0 c1 c2) ⟨ho, ?_⟩⟩)
      exact ⟨.ref s.heap.objs.size, _, laidT (us := []) (xs := []) (t' := s.toks) I .nil (Nat.zero_le _), rfl, q2' _ _ (I.hok.fresh (Nat.le_refl _)) rfl⟩
    · have hn : its ≠ [] := fun e => hsame (.inl (by
        rw [e] at hle
        exact List.eq_nil_of_length_eq_zero hle.symm))
      have hie : its.toArray.isEmpty = false := by
        cases its with
        | nil => exact absurd rfl hn
        | cons a b => rfl
      have hsz0 : its.toArray.size = xs.length := by rw [List.size_toArray, hle]
      have hm : ((its.toArray.size : Nat) : Int) * k ≤ 1000000 := by
        rw [hsz0]
        have a1 : ((xs.length : Nat) : Int) * k ≤ 1000 * k := Int.mul_le_mul_of_nonneg_right (by omega) (by omega)
        omega
      have flen : (List.replicate k.toNat its).flatten.length ≤ sizeLine := by
        rw [PyProof.Rows.lm_len_rep_flat, hle, sizeLine_eq]
        have a1 : k.toNat * xs.length ≤ 1000 * 1000 := Nat.mul_le_mul (by omega) hz
        omega
      have c2 : (decide (k ≤ 0) || its.toArray.isEmpty) = false := by
        rw [hie, Bool.or_false]
        exact decide_eq_false hk
      have c4 : Builtin.Tuple.tupleTooMany (((its.toArray.size : Nat) : Int) * k) = false := by
        unfold Builtin.Tuple.tupleTooMany
        rw [sizeLine_eq]
        exact decide_eq_false (by omega)
      refine wpAny_binaryOp_repeat_ref (T := "tuple") (U := "int") (by decide) ⟨_, ho, rfl⟩ (fun s' => typeIs_int s' k t) noFill_tuple_mul F.fills_int_mul F.slot_int_rmul repeat_tuple F.slot_int_index.lookup
        (call_meets F.slot_int_rmul (typeIs_int s k t) F.entry_int_rmul (F.args_int_rmul_2 _ _) (int_rmul_tuple k t l its.toArray n dd sl)
          ⟨ho, rfl, ⟨_, ho, rfl⟩, call_meets F.slot_tuple_mul ⟨_, ho, rfl⟩ F.entry_tuple_mul (F.args_tuple_mul_2 _ _) (tuple_mulW l its.toArray n dd sl k t c0 c1 c2 (by omega) c4 (by rw [size_rep, List.size_toArray]; exact flen)) ⟨ho, ?_⟩⟩)
      rw [size_rep]
      exact ⟨.ref s.heap.objs.size, _, laidT (t' := s.toks) I (r.rep k.toNat) (by rw [PyProof.Rows.lm_len_rep_flat, sizeLine_eq]; have a1 : k.toNat * xs.length ≤ 1000 * 1000 := Nat.mul_le_mul (by omega) hz; omega), rfl, q2' _ _ (I.hok.fresh (Nat.le_refl _)) rfl⟩
/-- t + u -/
def rCatF (K : PySem.W.Frag) : R2 := fun x y H Q => ∃ a b xs ys, x = .ref a ∧ y = .ref b ∧ SqT K H a xs ∧ SqT K H b ys ∧ xs.length + ys.length ≤ sizeLine ∧
  (xs = [] → Q (.ref b) H) ∧ (xs ≠ [] → ys = [] → Q (.ref a) H) ∧ (xs ≠ [] → ys ≠ [] → ∀ p o, H p = none → Obj.dict o = none → Q (.ref p) (upd H p (.frz o (.tup (xs ++ ys)))))
theorem op_catF {X : Cx} : OpR X (binaryOp .Add) (rCatF X.K) := by
  intro pins s σ H x y v u Q I rx ry h
  obtain ⟨a, b, xs, ys, rfl, rfl, ha, hb, hz, q0, q1, q2⟩ := h
  cases rx
  cases ry
  obtain ⟨its, r1, p1, _⟩ := I.tuple ha
  obtain ⟨its2, r2, p2, _⟩ := I.tuple hb
  by_cases hx : xs = []
  · subst hx
    cases r1
    exact cat_tup0 p1 p2 ⟨.ref b, H, I, rfl, q0 rfl⟩
  · refine HT.cat_tup p1 p2 (fun z => hx (r1.nil_iff.mp z)) (fun z => ⟨.ref a, H, I, rfl, q1 hx (r2.nil_iff.mp z)⟩) (fun z => ?_) (by rw [← r1.length, ← r2.length]; exact hz)
    exact ⟨.ref s.heap.objs.size, _, laidT (t' := s.toks) I (r1.append r2) (by rw [List.length_append]; exact hz), rfl, q2 hx (fun w => z (r2.nil_iff.mpr w)) _ _ (I.hok.fresh (Nat.le_refl _)) rfl⟩

/-! ### what stands for a list, a tuple, a dict -/
section
variable {g : Gx} {S : Store} {m : Nat → Addr} {H : Hp} {t : T} {v : V} {xs : List D}
theorem asM_ok (st : StRel g S m H) (en : EncT g H m S.length t v) (e : asM t S = some xs) : ∃ p vs, v = .ref p ∧ H p = some (.lst vs) ∧ EncAll g H m S.length xs vs := by
  cases t with
  | l ys =>
    cases e
    obtain ⟨p, vs, e, h1, h2, _⟩ := en
    exact ⟨p, vs, e, h1, h2⟩
  | t kvs => cases e
  | v d =>
    cases d with
    | ref k =>
      obtain ⟨h1, h2⟩ := (show k < S.length ∧ v = V.ref (m k) from en)
      have e1 := List.getElem?_eq_getElem h1
      have cr := st.cell k _ e1
      have e' : (match S[k]? with | some (.lst _ xs) => some xs | _ => none) = some xs := e
      rw [e1] at e'
      revert e' cr
      generalize S[k] = c
      intro cr e'
      cases c with
      | lst b ys =>
        cases e'
        obtain ⟨vs, q1, q2⟩ := cr
        exact ⟨_, vs, h2, q1, q2⟩
      | ro ys => cases e'
      | dT b ys => cases e'
    | _ => cases e
theorem asL_ok (st : StRel g S m H) (en : EncT g H m S.length t v) (e : asL t S = some xs) : ∃ p vs, v = .ref p ∧ SqL g.K H p vs ∧ EncAll g H m S.length xs vs := by
  cases t with
  | l ys =>
    cases e
    obtain ⟨p, vs, e, h1, h2, _⟩ := en
    exact ⟨p, vs, e, SqL.of h1, h2⟩
  | t kvs => cases e
  | v d =>
    cases d with
    | ref k =>
      obtain ⟨h1, h2⟩ := (show k < S.length ∧ v = V.ref (m k) from en)
      have e1 := List.getElem?_eq_getElem h1
      have cr := st.cell k _ e1
      have e' : (match S[k]? with | some (.lst _ xs) => some xs | some (.ro xs) => some xs | _ => none) = some xs := e
      rw [e1] at e'
      revert e' cr
      generalize S[k] = c
      intro cr e'
      cases c with
      | lst b ys =>
        cases e'
        obtain ⟨vs, q1, q2⟩ := cr
        exact ⟨_, vs, h2, SqL.of q1, q2⟩
      | ro ys =>
        cases e'
        obtain ⟨vs, q1, q2⟩ := cr
        refine ⟨_, vs, h2, ?_, q2⟩
        rcases q1 with ⟨o, q⟩ | q
        · exact .inl (.inr ⟨o, q⟩)
        · rcases q with (q | ⟨o, q⟩) | q
          · cases q
          · cases q
          · exact .inr q
      | dT b ys => cases e'
    | _ => cases e
theorem asQ_ok (st : StRel g S m H) (en : EncT g H m S.length t v) (e : asQ t S = some xs) : ∃ p vs, v = .ref p ∧ (SqL g.K H p vs ∨ (PlT g.K H p vs ∧ t = .v (.tup xs))) ∧ EncAll g H m S.length xs vs := by
  have base : asL t S = some xs → ∃ p vs, v = .ref p ∧ (SqL g.K H p vs ∨ (PlT g.K H p vs ∧ t = .v (.tup xs))) ∧ EncAll g H m S.length xs vs := fun e => by
    obtain ⟨p, vs, h1, h2, h3⟩ := asL_ok st en e
    exact ⟨p, vs, h1, .inl h2, h3⟩
  cases t with
  | v d =>
    cases d with
    | tup ys =>
      cases e
      obtain ⟨a, vs, h1, h2, h3⟩ := en
      exact ⟨a, vs, h1, .inr ⟨h2, rfl⟩, h3⟩
    | _ => exact base e
  | _ => exact base e
theorem asT_ok {kvs : List (D × D)} (st : StRel g S m H) (en : EncT g H m S.length t v) (e : asT t S = some kvs) : ∃ p, v = .ref p ∧ DTrel g H m S.length p kvs := by
  cases t with
  | l ys => cases e
  | t ys =>
    cases e
    obtain ⟨p, e, h1, _⟩ := en
    exact ⟨p, e, h1⟩
  | v d =>
    cases d with
    | ref k =>
      obtain ⟨h1, h2⟩ := (show k < S.length ∧ v = V.ref (m k) from en)
      have e1 := List.getElem?_eq_getElem h1
      have cr := st.cell k _ e1
      have e' : (match S[k]? with | some (.dT _ xs) => some xs | _ => none) = some kvs := e
      rw [e1] at e'
      revert e' cr
      generalize S[k] = c
      intro cr e'
      cases c with
      | lst b ys => cases e'
      | ro ys => cases e'
      | dT b ys =>
        cases e'
        exact ⟨_, h2, cr⟩
    | _ => cases e
end

/-! ### ints -/
theorem mulOk_ok {i j : Int} (h : mulOk i j = true) : IntMulOk i j := by
  unfold mulOk at h
  rw [Bool.or_eq_true, Bool.or_eq_true, decide_eq_true_eq, decide_eq_true_eq, Bool.and_eq_true, decide_eq_true_eq, decide_eq_true_eq] at h
  have z : ((2 : Nat) ^ 64 : Nat) = 18446744073709551616 := by decide
  have zi : ((2 : Int) ^ 64 : Int) = 18446744073709551616 := by decide
  rcases h with (h | h) | ⟨h1, h2⟩
  · refine CMul.ok (.inl ⟨?_, ?_⟩) <;> rw [zi] <;> omega
  · refine CMul.ok (.inr ⟨?_, ?_⟩) <;> rw [zi] <;> omega
  · exact CMulW.ok (wide_mul h1 h2 (by decide) (by decide) (by decide))
section
variable {X : Cx}
def CMulE (i j : Int) : Prop := mulOk i j = true
theorem op_mulE : OpR X (binaryOp .Mult) (rI CMulE fun i j => .int (i * j)) := opI fun i j _ _ _ _ _ hc q => mul_int q (mulOk_ok hc)
theorem iop_mulE : OpR X (inplaceOp .Mult) (rI CMulE fun i j => .int (i * j)) := opI fun i j _ _ _ _ _ hc q => imul_int q (mulOk_ok hc)
def pyOp : Op2 → Operator
  | .add => .Add
  | .sub => .Sub
  | .mul => .Mult
  | .mod => .Mod
  | .fdiv => .FloorDiv
  | .pow => .Pow
/-- ints by binI -/
def rBinI (o : Op2) : R2 := fun x y H Q => ∃ i j k, x = .int i ∧ y = .int j ∧ binI o i j = some k ∧ Q (.int k) H
theorem fdiv_ok {j : Int} (h : 0 < j ∧ j.natAbs < 2 ^ 8000) : CDivW 0 j := wide_div (i := 0) h.1 h.2 (by decide) (by decide)
theorem op_binI (o : Op2) : OpR X (binaryOp (pyOp o)) (rBinI o) := by
  intro pins s σ H x y v u Q I rx ry h
  obtain ⟨i, j, k, e1, e2, e, q⟩ := h
  cases o with
  | add =>
    cases e
    exact op_add pins s σ H x y v u Q I rx ry ⟨i, j, e1, e2, q⟩
  | sub =>
    cases e
    exact op_sub pins s σ H x y v u Q I rx ry ⟨i, j, e1, e2, q⟩
  | mul =>
    have e' : (if mulOk i j then some (i * j) else none) = some k := e
    split at e'
    · rename_i hc
      cases e'
      exact op_mulE pins s σ H x y v u Q I rx ry ⟨i, j, e1, e2, hc, q⟩
    · cases e'
  | mod =>
    have e' : (if 0 < j then some (i % j) else none) = some k := e
    split at e'
    · rename_i hc
      cases e'
      exact op_mod pins s σ H x y v u Q I rx ry ⟨i, j, e1, e2, hc, q⟩
    · cases e'
  | fdiv =>
    have e' : (if 0 < j ∧ j.natAbs < 2 ^ 8000 then some (i / j) else none) = some k := e
    split at e'
    · rename_i hc
      cases e'
      exact op_fdivW pins s σ H x y v u Q I rx ry ⟨i, j, e1, e2, fdiv_ok hc, q⟩
    · cases e'
  | pow =>
    have e' : (if 0 ≤ j ∧ j ≤ 1000000 ∧ i.natAbs < 2 ^ 64 then some (i ^ j.toNat) else none) = some k := e
    split at e'
    · rename_i hc
      cases e'
      exact op_pow pins s σ H x y v u Q I rx ry ⟨i, j, e1, e2, hc, q⟩
    · cases e'
theorem iop_binI (o : Op2) (ho : o ≠ .pow) : OpR X (inplaceOp (pyOp o)) (rBinI o) := by
  intro pins s σ H x y v u Q I rx ry h
  obtain ⟨i, j, k, e1, e2, e, q⟩ := h
  cases o with
  | add =>
    cases e
    exact iop_add pins s σ H x y v u Q I rx ry ⟨i, j, e1, e2, q⟩
  | sub =>
    cases e
    exact iop_sub pins s σ H x y v u Q I rx ry ⟨i, j, e1, e2, q⟩
  | mul =>
    have e' : (if mulOk i j then some (i * j) else none) = some k := e
    split at e'
    · rename_i hc
      cases e'
      exact iop_mulE pins s σ H x y v u Q I rx ry ⟨i, j, e1, e2, hc, q⟩
    · cases e'
  | mod =>
    have e' : (if 0 < j then some (i % j) else none) = some k := e
    split at e'
    · rename_i hc
      cases e'
      exact iop_mod pins s σ H x y v u Q I rx ry ⟨i, j, e1, e2, hc, q⟩
    · cases e'
  | fdiv =>
    have e' : (if 0 < j ∧ j.natAbs < 2 ^ 8000 then some (i / j) else none) = some k := e
    split at e'
    · rename_i hc
      cases e'
      exact iop_fdivW pins s σ H x y v u Q I rx ry ⟨i, j, e1, e2, fdiv_ok hc, q⟩
    · cases e'
  | pow => exact absurd rfl ho

/-! ### two values -/
theorem op_bin2 {g : Gx} (hK : g.K = X.K) (o1 : Op2) : OpR X (binaryOp (pyOp o1)) (rOp g (bin2 o1)) := by
  intro pins s σ H x y v u Q I rx ry h
  obtain ⟨S, m, ta, tb, t, st, ea, eb, e, k⟩ := h
  unfold bin2 at e
  split at e
  · -- tuple * int
    rename_i xs j
    split at e
    · rename_i hc
      cases e
      obtain ⟨a, vs, h1, h2, h3⟩ := ea
      have h4 : y = .int j := eb
      have hl := h3.length
      refine op_repA pins s σ H x y v u Q I rx ry ⟨a, j, vs, h1, h4, hK ▸ h2.sq, hc.1, hc.2.1, by rw [hl]; exact hc.2.2, fun hs => ?_, fun hs p o hp ho => ?_⟩
      · refine k m H _ Ext.refl st trivial ⟨a, vs, rfl, h2, ?_⟩
        rcases hs with hs | hs
        · rw [hs] at h3 ⊢
          have : xs = [] := (h3.nil_iff).mp rfl
          subst this
          have : (List.replicate j.toNat ([] : List D)).flatten = [] := by
            generalize j.toNat = n
            induction n with
            | zero => rfl
            | succ n ih => rw [List.replicate_succ, List.flatten_cons, ih]; rfl
          rw [this]
          exact h3
        · subst hs
          show EncAll g H m S.length (List.replicate 1 xs).flatten vs
          simpa using h3
      · obtain ⟨x1, st1⟩ := alloc_ok (o := .frz o (.tup (List.replicate j.toNat vs).flatten)) st hp
        exact k m _ _ x1 st1 trivial ⟨p, _, rfl, PlT.new ho, x1.encAll (h3.rep _)⟩
    · cases e
  · -- tuple + tuple
    rename_i xs ys
    split at e
    · rename_i hc
      cases e
      obtain ⟨a, vs, h1, h2, h3⟩ := ea
      obtain ⟨b, us, h4, h5, h6⟩ := eb
      refine op_catF pins s σ H x y v u Q I rx ry ⟨a, b, vs, us, h1, h4, hK ▸ h2.sq, hK ▸ h5.sq, ?_, fun hs => ?_, fun _ hs => ?_, fun _ _ p o hp ho => ?_⟩
      · rw [h3.length, h6.length]
        exact Nat.le_trans hc lim_le
      · rw [hs] at h3
        have : xs = [] := (h3.nil_iff).mp rfl
        subst this
        exact k m H _ Ext.refl st trivial ⟨b, us, rfl, h5, h6⟩
      · rw [hs] at h6
        have : ys = [] := (h6.nil_iff).mp rfl
        subst this
        exact k m H _ Ext.refl st trivial ⟨a, vs, rfl, h2, by rw [List.append_nil]; exact h3⟩
      · obtain ⟨x1, st1⟩ := alloc_ok (o := .frz o (.tup (vs ++ us))) st hp
        exact k m _ _ x1 st1 trivial ⟨p, _, rfl, PlT.new ho, x1.encAll (h3.append h6)⟩
    · cases e
  · -- ints
    rename_i oo a0 b0 i j
    cases e1 : binI o1 i j with
    | none =>
      rw [e1] at e
      cases e
    | some r =>
      rw [e1] at e
      cases e
      have h1 : x = .int i := ea
      have h2 : y = .int j := eb
      exact op_binI o1 pins s σ H x y v u Q I rx ry ⟨i, j, r, h1, h2, e1, k m H _ Ext.refl st trivial rfl⟩
  · -- lists
    split at e
    · rename_i xs ys q1 q2
      split at e
      · rename_i hc
        cases e
        obtain ⟨a, vs, h1, h2, h3⟩ := asM_ok st ea q1
        obtain ⟨b, us, h4, h5, h6⟩ := asM_ok st eb q2
        refine op_cat pins s σ H x y v u Q I rx ry ⟨a, b, vs, us, h1, h4, h2, h5, ?_, fun p hp => ?_⟩
        · rw [h3.length, h6.length]
          exact Nat.le_trans hc lim_le
        · obtain ⟨x1, st1⟩ := alloc_ok (o := .lst (vs ++ us)) st hp
          refine k m _ _ x1 st1 (fun r e => ?_) ⟨p, _, rfl, upd_same, x1.encAll (h3.append h6), st.apart hp⟩
          cases e
          exact Fr.of hp
      · cases e
    · cases e
  · cases e
end
end Ev
-- EvS4
set_option Elab.async false
set_option linter.all false
set_option maxRecDepth 100000
set_option maxHeartbeats 4000000
/-! EvS4: tests, comparisons, subscripts, slices. -/
namespace Ev
open PySem PySem.Spec PyProof.Rows L2
section
variable {X : Cx} {u : Tb} {W : WX}
theorem ev_cast {g : Gx} {K : PySem.W.Frag} (h : g.K = K) {H : Hp} {a : Addr} {vs : List V} : (SqL g.K H a vs ↔ SqL K H a vs) ∧ (SqT g.K H a vs ↔ SqT K H a vs) := by
  subst h
  exact ⟨Iff.rfl, Iff.rfl⟩

/-! ### truth -/
theorem truth_ok {S : Store} {m : Nat → Addr} {H : Hp} {t : T} {v : V} {k : Bool} (st : StRel (gof u X) S m H) (en : EncT (gof u X) H m S.length t v) (e : truth t S = some k) : TruV X.K v H k := by
  have base : (asL t S).map (fun xs => !xs.isEmpty) = some k → TruV X.K v H k := fun e => by
    cases e1 : asL t S with
    | none =>
      rw [e1] at e
      cases e
    | some xs =>
      rw [e1] at e
      cases e
      obtain ⟨p, vs, rfl, h2, h3⟩ := asL_ok st en e1
      refine .inl ⟨vs, h2, ?_⟩
      have hl := h3.length
      cases xs with
      | nil =>
        have : vs = [] := List.eq_nil_of_length_eq_zero hl
        rw [this]
        rfl
      | cons a b =>
        cases vs with
        | nil => cases hl
        | cons c d => rfl
  cases t with
  | l xs => exact base e
  | t kvs => exact base e
  | v d =>
    cases d with
    | non =>
      cases e
      have : v = V.non := en
      rw [this]
      rfl
    | bl b =>
      have : v = V.bl b := en
      rw [this]
      exact (Option.some.inj e).symm
    | int i =>
      cases e
      have : v = V.int i := en
      rw [this]
      rfl
    | str s => exact base e
    | tup xs =>
      cases e
      obtain ⟨a, vs, rfl, h2, h3⟩ := en
      refine .inr (.inl ⟨vs, h2.sq, ?_⟩)
      have hl := h3.length
      cases xs with
      | nil =>
        have : vs = [] := List.eq_nil_of_length_eq_zero hl
        rw [this]
        rfl
      | cons a b =>
        cases vs with
        | nil => cases hl
        | cons c d => rfl
    | ref k => exact base e
    | fn k => exact base e
/-- the expressions whose test is their value's truth -/
def plainT : Expr → Bool
  | .Name .. => true
  | .Call .. => true
  | .Subscript .. => true
  | _ => false
theorem plainT_ok {e : Expr} {env : PySem.Env} (h : plainT e = true) (whole : Sem Value) : isTrue e env whole = (do let v ← whole; standAt e.pos; holding [v] (truthy v)) := by
  cases e <;> first | rfl | cases h
theorem pt_pl {e : Expr} {E : Env → Store → R T} (hp : plainT e = true) (h : PE X e (RdE (gof u X) W E)) : PT X e (RdB (gof u X) W (mk E).B) := by
  refine PT.imp (pt_truth h (plainT_ok hp)) ?_
  rintro σ H Q ⟨S, m, ρ, st, en, p⟩
  refine ⟨S, m, ρ, st, en, p.bind.mono fun t S1 m1 H1 x1 st1 p1 v fv ev => ?_⟩
  obtain ⟨k, e1, q⟩ := p1.opt
  exact ⟨k, truth_ok st1 ev e1, q m1 H1 Ext.refl st1⟩
theorem pt_nt {a : Expr} {B : Env → Store → R Bool} {pos : Pos} (ha : PT X a (RdB (gof u X) W B)) : PT X (.UnaryOp .Not a pos) (RdB (gof u X) W fun ρ S => (B ρ S).bind fun k S1 => .ok (!k) S1) := by
  refine PT.imp (pt_not ha) ?_
  rintro σ H Q ⟨S, m, ρ, st, en, p⟩
  exact ⟨S, m, ρ, st, en, p.bind.mono fun k S1 m1 H1 x1 st1 p1 => Post.here st1 p1⟩
theorem pe_nt {a : Expr} {E : Env → Store → R T} {pos : Pos} (ha : PE X a (RdE (gof u X) W E)) : PE X (.UnaryOp .Not a pos) (RdE (gof u X) W (mkB fun ρ S => ((mk E).B ρ S).bind fun k S1 => .ok (!k) S1).E) := by
  refine PE.imp (pe_notT ha) ?_
  rintro σ H Q ⟨S, m, ρ, st, en, p⟩
  refine ⟨S, m, ρ, st, en, ?_⟩
  have p' : Post (gof u X) W S m H σ (KE (gof u X) H Q) (((((E ρ S).bind fun t S1 => opt (truth t S1) S1).bind fun k S1 => R.ok (!k) S1)).bind fun k S1 => R.ok (T.v (.bl k)) S1) := p
  rw [R.bind_assoc, R.bind_assoc] at p'
  refine p'.bind.mono fun t S1 m1 H1 x1 st1 p1 v fv ev => ?_
  have p2 := p1.bind
  obtain ⟨k, e1, q⟩ := p2.opt
  exact ⟨k, truth_ok st1 ev e1, (Post.here st1 (q m1 H1 Ext.refl st1)) _ trivial rfl⟩
/-! ### and, or as tests -/
theorem pw_and_one {a : Expr} {s : Sm} {pos : Pos} (ha : PT X a (RdB (gof u X) W s.B)) : PW X (.BoolOp .And [a] pos) (RdB (gof u X) W (evC [s])) := by
  refine PW.imp (pw_and1 ha) ?_
  rintro σ H Q ⟨S, m, ρ, st, en, p⟩
  refine ⟨S, m, ρ, st, en, (Post.bind p).mono fun k S1 m1 H1 x1 st1 p1 => ?_⟩
  cases k with
  | true => exact Post.here (a := true) st1 p1
  | false => exact Post.here (a := false) st1 p1
theorem pw_and_cons {a b : Expr} {rest : List Expr} {s : Sm} {ss : List Sm} {pos : Pos} (ha : PT X a (RdB (gof u X) W s.B)) (hb : PW X (.BoolOp .And (b :: rest) pos) (RdB (gof u X) W (evC ss))) : PW X (.BoolOp .And (a :: b :: rest) pos) (RdB (gof u X) W (evC (s :: ss))) := by
  refine PW.imp (pw_and ha hb) ?_
  rintro σ H Q ⟨S, m, ρ, st, en, p⟩
  refine ⟨S, m, ρ, st, en, (Post.bind p).mono fun k S1 m1 H1 x1 st1 p1 => ?_⟩
  cases k with
  | true => exact ⟨S1, m1, ρ, st1, x1.env en, p1⟩
  | false => exact Post.here (a := false) st1 p1
theorem pw_or_one {a : Expr} {s : Sm} {pos : Pos} (ha : PT X a (RdB (gof u X) W s.B)) : PW X (.BoolOp .Or [a] pos) (RdB (gof u X) W (evO [s])) := by
  refine PW.imp (pw_or1 ha) ?_
  rintro σ H Q ⟨S, m, ρ, st, en, p⟩
  refine ⟨S, m, ρ, st, en, (Post.bind p).mono fun k S1 m1 H1 x1 st1 p1 => ?_⟩
  cases k with
  | true => exact Post.here (a := true) st1 p1
  | false => exact Post.here (a := false) st1 p1
theorem pw_or_cons {a b : Expr} {rest : List Expr} {s : Sm} {ss : List Sm} {pos : Pos} (ha : PT X a (RdB (gof u X) W s.B)) (hb : PW X (.BoolOp .Or (b :: rest) pos) (RdB (gof u X) W (evO ss))) : PW X (.BoolOp .Or (a :: b :: rest) pos) (RdB (gof u X) W (evO (s :: ss))) := by
  refine PW.imp (pw_or ha hb) ?_
  rintro σ H Q ⟨S, m, ρ, st, en, p⟩
  refine ⟨S, m, ρ, st, en, (Post.bind p).mono fun k S1 m1 H1 x1 st1 p1 => ?_⟩
  cases k with
  | true => exact Post.here (a := true) st1 p1
  | false => exact ⟨S1, m1, ρ, st1, x1.env en, p1⟩
/-! ### and, or as values -/
theorem pe_and_one {op : BoolOp} {a : Expr} {s : Sm} {pos : Pos} (ha : PE X a (RdE (gof u X) W s.E)) : PE X (.BoolOp op [a] pos) (RdE (gof u X) W (evAnd [s])) := pe_one ha
theorem pe_or_one {op : BoolOp} {a : Expr} {s : Sm} {pos : Pos} (ha : PE X a (RdE (gof u X) W s.E)) : PE X (.BoolOp op [a] pos) (RdE (gof u X) W (evOr [s])) := pe_one ha
theorem pe_and_cons {a b : Expr} {rest : List Expr} {s s' : Sm} {ss : List Sm} {pos : Pos} (ha : PE X a (RdE (gof u X) W s.E)) (hb : PE X (.BoolOp .And (b :: rest) pos) (RdE (gof u X) W (evAnd (s' :: ss)))) :
    PE X (.BoolOp .And (a :: b :: rest) pos) (RdE (gof u X) W (evAnd (s :: s' :: ss))) := by
  refine PE.imp (pe_andT ha hb) ?_
  rintro σ H Q ⟨S, m, ρ, st, en, p⟩
  refine ⟨S, m, ρ, st, en, (Post.bind p).mono fun t S1 m1 H1 x1 st1 p1 v fv ev => ?_⟩
  obtain ⟨k, e1, q⟩ := (Post.bind p1).opt
  refine ⟨k, truth_ok st1 ev e1, ?_⟩
  have q1 := q m1 H1 Ext.refl st1
  cases k with
  | true => exact ⟨S1, m1, ρ, st1, x1.env en, Post.mono q1 fun a S' m' H' x' st' p' v' f' e' => p' v' (FreT.back x1 f') e'⟩
  | false => exact (Post.here (a := t) st1 q1) v fv ev
theorem pe_or_cons {a b : Expr} {rest : List Expr} {s s' : Sm} {ss : List Sm} {pos : Pos} (ha : PE X a (RdE (gof u X) W s.E)) (hb : PE X (.BoolOp .Or (b :: rest) pos) (RdE (gof u X) W (evOr (s' :: ss)))) :
    PE X (.BoolOp .Or (a :: b :: rest) pos) (RdE (gof u X) W (evOr (s :: s' :: ss))) := by
  refine PE.imp (pe_orT ha hb) ?_
  rintro σ H Q ⟨S, m, ρ, st, en, p⟩
  refine ⟨S, m, ρ, st, en, (Post.bind p).mono fun t S1 m1 H1 x1 st1 p1 v fv ev => ?_⟩
  obtain ⟨k, e1, q⟩ := (Post.bind p1).opt
  refine ⟨k, truth_ok st1 ev e1, ?_⟩
  have q1 := q m1 H1 Ext.refl st1
  cases k with
  | false => exact ⟨S1, m1, ρ, st1, x1.env en, Post.mono q1 fun a S' m' H' x' st' p' v' f' e' => p' v' (FreT.back x1 f') e'⟩
  | true => exact (Post.here (a := t) st1 q1) v fv ev
/-- a if t else b -/
theorem pe_ife {c a b : Expr} {B : Env → Store → R Bool} {Ea Eb : Env → Store → R T} {pos : Pos} (hc : PT X c (RdB (gof u X) W B)) (ha : PE X a (RdE (gof u X) W Ea)) (hb : PE X b (RdE (gof u X) W Eb)) :
    PE X (.IfExp c a b pos) (RdE (gof u X) W fun ρ S => (B ρ S).bind fun k S1 => if k then Ea ρ S1 else Eb ρ S1) := by
  refine PE.imp (pe_ifExp hc ha hb) ?_
  rintro σ H Q ⟨S, m, ρ, st, en, p⟩
  refine ⟨S, m, ρ, st, en, p.bind.mono fun k S1 m1 H1 x1 st1 p1 => ?_⟩
  cases k with
  | true => exact ⟨S1, m1, ρ, st1, x1.env en, Post.mono p1 fun a S' m' H' x' st' p' v' f' e' => p' v' (FreT.back x1 f') e'⟩
  | false => exact ⟨S1, m1, ρ, st1, x1.env en, Post.mono p1 fun a S' m' H' x' st' p' v' f' e' => p' v' (FreT.back x1 f') e'⟩

/-! ### comparisons -/
def pyCm : Cm → CmpOp
  | .eq => .Eq
  | .ne => .NotEq
  | .lt => .Lt
  | .le => .LtE
  | .gt => .Gt
  | .ge => .GtE
  | .isN => .Is
  | .noN => .IsNot
theorem pyCm_in (o : Cm) : pyCm o ≠ .In ∧ pyCm o ≠ .NotIn := by cases o <;> exact ⟨by decide, by decide⟩
theorem nom (b : Expr) (o : Cm) : behindInMarks (pyCm o) b = false := nobehind b (pyCm_in o).1 (pyCm_in o).2
def rCm (g : Gx) (f : T → T → Store → Option Bool) : R2 := fun x y H Q => ∃ S m ta tb k, StRel g S m H ∧ EncT g H m S.length ta x ∧ EncT g H m S.length tb y ∧ f ta tb S = some k ∧ Q (.bl k) H
theorem toPy_ok {S : Store} {m : Nat → Addr} {H : Hp} {t : T} {v : V} {d : PyData} (st : StRel (gof u X) S m H) (en : EncT (gof u X) H m S.length t v) (e : toPy t S = some d) : Dp X.K H v d ∧ d.plain = true := by
  cases t with
  | t kvs => cases e
  | l xs =>
    have e' : (if D.pures xs then some (PyData.list (D.pys xs)) else none) = some d := e
    split at e'
    · rename_i hp
      cases e'
      obtain ⟨p, vs, rfl, h1, h2, _⟩ := en
      exact ⟨.lst (SqL.of h1) (EncAll.dp xs vs hp h2), pys_plain xs⟩
    · cases e'
  | v d' =>
    have base : (if d'.pure then some d'.py else none) = some d → Dp X.K H v d ∧ d.plain = true := fun e => by
      split at e
      · rename_i hp
        cases e
        exact ⟨Enc.dp d' v hp en, py_plain d'⟩
      · cases e
    cases d' with
    | ref k =>
      have hq : ∃ xs, asL (.v (.ref k)) S = some xs ∧ D.pures xs = true ∧ d = .list (D.pys xs) := by
        have e' : (match S[k]? with | some (.lst _ xs) => if D.pures xs then some (PyData.list (D.pys xs)) else none | some (.ro xs) => if D.pures xs then some (PyData.list (D.pys xs)) else none | _ => none) = some d := e
        show ∃ xs, (match S[k]? with | some (.lst _ xs) => some xs | some (.ro xs) => some xs | _ => none) = some xs ∧ _
        revert e'
        generalize S[k]? = c
        intro e'
        rcases c with _ | c
        · cases e'
        · cases c with
          | lst b xs =>
            have e2 : (if D.pures xs then some (PyData.list (D.pys xs)) else none) = some d := e'
            split at e2
            · rename_i hp
              cases e2
              exact ⟨xs, rfl, hp, rfl⟩
            · cases e2
          | ro xs =>
            have e2 : (if D.pures xs then some (PyData.list (D.pys xs)) else none) = some d := e'
            split at e2
            · rename_i hp
              cases e2
              exact ⟨xs, rfl, hp, rfl⟩
            · cases e2
          | dT b xs => cases e'
      obtain ⟨xs, e1, hp, rfl⟩ := hq
      obtain ⟨p, vs, rfl, h2, h3⟩ := asL_ok st en e1
      exact ⟨.lst h2 (EncAll.dp xs vs hp h3), pys_plain xs⟩
    | _ => exact base e
theorem op_cmp2 (hu : X.A.units + 64 < cLine) (o : Cm) : OpR X (compareOp (pyCm o)) (rCm (gof u X) (cmp2 o)) := by
  intro pins s σ H x y v w Q I rx ry h
  obtain ⟨S, m, ta, tb, k, st, ea, eb, e, q⟩ := h
  have eqk : ∀ k', eqT ta tb S = some k' → ∃ d f as bs, Reads s.heap v d as ∧ Reads s.heap w f bs ∧ d.plain = true ∧ f.plain = true ∧ X.A.units + min d.depth f.depth < cLine ∧ k' = PyData.eqv d f := fun k' e => by
    unfold eqT at e
    split at e
    · rename_i d f q1 q2
      split at e
      · rename_i hd
        cases e
        obtain ⟨h1, h2⟩ := toPy_ok st ea q1
        obtain ⟨h3, h4⟩ := toPy_ok st eb q2
        obtain ⟨as, r1⟩ := Dp.reads I d x v h1 rx
        obtain ⟨bs, r2⟩ := Dp.reads I f y w h3 ry
        exact ⟨d, f, as, bs, r1, r2, h2, h4, by omega, rfl⟩
      · cases e
    · cases e
  have intsQ : ∀ o', (match ta, tb with | .v (.int i), .v (.int j) => cmpI o' i j | _, _ => none) = some k → ∃ i j, x = .int i ∧ y = .int j ∧ cmpI o' i j = some k := fun o' e => by
    split at e
    · rename_i i j _
      exact ⟨i, j, ea, eb, e⟩
    · cases e
  have non : tb.isNon = true → y = .non := fun hb => by
    cases tb with
    | v d =>
      cases d with
      | non => exact eb
      | _ => cases hb
    | _ => cases hb
  have nonx : ta.isNon = decide (x = .non) := by
    cases ta with
    | l xs =>
      obtain ⟨p, vs, rfl, _⟩ := ea
      rfl
    | t xs =>
      obtain ⟨p, rfl, _⟩ := ea
      rfl
    | v d =>
      cases d with
      | non =>
        have : x = .non := ea
        rw [this]
        rfl
      | bl b =>
        have : x = .bl b := ea
        rw [this]
        rfl
      | int b =>
        have : x = .int b := ea
        rw [this]
        rfl
      | str b =>
        have : x = .str b := ea
        rw [this]
        rfl
      | tup xs =>
        obtain ⟨p, vs, rfl, _⟩ := ea
        rfl
      | ref k =>
        have : x = .ref (m k) := ea.2
        rw [this]
        rfl
      | fn i =>
        obtain ⟨_, a, _, e, _⟩ := ea
        rw [e]
        rfl
  cases o with
  | eq =>
    obtain ⟨d, f, as, bs, r1, r2, h1, h2, hd, e1⟩ := eqk k e
    subst e1
    exact PySem.SeqAt.eq_plain r1 r2 h1 h2 hd ⟨.bl _, H, I, rfl, q⟩
  | ne =>
    have e' : (eqT ta tb S).map (fun k => !k) = some k := e
    cases e1 : eqT ta tb S with
    | none =>
      rw [e1] at e'
      cases e'
    | some k' =>
      rw [e1] at e'
      cases e'
      obtain ⟨d, f, as, bs, r1, r2, h1, h2, hd, e1⟩ := eqk k' e1
      subst e1
      exact PySem.SeqAt.ne_plain r1 r2 h1 h2 hd ⟨.bl _, H, I, rfl, q⟩
  | lt =>
    obtain ⟨i, j, e1, e2, e3⟩ := intsQ .lt e
    cases e3
    exact op_lt pins s σ H x y v w Q I rx ry ⟨i, j, e1, e2, q⟩
  | le =>
    obtain ⟨i, j, e1, e2, e3⟩ := intsQ .le e
    cases e3
    exact op_le pins s σ H x y v w Q I rx ry ⟨i, j, e1, e2, q⟩
  | gt =>
    obtain ⟨i, j, e1, e2, e3⟩ := intsQ .gt e
    cases e3
    exact op_gt pins s σ H x y v w Q I rx ry ⟨i, j, e1, e2, q⟩
  | ge =>
    obtain ⟨i, j, e1, e2, e3⟩ := intsQ .ge e
    cases e3
    exact op_ge pins s σ H x y v w Q I rx ry ⟨i, j, e1, e2, q⟩
  | isN =>
    have e' : (if tb.isNon then some ta.isNon else none) = some k := e
    split at e'
    · rename_i hb
      cases e'
      exact op_isN pins s σ H x y v w Q I rx ry ⟨non hb, by rw [← nonx]; exact q⟩
    · cases e'
  | noN =>
    have e' : (if tb.isNon then some (!ta.isNon) else none) = some k := e
    split at e'
    · rename_i hb
      cases e'
      exact op_notN pins s σ H x y v w Q I rx ry ⟨non hb, by rw [← nonx]; exact q⟩
    · cases e'
section
variable {a b c : Expr} {Ea Eb Ec : Env → Store → R T} {pos : Pos} (hu : X.A.units + 64 < cLine) (ha : PE X a (RdE (gof u X) W Ea)) (hb : PE X b (RdE (gof u X) W Eb)) (hc : PE X c (RdE (gof u X) W Ec))
theorem cm_sub {o : Cm} {σ : L2.St} {H : Hp} {S : Store} {m : Nat → Addr} {ρ : Env} {K : Bool → Store → (Nat → Addr) → Hp → Prop} {Qv : VK} (st : StRel (gof u X) S m H) (en : EnvRel (gof u X) H m S.length ρ σ)
    (p : Post (gof u X) W S m H σ K ((Ea ρ S).bind fun ta S1 => (Eb ρ S1).bind fun tb S2 => opt (cmp2 o ta tb S2) S2))
    (h : ∀ k S2 m2 H2, Ext (gof u X) S m H S2 m2 H2 → StRel (gof u X) S2 m2 H2 → K k S2 m2 H2 → Qv (.bl k) H2) : tOp (rCm (gof u X) (cmp2 o)) (RdE (gof u X) W Ea) (RdE (gof u X) W Eb) σ H Qv :=
  sub2 st en p fun ta tb S2 m2 H2 x y x2 st2 e1 e2 p2 => by
    obtain ⟨k, e, q⟩ := p2.opt
    exact ⟨S2, m2, ta, tb, k, st2, e1, e2, e, h k S2 m2 H2 x2 st2 (q m2 H2 Ext.refl st2)⟩
include hu ha hb in
theorem pt_cm {o : Cm} : PT X (.Compare a [pyCm o] [b] pos) (RdB (gof u X) W fun ρ S => (Ea ρ S).bind fun ta S1 => (Eb ρ S1).bind fun tb S2 => opt (cmp2 o ta tb S2) S2) := by
  refine PT.imp (pt_cmpR (op_cmp2 (u := u) hu o) ha hb (nom b o)) ?_
  rintro σ H Q ⟨S, m, ρ, st, en, p⟩
  exact cm_sub st en p fun k S2 m2 H2 x2 st2 q => ⟨k, rfl, q⟩
include hu ha hb in
theorem pe_cm {o : Cm} : PE X (.Compare a [pyCm o] [b] pos) (RdE (gof u X) W (mkB fun ρ S => (Ea ρ S).bind fun ta S1 => (Eb ρ S1).bind fun tb S2 => opt (cmp2 o ta tb S2) S2).E) := by
  refine PE.imp (pe_cmpR (op_cmp2 (u := u) hu o) ha hb (nom b o)) ?_
  rintro σ H Q ⟨S, m, ρ, st, en, p⟩
  exact cm_sub st en (Post.bind p) fun k S2 m2 H2 x2 st2 q => (Post.here (a := T.v (.bl k)) st2 q) _ trivial rfl
theorem lastM (o o' : Cm) (b c : Expr) : lastMarks [pyCm o, pyCm o'] [b, c] = false := nom c o'
theorem chn_sub {o o' : Cm} {σ : L2.St} {H : Hp} {S : Store} {m : Nat → Addr} {ρ : Env} {K : Bool → Store → (Nat → Addr) → Hp → Prop} {Qv : VK} (st : StRel (gof u X) S m H) (en : EnvRel (gof u X) H m S.length ρ σ)
    (p : Post (gof u X) W S m H σ K ((Ea ρ S).bind fun ta S1 => (Eb ρ S1).bind fun tb S2 => (opt (cmp2 o ta tb S2) S2).bind fun k S3 => if k then (Ec ρ S3).bind fun tc S4 => opt (cmp2 o' tb tc S4) S4 else .ok false S3))
    (h : ∀ k S2 m2 H2, StRel (gof u X) S2 m2 H2 → K k S2 m2 H2 → Qv (.bl k) H2) : tChain (rCm (gof u X) (cmp2 o)) (rCm (gof u X) (cmp2 o')) (RdE (gof u X) W Ea) (RdE (gof u X) W Eb) (RdE (gof u X) W Ec) σ H Qv :=
  sub2 st en p fun ta tb S2 m2 H2 x y x2 st2 e1 e2 p2 => by
    obtain ⟨k, e, q⟩ := p2.bind.opt
    refine ⟨S2, m2, ta, tb, k, st2, e1, e2, e, k, rfl, ?_⟩
    have q' := q m2 H2 Ext.refl st2
    cases k with
    | false => exact h _ S2 m2 H2 st2 (Post.here (a := false) st2 q')
    | true =>
      refine sub st2 (x2.env en) ((Post.bind q').mono fun tc S4 m4 H4 x4 st4 p4 v fv ev => ?_)
      obtain ⟨k', e', q4⟩ := p4.opt
      exact ⟨S4, m4, tb, tc, k', st4, x4.encT st2 e2, ev, e', h _ S4 m4 H4 st4 (q4 m4 H4 Ext.refl st4)⟩
include hu ha hb hc in
theorem pt_chn {o o' : Cm} : PT X (.Compare a [pyCm o, pyCm o'] [b, c] pos) (RdB (gof u X) W fun ρ S => (Ea ρ S).bind fun ta S1 => (Eb ρ S1).bind fun tb S2 => (opt (cmp2 o ta tb S2) S2).bind fun k S3 =>
      if k then (Ec ρ S3).bind fun tc S4 => opt (cmp2 o' tb tc S4) S4 else .ok false S3) := by
  refine PT.imp (pt_chain (op_cmp2 (u := u) hu o) (op_cmp2 (u := u) hu o') ha hb hc (lastM o o' b c)) ?_
  rintro σ H Q ⟨S, m, ρ, st, en, p⟩
  exact chn_sub st en p fun k S2 m2 H2 st2 q => ⟨k, rfl, q⟩
include hu ha hb hc in
theorem pe_chn {o o' : Cm} : PE X (.Compare a [pyCm o, pyCm o'] [b, c] pos) (RdE (gof u X) W (mkB fun ρ S => (Ea ρ S).bind fun ta S1 => (Eb ρ S1).bind fun tb S2 => (opt (cmp2 o ta tb S2) S2).bind fun k S3 =>
      if k then (Ec ρ S3).bind fun tc S4 => opt (cmp2 o' tb tc S4) S4 else .ok false S3).E) := by
  refine PE.imp (pe_chain (op_cmp2 (u := u) hu o) (op_cmp2 (u := u) hu o') ha hb hc (lastM o o' b c)) ?_
  rintro σ H Q ⟨S, m, ρ, st, en, p⟩
  exact chn_sub st en (Post.bind p) fun k S2 m2 H2 st2 q => (Post.here (a := T.v (.bl k)) st2 q) _ trivial rfl
include ha in
theorem pe_ng : PE X (.UnaryOp .USub a pos) (RdE (gof u X) W fun ρ S => (Ea ρ S).bind fun ta S1 => (match ta with | .v (.int i) => .ok (.v (.int (-i))) S1 | _ => .bad)) := by
  refine PE.imp (pe_un un_neg ha) ?_
  rintro σ H Q ⟨S, m, ρ, st, en, p⟩
  refine sub st en (p.bind.mono fun t S1 m1 H1 x1 st1 p1 v fv ev => ?_)
  split at p1
  · rename_i i
    exact ⟨i, ev, (Post.here st1 p1) _ trivial rfl⟩
  · exact p1.elim
end
end
end Ev
-- EvS5
set_option Elab.async false
set_option linter.all false
set_option maxRecDepth 100000
set_option maxHeartbeats 4000000
/-! EvS5: subscripts, slices, builtins. -/
namespace PyProof.Rows
open PySem PySem.Spec
section
variable {prog : Program} {w : World} {A : Around} {E : Value → Shared → Prop} {s : Shared}
/-- what sorted() gathers of a tuple -/
theorem collect_tup {l : Addr} {vs : List Value} {Q : List Value → Shared → Prop} (hl : s.heap.IsTuple l vs.toArray)
    (h : Q vs { s with heap := (s.heap.push (seqObj "list" #[] 0)).update s.heap.objs.size (Obj.mapSeq (· ++ vs.toArray)) }) (hsz : vs.length ≤ sizeLine) :
    wpAny (model prog w) A (collect (.ref l)) Q E s := by
  obtain ⟨o, ho, hc, n, hd⟩ := id hl
  unfold collect
  refine wpAny_bind (wpAny_runValue (codeAny_builtin entry_proto_collect' ?_))
  show wpAny _ _ (do again (.builtin "list.__iadd__" ⟨[← newList [], .ref l], []⟩)) _ _ s
  refine wpAny_bind (wpAny_newList (wpAny_pure ⟨Code.quiet_builtin _ (by decide +kernel), codeAny_builtin entry_list_iadd' ?_⟩))
  show wpAny _ _ (Builtin.List.listExtendWith (.ref s.heap.objs.size) (.ref l) (.ref s.heap.objs.size)) _ _ { s with heap := s.heap.push (seqObj "list" #[] 0) }
  unfold Builtin.List.listExtendWith
  have ho' : (s.heap.push (seqObj "list" #[] 0)).get? l = some o := Heap.get?_push_of_some _ ho
  refine wpAny_bind (wpAny_typeOf (T := "tuple") ⟨o, ho', hc⟩ ?_)
  have ht : (Value.type "tuple" == Value.type "tuple") = true := by rfl
  rw [if_pos (by rw [ht]; simp)]
  refine wpAny_bind (listItems_at ho' hd ?_)
  refine wpAny_bind (listItems_at (xs := #[]) (n := 0) (Heap.get?_push_size _ rfl) rfl ?_)
  rw [if_neg (by simp)]
  refine wpAny_bind (listUpdate_at (xs := #[]) (n := 0) (Heap.get?_push_size _ rfl) rfl ?_ (Nat.zero_le _) (by show (#[] ++ vs.toArray).size ≤ sizeLine + 1; simp only [Array.size_append, List.size_toArray, List.length_nil]; omega))
  refine wpAny_pure ?_
  show wpAny (model prog w) A (do
      let o ← load s.heap.objs.size
      match o.data with
      | .seq xs _ => pure xs.toList
      | _ => unsupported "internal:collect") Q E { s with heap := (s.heap.push (seqObj "list" #[] 0)).update s.heap.objs.size (Obj.mapSeq (· ++ vs.toArray)) }
  refine wpAny_bind (wpAny_load (get?_update_seq (Heap.get?_push_size _ rfl) _) ?_)
  show wpAny _ _ (pure ((#[] : Array Value) ++ vs.toArray).toList) Q E _
  rw [show ((#[] : Array Value) ++ vs.toArray).toList = vs by simp]
  exact wpAny_pure h
end
end PyProof.Rows
namespace PySem.W
open PySem PySem.Calls PyProof.Rows
section
variable {prog : Program} {w : World} {A : Around} {E : Value → Shared → Prop} {s : Shared} {β : Type} {vs : List Value} {bs : List β} {enc : β → PyData} {R : Value → β → Prop}
theorem sorted_tup_sort {l : Addr} {vs : List Value} {kw : List (Str × Value)} {Q : Value → Shared → Prop} (hl : s.heap.IsTuple l vs.toArray) (hL : vs.length ≤ sizeLine) (ha1 : argsOk "sorted" ⟨[.ref l], kw⟩) (ha2 : ∀ x, argsOk "list.sort" ⟨[.ref x], kw⟩)
    (body : ∀ E' : Value → Shared → Prop, wpAny (model prog w) A.in1.in1 (Builtin.«list.sort» ⟨[.ref (s.heap.objs.size + 1)], kw⟩) (fun f s' => f = .done (.ret .none) ∧ Q (.ref (s.heap.objs.size + 1)) s') E' { s with heap := copyHeap s.heap vs }) :
    wpAny (model prog w) A (call (.builtin "sorted") [.ref l] kw) Q E s := by
  refine call_function_entry_kw kind_sorted plain_sorted entry_sorted ha1 ?_
  unfold Builtin.«sorted»
  refine wpAny_bind (m := checkCount "sorted" 1 1 _) (wpAny_pure ?_)
  refine wpAny_bind (collect_tup hl ?_ hL)
  refine wpAny_bind (wpAny_newList ?_ hL)
  have hsz : ((s.heap.push (seqObj "list" #[] 0)).update s.heap.objs.size (Obj.mapSeq (· ++ vs.toArray))).objs.size = s.heap.objs.size + 1 := by
    rw [Heap.size_update, size_push']
  show wpAny _ _ _ _ _ { s with heap := copyHeap s.heap vs }
  rw [hsz]
  refine wpAny_bind (wpAny_holding (wpAny_call_entry_kw slot_list_sort ⟨_, copyHeap_at s.heap vs, rfl⟩ entry_list_sort ?body (ha2 _)))
  case body =>
    show wpAny (model prog w) A.in1.in1 (Builtin.«list.sort» ⟨[.ref (s.heap.objs.size + 1)], kw⟩) _ _ _
    refine wpAny_mono (body _) (fun f s' hf => ?_) fun _ _ e => e
    obtain ⟨rfl, hq⟩ := hf
    exact ⟨_, rfl, wpAny_pure ⟨_, rfl, hq⟩⟩
theorem sorted_tup_data {l : Addr} {Q : Value → Shared → Prop} (hl : s.heap.IsTuple l vs.toArray) (e : EachIs R vs bs) (er : EachIs (fun v b => ∃ as, Reads s.heap v (enc b) as) vs bs) (hal : AllAlike (bs.map enc)) (hk : Sortable (bs.map enc)) (hL : bs.length ≤ sizeLine)
    (hu : ∀ b, b ∈ bs → A.units + 2 + (enc b).depth < cLine) (h : ∀ out, out.length = bs.length → EachIs R out (bs.mergeSort (dataLe false enc)) → Q (.ref (s.heap.objs.size + 1)) { s with heap := sortedAll s.heap vs (List.toArray out) }) :
    wpAny (model prog w) A (call (.builtin "sorted") [.ref l]) Q E s := by
  have er' : EachIs (fun v b => ∃ as, Reads (sortingHeap (copyHeap s.heap vs) (s.heap.objs.size + 1) vs) v (enc b) as) vs bs := er.mono fun _ _ ⟨as, r⟩ => ⟨as, PyProof.Rows.Reads.keeps (fun _ _ => sorting_copy_old) r⟩
  have hL' : vs.length ≤ sizeLine := by rw [e.length]; exact hL
  exact sorted_tup_sort hl hL' (args_sorted1 _) (fun _ => args_list_sort _) fun _ => list_sort_vals (s := { s with heap := copyHeap s.heap vs }) (copyHeap_at s.heap vs)
    (SortsAt.data (s := { s with heap := sortingHeap (copyHeap s.heap vs) (s.heap.objs.size + 1) vs }) (each_map (R := fun v d => ∃ as, Reads (sortingHeap (copyHeap s.heap vs) (s.heap.objs.size + 1) vs) v d as) enc er') hal hk (bound_map hu)) hL'
    ⟨rfl, h _ (by rw [sortVals_length false rfl]; exact e.length) (sortVals_data false e er' hal)⟩
end
end PySem.W
namespace Ev
open PySem PySem.Spec PyProof.Rows L2
section
variable {X : Cx} {u : Tb} {W : WX}
/-! ### a[i], a[lo:hi] -/
theorem atI_enc {g : Gx} {H : Hp} {m : Nat → Addr} {n : Nat} {xs : List D} {vs : List V} {i : Int} {d : D} (h : EncAll g H m n xs vs) (e : L2.atI xs i = some d) : ∃ v, L2.atI vs i = some v ∧ Enc g H m n d v := by
  unfold L2.atI at e ⊢
  rw [h.length]
  cases e1 : ixN xs.length i with
  | none =>
    rw [e1] at e
    cases e
  | some j =>
    rw [e1] at e
    exact h.get e
theorem ix_getF : IxR X (rOp (gof u X) getF) := by
  intro value slice pins s σ H x y v w Q I rx ry h hs
  obtain ⟨S, m, ta, tb, t, st, ea, eb, e, k⟩ := h
  unfold getF at e
  split at e
  · rename_i j
    split at e
    · rename_i xs q1
      cases e1 : ixAt xs j with
      | none =>
        rw [e1] at e
        cases e
      | some d =>
        rw [e1] at e
        cases e
        obtain ⟨p, vs, h1, h2, h3⟩ := asQ_ok st ea q1
        obtain ⟨z, h4, h5⟩ := atI_enc h3 e1
        have h6 : y = .int j := eb
        have q := k m H z Ext.refl st trivial h5
        rcases h2 with h2 | ⟨h2, _⟩
        · exact ix_list value slice pins s σ H x y v w Q I rx ry ⟨p, vs, j, z, h1, h6, h2, h4, q⟩ hs
        · exact ix_tup value slice pins s σ H x y v w Q I rx ry ⟨p, vs, j, z, h1, h6, h2.sq, h4, q⟩ hs
    · cases e
  · cases e
/-- t[lo:hi] of a tuple -/
def rSlF (K : PySem.W.Frag) : V → Option Int → Option Int → Hp → VK → Prop := fun x lo hi H Q => ∃ a xs, x = .ref a ∧ SqT K H a xs ∧
  (HT.sIx xs.length 0 lo = 0 ∧ HT.sIx xs.length xs.length hi = xs.length → Q (.ref a) H) ∧ (¬ (HT.sIx xs.length 0 lo = 0 ∧ HT.sIx xs.length xs.length hi = xs.length) → ∀ p o, H p = none → Obj.dict o = none → Q (.ref p) (upd H p (.frz o (.tup (cutV xs lo hi)))))
theorem sl_tupF : SlR X (rSlF X.K) := by
  intro pins s σ H x v vl vu lo hi sl Q I rx hs pl pu h
  obtain ⟨a, xs, rfl, hx, q1, q2⟩ := h
  cases rx
  obtain ⟨its, r, ht, hz⟩ := I.tuple hx
  have hlen : its.toArray.size = xs.length := by rw [List.size_toArray]; exact r.length.symm
  refine ⟨"tuple", _, PyProof.Rows.slot_tuple_getitem.lookup, ht.typeIs, ?_⟩
  by_cases hw : HT.sIx xs.length 0 lo = 0 ∧ HT.sIx xs.length xs.length hi = xs.length
  · exact getItem_tuple_whole ht hs pl pu (by rw [hlen]; exact hw) ⟨.ref a, H, I, rfl, q1 hw⟩
  · refine HT.getItem_tuple_cut ht hs pl pu (by rw [hlen]; exact hw) ?_ (by rw [hlen]; exact hz)
    rw [hlen]
    exact ⟨.ref s.heap.objs.size, _, laidT (t' := s.toks) I ((r.drop (HT.sIx xs.length 0 lo)).take (HT.sIx xs.length xs.length hi - HT.sIx xs.length 0 lo)) (Nat.le_trans (cutV_length xs lo hi) hz), rfl, q2 hw _ _ (I.hok.fresh (Nat.le_refl _)) rfl⟩
/-- tuple(x) -/
theorem call_tupleF : CallR X (.type "tuple") (fun xs H Q => ∃ p ys, xs = [.ref p] ∧ ((SqL X.K H p ys ∧ ∀ l o, H l = none → Obj.dict o = none → Q (.ref l) (upd H l (.frz o (.tup ys)))) ∨ (SqT X.K H p ys ∧ Q (.ref p) H))) := by
  intro pins s σ H xs us Q I r h
  obtain ⟨p, ys, rfl, h⟩ := h
  obtain ⟨u, rfl, rx⟩ := vals1 r
  cases rx
  rcases h with ⟨hq, q⟩ | ⟨hq, q⟩
  · obtain ⟨its, r', pl, hz⟩ := I.list hq
    have hlen := r'.length
    refine call_tuple_list pl.isList (fun h' kp => ?_) (by simp only [List.size_toArray] <;> omega)
    have I1 : L2.Inv X pins σ H { s with heap := h' } := I.kept (t' := s.toks) kp
    exact ⟨.ref h'.objs.size, _, laidT (t' := s.toks) I1 r' hz, rfl, q _ _ (I1.hok.fresh (Nat.le_refl _)) rfl⟩
  · obtain ⟨its, r', pl, hz⟩ := I.tuple hq
    exact call_tuple_same pl ⟨.ref p, H, I, rfl, q⟩
/-- what may stand as a plain index -/
def plainI : Expr → Bool
  | .Name .. => true
  | .Constant .. => true
  | .BinOp .. => true
  | .UnaryOp .. => true
  | .Subscript .. => true
  | .Call .. => true
  | _ => false
theorem plainI_ok {b : Expr} (h : plainI b = true) : PlainIx b := by
  cases b <;> first | (intro o i; rfl) | cases h
theorem pe_ixE {a b : Expr} {Ea Eb : Env → Store → R T} {pos : Pos} (hp : plainI b = true) (ha : PE X a (RdE (gof u X) W Ea)) (hb : PE X b (RdE (gof u X) W Eb)) :
    PE X (.Subscript a b pos) (RdE (gof u X) W fun ρ S => (Ea ρ S).bind fun ta S1 => (Eb ρ S1).bind fun tb S2 => opt (getF ta tb S2) S2) := by
  refine PE.imp (pe_ix (ix_getF (u := u)) ha hb (plainI_ok hp)) ?_
  rintro σ H Q ⟨S, m, ρ, st, en, p⟩
  refine sub2 st en p fun ta tb S2 m2 H2 x y x2 st2 e1 e2 p2 => ?_
  obtain ⟨t, e, k⟩ := p2.opt
  exact ⟨S2, m2, ta, tb, t, st2, e1, e2, e, fun m' H' v y st' fr en' => k m' H' y st' v (FreT.back x2 fr) en'⟩
/-- a slice's part -/
def RdO (g : Gx) (W : WX) (P : Env → Store → R (Option Int)) : TO := fun σ H Q => ∃ S m ρ, StRel g S m H ∧ EnvRel g H m S.length ρ σ ∧ Post g W S m H σ (fun l _ _ H' => Q l H') (P ρ S)
theorem PO.imp {e : Option Expr} {t t' : TO} (h : PO X e t) (i : ∀ σ H Q, t' σ H Q → t σ H Q) : PO X e t' := ⟨fun pins s σ H Q I q => h.run pins s σ H Q I (i σ H Q q)⟩
theorem po_no {E : Env → Store → R T} : PO X none (RdO (gof u X) W (evP false E)) := by
  refine PO.imp po_none ?_
  rintro σ H Q ⟨S, m, ρ, st, en, p⟩
  exact Post.here (a := none) st p
theorem po_e {e : Expr} {E : Env → Store → R T} (h : PE X e (RdE (gof u X) W E)) : PO X (some e) (RdO (gof u X) W (evP true E)) := by
  refine PO.imp (po_some h) ?_
  rintro σ H Q ⟨S, m, ρ, st, en, p⟩
  refine sub st en ((Post.bind p).mono fun t S1 m1 H1 x1 st1 p1 v fv ev => ?_)
  split at p1
  · rename_i i
    exact ⟨i, ev, Post.here st1 p1⟩
  · exact p1.elim
def rSlE (g : Gx) : V → Option Int → Option Int → Hp → VK → Prop := fun x lo hi H Q => ∃ S m ta t, StRel g S m H ∧ EncT g H m S.length ta x ∧ slice ta lo hi S = some t ∧ ∀ m' H' v, Ext g S m H S m' H' → StRel g S m' H' → FreT H t v → EncT g H' m' S.length t v → Q v H'
theorem cut_enc {g : Gx} {H : Hp} {m : Nat → Addr} {n : Nat} {xs : List D} {vs : List V} (h : EncAll g H m n xs vs) (lo hi : Option Int) : EncAll g H m n (cutD xs lo hi) (cutV vs lo hi) := by
  unfold cutD cutV
  rw [h.length]
  exact EncAll.take _ (EncAll.drop _ h)
theorem sl_E : SlR X (rSlE (gof u X)) := by
  intro pins s σ H x v vl vu lo hi sl Q I rx hs pl pu h
  obtain ⟨S, m, ta, t, st, ea, e, k⟩ := h
  have base : (asL ta S).map (fun xs => T.l (cutD xs lo hi)) = some t → ∃ T id, typeLookup (.type T) "__getitem__" = pure (some (.builtin id)) ∧ s.TypeIs v T ∧ wpAny (model X.prog X.w) X.A (getItem v (.ref sl)) (EP X pins σ Q) X.xe s := fun e => by
    cases e1 : asL ta S with
    | none =>
      rw [e1] at e
      cases e
    | some xs =>
      rw [e1] at e
      cases e
      obtain ⟨p, vs, h1, h2, h3⟩ := asL_ok st ea e1
      refine sl_list pins s σ H x v vl vu lo hi sl Q I rx hs pl pu ⟨p, vs, h1, h2, fun q hq => ?_⟩
      obtain ⟨x1, st1⟩ := alloc_ok (o := .lst (cutV vs lo hi)) st hq
      refine k m _ _ x1 st1 (fun r e => ?_) ⟨q, _, rfl, upd_same, x1.encAll (cut_enc h3 lo hi), st.apart hq⟩
      cases e
      exact Fr.of hq
  unfold slice at e
  split at e
  · rename_i xs
    cases e
    obtain ⟨p, vs, h1, h2, h3⟩ := ea
    refine sl_tupF pins s σ H x v vl vu lo hi sl Q I rx hs pl pu ⟨p, vs, h1, h2.sq, fun hw => ?_, fun hw q o hq ho => ?_⟩
    · refine k m H _ Ext.refl st trivial ⟨p, vs, rfl, h2, ?_⟩
      have : cutV vs lo hi = vs := by
        unfold cutV
        rw [hw.1, hw.2]
        simp
      rw [← this]
      exact cut_enc h3 lo hi
    · obtain ⟨x1, st1⟩ := alloc_ok (o := .frz o (.tup (cutV vs lo hi))) st hq
      exact k m _ _ x1 st1 trivial ⟨q, _, rfl, PlT.new ho, x1.encAll (cut_enc h3 lo hi)⟩
  · exact base e
theorem pe_slE {a : Expr} {lo hi : Option Expr} {Ea : Env → Store → R T} {Pl Ph : Env → Store → R (Option Int)} {pos p2 : Pos} (ha : PE X a (RdE (gof u X) W Ea)) (hl : PO X lo (RdO (gof u X) W Pl)) (hh : PO X hi (RdO (gof u X) W Ph)) :
    PE X (.Subscript a (.Slice lo hi none p2) pos) (RdE (gof u X) W fun ρ S => (Ea ρ S).bind fun ta S1 => (Pl ρ S1).bind fun l S2 => (Ph ρ S2).bind fun h S3 => opt (slice ta l h S3) S3) := by
  refine PE.imp (pe_slice (sl_E (u := u)) ha hl hh) ?_
  rintro σ H Q ⟨S, m, ρ, st, en, p⟩
  refine sub st en (p.bind.mono fun ta S1 m1 H1 x1 st1 p1 v fv ev => ?_)
  refine ⟨S1, m1, ρ, st1, x1.env en, p1.bind.mono fun l S2 m2 H2 x2 st2 p2 => ?_⟩
  refine ⟨S2, m2, ρ, st2, (x1.trans x2).env en, p2.bind.mono fun h S3 m3 H3 x3 st3 p3 => ?_⟩
  obtain ⟨t, e, k⟩ := p3.opt
  exact ⟨S3, m3, ta, t, st3, (x2.trans x3).encT st1 ev, e, fun m' H' v y st' fr en' => k m' H' y st' v (FreT.back ((x1.trans x2).trans x3) fr) en'⟩

/-! ### builtins -/
def rBi (g : Gx) (b : Bi) : List V → Hp → VK → Prop := fun xs H Q => ∃ S m H0 ts t, StRel g S m H ∧ EncTs g H0 H m S.length ts xs ∧ biF b ts S = some t ∧ ∀ m' H' v, Ext g S m H S m' H' → StRel g S m' H' → FreT H t v → EncT g H' m' S.length t v → Q v H'
theorem encTs1 {g : Gx} {H0 H : Hp} {m : Nat → Addr} {n : Nat} {t : T} {vs : List V} (h : EncTs g H0 H m n [t] vs) : ∃ v, vs = [v] ∧ EncT g H m n t v := by
  cases h with
  | cons f e r =>
    cases r
    exact ⟨_, rfl, e⟩
theorem encTs2 {g : Gx} {H0 H : Hp} {m : Nat → Addr} {n : Nat} {t t' : T} {vs : List V} (h : EncTs g H0 H m n [t, t'] vs) : ∃ v v', vs = [v, v'] ∧ EncT g H m n t v ∧ EncT g H m n t' v' := by
  cases h with
  | cons f e r =>
    cases r with
    | cons f' e' r' =>
      cases r'
      exact ⟨_, _, rfl, e, e'⟩
theorem enc_ints {g : Gx} {H : Hp} {m : Nat → Addr} {n : Nat} : ∀ {xs : List D} {vs : List V} {ns : List Int}, EncAll g H m n xs vs → intL xs = some ns → vs = ns.map V.int
  | [], _, _, h, e => by
    cases e
    exact h
  | d :: xs, vs, ns, h, e => by
    obtain ⟨v, r, e1, h1, h2⟩ := h
    cases d with
    | int i =>
      have e' : (intL xs).map (i :: ·) = some ns := e
      cases e2 : intL xs with
      | none =>
        rw [e2] at e'
        cases e'
      | some ms =>
        rw [e2] at e'
        cases e'
        have h1' : v = .int i := h1
        rw [e1, h1', enc_ints h2 e2]
        rfl
    | _ => cases e
theorem enc_bools {g : Gx} {H : Hp} {m : Nat → Addr} {n : Nat} : ∀ {xs : List D} {vs : List V} {ns : List Bool}, EncAll g H m n xs vs → bools xs = some ns → vs = ns.map V.bl
  | [], _, _, h, e => by
    cases e
    exact h
  | d :: xs, vs, ns, h, e => by
    obtain ⟨v, r, e1, h1, h2⟩ := h
    cases d with
    | bl i =>
      have e' : (bools xs).map (i :: ·) = some ns := e
      cases e2 : bools xs with
      | none =>
        rw [e2] at e'
        cases e'
      | some ms =>
        rw [e2] at e'
        cases e'
        have h1' : v = .bl i := h1
        rw [e1, h1', enc_bools h2 e2]
        rfl
    | _ => cases e
theorem bi_all (hc : X.calm = true) : CallR X (.builtin "all") (rBi (gof u X) .all) := by
  intro pins s σ H xs us Q I r h
  obtain ⟨S, m, H0, ts, t, st, ea, e, k⟩ := h
  unfold biF at e
  split at e <;> try contradiction
  rename_i ta _
  obtain ⟨v, rfl, ev⟩ := encTs1 ea
  cases e1 : asL ta S with
  | none =>
    rw [e1] at e
    cases e
  | some ds =>
    rw [e1] at e
    have e' : (bools ds).map (fun bs => T.v (.bl (bs.all id))) = some t := e
    cases e2 : bools ds with
    | none =>
      rw [e2] at e'
      cases e'
    | some bs =>
      rw [e2] at e'
      cases e'
      obtain ⟨p, vs, rfl, h2, h3⟩ := asL_ok st ev e1
      have h4 := enc_bools h3 e2
      subst h4
      exact cr_all hc pins s σ H _ us Q I r ⟨p, bs, rfl, h2, k m H _ Ext.refl st trivial rfl⟩
theorem bi_abs : CallR X (.builtin "abs") (rBi (gof u X) .abs) := by
  intro pins s σ H xs us Q I r h
  obtain ⟨S, m, H0, ts, t, st, ea, e, k⟩ := h
  unfold biF at e
  split at e <;> try contradiction
  cases e
  obtain ⟨v, rfl, ev⟩ := encTs1 ea
  have ev' : v = .int _ := ev
  subst ev'
  exact call_abs pins s σ H _ us Q I r ⟨_, rfl, k m H _ Ext.refl st trivial rfl⟩
theorem bi_int : CallR X (.type "int") (rBi (gof u X) .int) := by
  intro pins s σ H xs us Q I r h
  obtain ⟨S, m, H0, ts, t, st, ea, e, k⟩ := h
  unfold biF at e
  split at e <;> try contradiction
  cases e
  obtain ⟨v, rfl, ev⟩ := encTs1 ea
  have ev' : v = .int _ := ev
  subst ev'
  exact call_int1 pins s σ H _ us Q I r (.inl ⟨_, rfl, k m H _ Ext.refl st trivial rfl⟩)
theorem bi_max2 (hc : X.calm = true) : CallR X (.builtin "max") (rBi (gof u X) .max2) := by
  intro pins s σ H xs us Q I r h
  obtain ⟨S, m, H0, ts, t, st, ea, e, k⟩ := h
  unfold biF at e
  split at e <;> try contradiction
  cases e
  obtain ⟨v, v', rfl, ev, ev2⟩ := encTs2 ea
  have e1 : v = .int _ := ev
  have e2 : v' = .int _ := ev2
  subst e1 e2
  exact call_max2 hc pins s σ H _ us Q I r ⟨_, _, rfl, k m H _ Ext.refl st trivial rfl⟩
theorem bi_tuple : CallR X (.type "tuple") (rBi (gof u X) .tuple) := by
  intro pins s σ H xs us Q I r h
  obtain ⟨S, m, H0, ts, t, st, ea, e, k⟩ := h
  unfold biF at e
  split at e <;> try contradiction
  rename_i ta _
  obtain ⟨v, rfl, ev⟩ := encTs1 ea
  cases e1 : asQ ta S with
  | none =>
    rw [e1] at e
    cases e
  | some ds =>
    rw [e1] at e
    cases e
    obtain ⟨p, vs, rfl, h2, h3⟩ := asQ_ok st ev e1
    rcases h2 with h2 | ⟨h2, _⟩
    · refine call_tupleF pins s σ H _ us Q I r ⟨p, vs, rfl, .inl ⟨h2, fun q o hq ho => ?_⟩⟩
      obtain ⟨x1, st1⟩ := alloc_ok (o := .frz o (.tup vs)) st hq
      exact k m _ _ x1 st1 trivial ⟨q, _, rfl, PlT.new ho, x1.encAll h3⟩
    · exact call_tupleF pins s σ H _ us Q I r ⟨p, vs, rfl, .inr ⟨h2.sq, k m H _ Ext.refl st trivial ⟨p, vs, rfl, h2, h3⟩⟩⟩
theorem bi_list : CallR X (.type "list") (rBi (gof u X) .list) := by
  intro pins s σ H xs us Q I r h
  obtain ⟨S, m, H0, ts, t, st, ea, e, k⟩ := h
  unfold biF at e
  split at e <;> try contradiction
  rename_i ta _
  obtain ⟨v, rfl, ev⟩ := encTs1 ea
  cases e1 : asQ ta S with
  | none =>
    rw [e1] at e
    cases e
  | some ds =>
    rw [e1] at e
    cases e
    obtain ⟨p, vs, rfl, h2, h3⟩ := asQ_ok st ev e1
    refine call_list_of pins s σ H _ us Q I r ⟨p, vs, rfl, h2.imp id fun h => h.1.sq, fun q hq => ?_⟩
    obtain ⟨x1, st1⟩ := alloc_ok (o := .lst vs) st hq
    refine k m _ _ x1 st1 (fun r e => ?_) ⟨q, _, rfl, upd_same, x1.encAll h3, st.apart hq⟩
    cases e
    exact Fr.of hq
theorem bi_sum (hc : X.calm = true) : CallR X (.builtin "sum") (rBi (gof u X) .sum) := by
  intro pins s σ H xs us Q I r h
  obtain ⟨S, m, H0, ts, t, st, ea, e, k⟩ := h
  unfold biF at e
  split at e <;> try contradiction
  rename_i ta _
  obtain ⟨v, rfl, ev⟩ := encTs1 ea
  cases e1 : asQ ta S with
  | none =>
    rw [e1] at e
    cases e
  | some ds =>
    rw [e1] at e
    have e' : (intL ds).map (fun ns => T.v (.int ns.sum)) = some t := e
    cases e2 : intL ds with
    | none =>
      rw [e2] at e'
      cases e'
    | some ns =>
      rw [e2] at e'
      cases e'
      obtain ⟨p, vs, rfl, h2, h3⟩ := asQ_ok st ev e1
      have h4 := enc_ints h3 e2
      subst h4
      have q := k m H _ Ext.refl st trivial rfl
      rw [Vals.ref1 r]
      rcases h2 with h2 | ⟨h2, _⟩
      · obtain ⟨its, rv, pl, hz⟩ := I.list h2
        exact sum_raw (I.ok.hd hc) pl.isList (intsAre_of rv) fun h' tk t' hk => ⟨.int ns.sum, H, I.kept hk, ⟨t', rfl⟩, q⟩
      · obtain ⟨its, rv, pl, hz⟩ := I.tuple h2.sq
        have hi := intsAre_of rv
        obtain ⟨ys, e3⟩ := hi.allInts.items
        have hn : numsOf (intItems ys).toList = ns := by
          rw [← e3]
          exact hi.numsOf
        rw [nums_intItems] at hn
        rw [e3] at pl
        refine PySem.W.ktm_sumG (I.ok.hd hc) pl fun h' tk t' hk => ?_
        refine ⟨.int ns.sum, H, I.kept hk, ⟨t', ?_⟩, q⟩
        rw [preSum_eq, List.take_of_length_le (by simp), hn]
theorem enc_each {g : Gx} {H : Hp} {m : Nat → Addr} {n : Nat} : ∀ {xs : List D} {vs : List V} {us : List Value}, EncAll g H m n xs vs → Vals vs us → PySem.W.EachIs (fun w d => ∃ v, L2.RelV v w ∧ Enc g H m n d v) us xs
  | [], _, us, h, r => by
    have h' : _ = [] := h
    subst h'
    cases r
    exact .nil
  | d :: xs, _, us, h, r => by
    obtain ⟨v, q, e1, h1, h2⟩ := h
    subst e1
    cases r with
    | cons r1 r2 => exact .cons ⟨v, r1, h1⟩ (enc_each h2 r2)
theorem each_enc {g : Gx} {H : Hp} {m : Nat → Addr} {n : Nat} {xs : List D} {us : List Value} (h : PySem.W.EachIs (fun w d => ∃ v, L2.RelV v w ∧ Enc g H m n d v) us xs) : ∃ vs, EncAll g H m n xs vs ∧ Vals vs us := by
  induction h with
  | nil => exact ⟨[], EncAll.nil, .nil⟩
  | cons h _ ih =>
    obtain ⟨v, r1, h1⟩ := h
    obtain ⟨vs, h2, r2⟩ := ih
    exact ⟨v :: vs, EncAll.cons h1 h2, .cons r1 r2⟩
theorem deps_mem : ∀ {xs : List D} {d : D}, d ∈ xs → d.dep ≤ D.deps xs
  | x :: xs, d, h => by
    show d.dep ≤ max x.dep (D.deps xs)
    rcases List.mem_cons.mp h with e | h
    · rw [e]
      exact Nat.le_max_left _ _
    · exact Nat.le_trans (deps_mem h) (Nat.le_max_right _ _)
theorem sortable_ok {xs : List D} (h : sortable xs = true) : D.pures xs = true ∧ PySem.W.AllAlike (xs.map D.py) ∧ PySem.W.Sortable (xs.map D.py) ∧ D.deps xs ≤ 50 ∧ xs.length ≤ lim := by
  unfold sortable at h
  rw [Bool.and_eq_true, Bool.and_eq_true, Bool.and_eq_true, Bool.and_eq_true, decide_eq_true_eq, decide_eq_true_eq, Bool.or_eq_true] at h
  obtain ⟨⟨⟨⟨h1, h2⟩, h3⟩, h4⟩, h5⟩ := h
  refine ⟨h1, ?_, ?_, h3, h4⟩
  · intro d hd d' hd'
    obtain ⟨b, hb, rfl⟩ := List.mem_map.mp hd
    obtain ⟨b', hb', rfl⟩ := List.mem_map.mp hd'
    exact List.all_eq_true.mp (List.all_eq_true.mp h2 b hb) b' hb'
  · rcases h5 with h5 | h5
    · left
      intro d hd
      obtain ⟨b, hb, rfl⟩ := List.mem_map.mp hd
      have z := List.all_eq_true.mp h5 b hb
      cases b with
      | tup ys =>
        cases ys with
        | nil => cases z
        | cons y ys => exact ⟨y.py, D.pys ys, rfl⟩
      | _ => cases z
    · right
      intro d hd
      obtain ⟨b, hb, rfl⟩ := List.mem_map.mp hd
      have z := List.all_eq_true.mp h5 b hb
      cases b with
      | int i => exact ⟨(fun e => by cases e), fun ys e => by cases e⟩
      | str i => exact ⟨(fun e => by cases e), fun ys e => by cases e⟩
      | bl i => exact ⟨(fun e => by cases e), fun ys e => by cases e⟩
      | _ => cases z
theorem enc_reads {m : Nat → Addr} {n : Nat} {pins : List (Addr × Obj)} {s : Shared} {σ : L2.St} {H : Hp} (I : L2.Inv X pins σ H s) : ∀ {xs : List D} {vs : List V} {us : List Value}, D.pures xs = true → EncAll (gof u X) H m n xs vs → Vals vs us →
    PySem.W.EachIs (fun w d => ∃ as, Reads s.heap w (D.py d) as) us xs
  | [], _, us, _, h, r => by
    have h' : _ = [] := h
    subst h'
    cases r
    exact .nil
  | d :: xs, _, us, p, h, r => by
    obtain ⟨v, q, e1, h1, h2⟩ := h
    subst e1
    have p' : (d.pure && D.pures xs) = true := p
    rw [Bool.and_eq_true] at p'
    cases r with
    | cons r1 r2 => exact .cons (Dp.reads I d.py v _ (Enc.dp d v p'.1 h1) r1) (enc_reads I p'.2 h2 r2)
theorem leD_total : PySem.W.TotalLe leD := PySem.W.sortLe_total _ false _
theorem insD_at {a : D} : ∀ {l1 l2 : List D}, (∀ b ∈ l1, leD a b = false) → (∀ b ∈ l2, leD a b = true) → insD a (l1 ++ l2) = l1 ++ a :: l2
  | [], [], _, _ => rfl
  | [], y :: ys, _, h => by
    show (if leD a y then a :: y :: ys else y :: insD a ys) = _
    rw [if_pos (h y List.mem_cons_self)]
    rfl
  | x :: xs, l2, h1, h2 => by
    show (if leD a x then a :: x :: (xs ++ l2) else x :: insD a (xs ++ l2)) = _
    rw [if_neg (by rw [h1 x List.mem_cons_self]; decide), insD_at (fun b hb => h1 b (List.mem_cons_of_mem _ hb)) h2]
    rfl
theorem sortD_eq : ∀ xs : List D, xs.mergeSort (PySem.W.dataLe false D.py) = sortD xs
  | [] => by simp [sortD]
  | a :: l => by
    have T := leD_total
    obtain ⟨l1, l2, h1, h2, h3⟩ := List.mergeSort_cons (le := leD) T.trans (fun a b => by simpa using T.total a b) a l
    have hp : ((a :: l).mergeSort leD).Pairwise (fun x y => leD x y = true) := List.pairwise_mergeSort T.trans (fun a b => by simpa using T.total a b) _
    have ih := sortD_eq l
    show (a :: l).mergeSort leD = insD a (sortD l)
    rw [← ih, show l.mergeSort (PySem.W.dataLe false D.py) = l1 ++ l2 from h2, h1]
    rw [h1] at hp
    refine (insD_at (fun b hb => by have z := h3 b hb; simpa using z) fun b hb => ?_).symm
    exact (List.pairwise_cons.mp (List.pairwise_append.mp hp).2.1).1 b hb
theorem bi_sorted (hu : X.A.units + 64 < cLine) : CallR X (.builtin "sorted") (rBi (gof u X) .sorted) := by
  intro pins s σ H xs us Q I r h
  obtain ⟨S, m, H0, ts, t, st, ea, e, k⟩ := h
  unfold biF at e
  split at e <;> try contradiction
  rename_i ta _
  obtain ⟨v, rfl, ev⟩ := encTs1 ea
  cases e1 : asQ ta S with
  | none =>
    rw [e1] at e
    cases e
  | some ds =>
    rw [e1] at e
    have e' : (if sortable ds then some (T.l (sortD ds)) else none) = some t := e
    split at e'
    · rename_i hs
      cases e'
      obtain ⟨p, vs, rfl, h2, h3⟩ := asQ_ok st ev e1
      obtain ⟨s1, s2, s3, s4, s5⟩ := sortable_ok hs
      rw [Vals.ref1 r]
      have fin : ∀ (its : List Value), Vals vs its → PySem.W.EachIs (fun w d => ∃ v, L2.RelV v w ∧ Enc (gof u X) H m S.length d v) its ds ∧ PySem.W.EachIs (fun v b => ∃ as, Reads s.heap v (D.py b) as) its ds ∧ (∀ b, b ∈ ds → X.A.units + 2 + (D.py b).depth < cLine) ∧
          ∀ out : List Value, out.length = ds.length → PySem.W.EachIs (fun w d => ∃ v, L2.RelV v w ∧ Enc (gof u X) H m S.length d v) out (ds.mergeSort (PySem.W.dataLe false D.py)) →
            EP X pins σ Q (.ref (s.heap.objs.size + 1)) { s with heap := sortedAll s.heap its (List.toArray out) } := fun its rv => by
        have ee := enc_each h3 rv
        refine ⟨ee, ?_, fun b hb => ?_, fun out ho eo => ?_⟩
        · exact enc_reads I s1 h3 rv
        · rw [py_dep]
          have z := deps_mem hb
          omega
        · rw [sortD_eq] at eo
          obtain ⟨ws, w1, w2⟩ := each_enc eo
          obtain ⟨c, hc⟩ := sortedAll_at s.heap its out.toArray
          have hl : ws.length ≤ sizeLine := by
            rw [w1.length, ← sortD_eq, List.length_mergeSort]
            exact Nat.le_trans s5 lim_le
          have I1 : L2.Inv X pins σ (upd H (s.heap.objs.size + 1) (.lst ws)) { s with heap := sortedAll s.heap its (List.toArray out) } :=
            I.laid (t' := s.toks) (fun b o q => sortedAll_old q) (Nat.le_succ _) ⟨hl, out, c, w2, hc⟩
          have hp : H (s.heap.objs.size + 1) = none := I.hok.fresh (Nat.le_succ _)
          obtain ⟨x1, st1⟩ := alloc_ok (o := .lst ws) st hp
          refine ⟨.ref (s.heap.objs.size + 1), _, I1, rfl, k m _ _ x1 st1 (fun r e => ?_) ⟨_, ws, rfl, upd_same, x1.encAll w1, st.apart hp⟩⟩
          cases e
          exact Fr.of hp
      rcases h2 with h2 | ⟨h2, _⟩
      · obtain ⟨its, rv, pl, hz⟩ := I.list h2
        obtain ⟨f1, f2, f3, f4⟩ := fin its rv
        exact PySem.W.sorted_data pl.isList f1 f2 s2 s3 (Nat.le_trans s5 lim_le) f3 f4
      · obtain ⟨its, rv, pl, hz⟩ := I.tuple h2.sq
        obtain ⟨f1, f2, f3, f4⟩ := fin its rv
        exact PySem.W.sorted_tup_data pl f1 f2 s2 s3 (Nat.le_trans s5 lim_le) f3 f4
    · cases e'
end
end Ev
-- EvS6
set_option Elab.async false
set_option linter.all false
set_option maxRecDepth 100000
set_option maxHeartbeats 4000000
/-! EvS6: a cell is written; dicts. -/
namespace Ev
open PySem PySem.Spec PyProof.Rows L2

/-! ### a cell is written -/
def HO.wr : HO → Bool
  | .lst _ => true
  | .ext _ => true
  | _ => false
theorem PlT.upd {K : PySem.W.Frag} {H : Hp} {p : Addr} {o u : HO} (hp : H p = some u) (hu : HO.wr u = true) {a : Addr} {vs : List V} (h : PlT K H a vs) : PlT K (upd H p o) a vs := by
  rcases h with ⟨ob, h, d⟩ | h
  · refine .inl ⟨ob, ?_, d⟩
    rw [upd_ne ?_]
    · exact h
    · rintro rfl
      rw [hp] at h
      cases h
      cases hu
  · exact .inr h
theorem write_ok {g : Gx} {S : Store} {m : Nat → Addr} {H : Hp} {k : Nat} {c c' : Cell} {o u : HO} (st : StRel g S m H) (h0 : 0 < k) (hk : S[k]? = some c) (hl : lockAt S k = false) (hp : H (m k) = some u) (hu : HO.wr u = true) (hc : ∀ a q, u ≠ LamX.CodeO a q)
    (hwo : HO.wr o = true) (hr : c'.isRo = false) (hl' : ∀ S', S'[k]? = some c' → lockAt S' k = false) (new : CellRel g (upd H (m k) o) m S.length (m k) c') :
    Ext g S m H (S.set k c') m (upd H (m k) o) ∧ StRel g (S.set k c') m (upd H (m k) o) := by
  have hkl : k < S.length := (List.getElem?_eq_some_iff.mp hk).1
  have ll : (S.set k c').length = S.length := List.length_set
  have gk : (S.set k c')[k]? = some c' := by
    rw [List.getElem?_set_self hkl]
  have gj : ∀ j, j ≠ k → (S.set k c')[j]? = S[j]? := fun j hj => List.getElem?_set_ne (Ne.symm hj)
  have nd : ∀ {b : Addr} {w : HO}, H b = some w → HO.wr w = false → b ≠ m k := fun {b w} e hw z => by
    rw [z, hp] at e
    cases e
    rw [hu] at hw
    cases hw
  have keepB : ∀ b w, b ≠ m k → H b = some w → upd H (m k) o b = some w := fun b w hb e => by rw [upd_ne hb]; exact e
  refine ⟨⟨Nat.le_of_eq ll.symm, fun _ _ => rfl, fun j hj => ?_, fun b w e nt hlk => keepB b w (fun z => ?_) e, fun b xs e => keepB b _ (nd e rfl) e, fun b w v e => keepB b _ (nd e rfl) e, fun b e => ?_, fun j h1 h2 => ?_⟩, ⟨fun i j i0 j0 hi hj e => ?_, ?_, fun j xs e => ?_, fun j d e => ?_, ?_⟩⟩
  · by_cases hj' : j = k
    · rw [hj', hl, hl' _ gk]
    · unfold lockAt
      rw [gj j hj']
  · have q := hlk k hkl z.symm
    rw [hl] at q
    cases q
  · intro w ew
    by_cases hb : b = m k
    · have z := e o (by rw [hb, upd_same])
      obtain ⟨ps, z⟩ := z
      rw [z] at hwo
      cases hwo
    · exact e w (keepB b w hb ew)
  · rw [ll] at h2
    exact absurd (Nat.lt_of_le_of_lt h1 h2) (Nat.lt_irrefl _)
  · rw [ll] at hi hj
    exact st.inj i j i0 j0 hi hj e
  · obtain ⟨xs, e⟩ := st.zero
    exact ⟨xs, by rw [gj 0 (Nat.ne_of_lt h0)]; exact e⟩
  · by_cases hj : j = k
    · rw [hj, gk] at e
      cases e
      cases hr
    · rw [gj j hj] at e
      exact st.own j xs e
  · rw [ll]
    by_cases hj : j = k
    · rw [hj, gk] at e
      cases e
      rw [hj]
      exact new
    · rw [gj j hj] at e
      have cr := st.cell j d e
      have hjl : j < S.length := (List.getElem?_eq_some_iff.mp e).1
      have tk : TK g H (upd H (m k) o) := fun a vs h => PlT.upd hp hu h
      by_cases j0 : 0 < j
      · exact CellRel.mono tk (Nat.le_refl _) (fun _ _ => rfl) (fun w ew _ => keepB _ w (fun z => hj (st.inj j k j0 h0 hjl hkl z)) ew) cr
      · have ej : j = 0 := by omega
        obtain ⟨zs, hz⟩ := st.zero
        rw [ej, hz] at e
        cases e
        rw [ej] at cr ⊢
        obtain ⟨vs, q1, q2⟩ := cr
        refine ⟨vs, ?_, EncAll.mono tk (Nat.le_refl _) (fun _ _ => rfl) _ _ q2⟩
        rcases q1 with ⟨w, q⟩ | q
        · exact .inl ⟨w, keepB _ _ (nd q rfl) q⟩
        · exact .inr q
  · intro p hpT
    obtain ⟨ps, h1, h2, h3⟩ := st.tabs p hpT
    refine ⟨ps, keepB _ _ (nd h1 rfl) h1, h2, fun pos cv hcv => ?_⟩
    obtain ⟨c1, e1, e2⟩ := h3 pos cv hcv
    refine ⟨c1, e1, keepB _ _ (fun z => ?_) e2⟩
    rw [z, hp] at e2
    exact hc _ _ (Option.some.inj e2)
/-- a thing beside the store is written -/
theorem free_write {g : Gx} {S0 S : Store} {m0 m : Nat → Addr} {H0 H : Hp} {a : Addr} {o u : HO} (x : Ext g S0 m0 H0 S m H) (st : StRel g S m H) (h0 : H0 a = none) (ha : H a = some u) (hu : HO.wr u = true) (hc : ∀ b q, u ≠ LamX.CodeO b q)
    (ap : ∀ j, 0 < j → j < S.length → m j ≠ a) : Ext g S0 m0 H0 S m (upd H a o) ∧ StRel g S m (upd H a o) := by
  have keepB : ∀ b w, b ≠ a → H b = some w → upd H a o b = some w := fun b w hb e => by rw [upd_ne hb]; exact e
  have nd : ∀ {b : Addr} {w : HO}, H b = some w → HO.wr w = false → b ≠ a := fun {b w} e hw z => by
    rw [z, ha] at e
    cases e
    rw [hu] at hw
    cases hw
  have nz : ∀ {b : Addr} {w : HO}, H0 b = some w → b ≠ a := fun {b w} e z => by
    rw [z, h0] at e
    cases e
  have tk : TK g H (upd H a o) := fun b vs h => PlT.upd ha hu h
  refine ⟨⟨x.le, x.ag, x.lk, fun b w e nt hl => keepB b w (nz e) (x.keep b w e nt hl), fun b xs e => keepB b _ (nz e) (x.tup b xs e), fun b w v e => keepB b _ (nz e) (x.frz b w v e), fun b e => ?_, x.new⟩, ⟨st.inj, st.zero, st.own, fun j d e => ?_, ?_⟩⟩
  · by_cases hb : b = a
    · rw [hb]
      exact Fr.of h0
    · refine x.dom b fun w ew => e w (keepB b w hb ew)
  · have cr := st.cell j d e
    have hjl : j < S.length := (List.getElem?_eq_some_iff.mp e).1
    by_cases j0 : 0 < j
    · exact CellRel.mono tk (Nat.le_refl _) (fun _ _ => rfl) (fun w ew _ => keepB _ w (ap j j0 hjl) ew) cr
    · have ej : j = 0 := by omega
      obtain ⟨zs, hz⟩ := st.zero
      rw [ej, hz] at e
      cases e
      rw [ej] at cr ⊢
      obtain ⟨vs, q1, q2⟩ := cr
      refine ⟨vs, ?_, EncAll.mono tk (Nat.le_refl _) (fun _ _ => rfl) _ _ q2⟩
      rcases q1 with ⟨w, q⟩ | q
      · exact .inl ⟨w, keepB _ _ (nd q rfl) q⟩
      · exact .inr q
  · intro p hpT
    obtain ⟨ps, h1, h2, h3⟩ := st.tabs p hpT
    refine ⟨ps, keepB _ _ (nd h1 rfl) h1, h2, fun pos cv hcv => ?_⟩
    obtain ⟨c1, e1, e2⟩ := h3 pos cv hcv
    refine ⟨c1, e1, keepB _ _ (fun z => ?_) e2⟩
    rw [z, ha] at e2
    exact hc _ _ (Option.some.inj e2)
/-- a thing that is laid beside the store stays beside it -/
theorem apart_up {g : Gx} {S S' : Store} {m m' : Nat → Addr} {H H' : Hp} {a : Addr} (x : Ext g S m H S' m' H') (ha : ∃ o, H a = some o ∧ ∀ ps, o ≠ .tbl ps) (ap : ∀ j, 0 < j → j < S.length → m j ≠ a) : ∀ j, 0 < j → j < S'.length → m' j ≠ a := fun j j0 hj z => by
  by_cases hs : j < S.length
  · exact ap j j0 hs ((x.ag j hs).symm.trans z)
  · have q := x.new j (Nat.le_of_not_lt hs) hj
    rw [z] at q
    obtain ⟨o, e, nt⟩ := ha
    exact q.no e nt
/-- what lies beside the store is kept -/
theorem keep_free {g : Gx} {S S' : Store} {m m' : Nat → Addr} {H H' : Hp} {a : Addr} {o : HO} (x : Ext g S m H S' m' H') (st : StRel g S m H) (ha : H a = some o) (nt : ∀ ps, o ≠ .tbl ps) (ap : ∀ j, 0 < j → j < S.length → m j ≠ a) : H' a = some o :=
  x.keep a o ha nt fun j hj z => by
    by_cases j0 : 0 < j
    · exact absurd z (ap j j0 hj)
    · have : j = 0 := by omega
      obtain ⟨zs, hz⟩ := st.zero
      rw [this]
      unfold lockAt
      rw [hz]
theorem raw_code {X : Cx} {pins : List (Addr × Obj)} {σ : L2.St} {H : Hp} {s : Shared} {a : Addr} {o : Obj} {es : Array DictEntry} {ep : Nat} (I : L2.Inv X pins σ H s) (h : H a = some (RawO a o)) (hd : o.data = .dict es ep) (c : Addr) (q : Str) : RawO a o ≠ LamX.CodeO c q := fun e => by
  have h1 : ObjOk X.prog X.w H s.heap a (RawO a o) := I.hok a _ h
  have h2 : s.heap.get? a = some o := h1.1
  have e' : (fun h : Heap => h.get? a = some o) = (fun h => ∃ (oc : Obj) (vs : Array Value) (t : Tok), h.get? c = some oc ∧ oc.data = .fields vs ∧ vs[1]? = some (.str q t)) := HO.ext.inj e
  by_cases hac : c = a
  · have h3 : ∃ (oc : Obj) (vs : Array Value) (t : Tok), s.heap.get? c = some oc ∧ oc.data = .fields vs ∧ vs[1]? = some (.str q t) := cast (congrFun e' s.heap) h2
    obtain ⟨oc, vs, t, g1, g2, _⟩ := h3
    rw [hac, h2] at g1
    cases g1
    rw [hd] at g2
    cases g2
  · have h4 : (PySem.W.hideAll s.heap [c]).get? a = some o := PySem.W.hideAll_get _ h2 (by simp; exact fun z => hac z.symm)
    have h3 : ∃ (oc : Obj) (vs : Array Value) (t : Tok), (PySem.W.hideAll s.heap [c]).get? c = some oc ∧ oc.data = .fields vs ∧ vs[1]? = some (.str q t) := cast (congrFun e' (PySem.W.hideAll s.heap [c])) h4
    obtain ⟨oc, vs, t, g1, g2, _⟩ := h3
    have z : (PySem.W.hideAll s.heap [c]).get? c = none := PySem.W.hideAll_none [c] (List.mem_singleton.mpr rfl)
    rw [z] at g1
    cases g1

/-! ### a dict, opened and closed -/
section
variable {X : Cx} {u : Tb} {W : WX} {pins : List (Addr × Obj)} {σ : L2.St} {H : Hp} {s : Shared} {m : Nat → Addr} {n : Nat}
mutual
theorem nested_ok (I : L2.Inv X pins σ H s) : ∀ (d : D) (v : V) (w : Value), d.pure = true → Enc (gof u X) H m n d v → L2.RelV v w → NestedIs s.heap d.nk w
  | .non, _, _, _, h, r => by
    have h' : _ = V.non := h
    subst h'
    have r' : _ = Value.none := r
    rw [r']
    exact .none
  | .bl b, _, _, _, h, r => by
    have h' : _ = V.bl b := h
    subst h'
    have r' : _ = Value.bool b := r
    rw [r']
    exact .bool rfl
  | .int b, _, _, _, h, r => by
    have h' : _ = V.int b := h
    subst h'
    obtain ⟨t, r'⟩ := r
    rw [r']
    exact .int b t
  | .str b, _, _, _, h, r => by
    have h' : _ = V.str b := h
    subst h'
    obtain ⟨t, r'⟩ := r
    rw [r']
    exact .text b t
  | .tup xs, _, _, p, h, r => by
    obtain ⟨a, vs, e, h1, h2⟩ := h
    subst e
    have r' : _ = Value.ref a := r
    rw [r']
    obtain ⟨its, rv, ⟨o, ho, hc, k, hd⟩, _⟩ := I.tuple h1.sq
    exact .tup ho hc hd (nested_all I xs vs its p h2 rv)
  | .ref _, _, _, p, _, _ => by cases p
  | .fn _, _, _, p, _, _ => by cases p
theorem nested_all (I : L2.Inv X pins σ H s) : ∀ (ds : List D) (vs : List V) (ws : List Value), D.pures ds = true → EncAll (gof u X) H m n ds vs → Vals vs ws → NestedAll s.heap (D.nks ds) ws
  | [], _, _, _, h, r => by
    have h' : _ = [] := h
    subst h'
    cases r
    exact .nil
  | d :: ds, _, _, p, h, r => by
    obtain ⟨v, q, e, h1, h2⟩ := h
    subst e
    have p' : (d.pure && D.pures ds) = true := p
    rw [Bool.and_eq_true] at p'
    cases r with
    | cons r1 r2 => exact .cons (nested_ok I d v _ p'.1 h1 r1) (nested_all I ds q _ p'.2 h2 r2)
end
mutual
theorem nk_depth : ∀ d : D, d.nk.depth = d.dep
  | .non => by simp [D.nk, D.dep, NestedKey.depth]
  | .bl _ => by simp [D.nk, D.dep, NestedKey.depth]
  | .int _ => by simp [D.nk, D.dep, NestedKey.depth]
  | .str _ => by simp [D.nk, D.dep, NestedKey.depth]
  | .tup xs => by
    show NestedKey.depth (.tup (D.nks xs)) = D.deps xs + 1
    rw [NestedKey.depth, nks_depth xs]
  | .ref _ => by simp [D.nk, D.dep, NestedKey.depth]
  | .fn _ => by simp [D.nk, D.dep, NestedKey.depth]
theorem nks_depth : ∀ ds : List D, NestedKey.depthAll (D.nks ds) = D.deps ds
  | [] => by simp [D.nks, D.deps, NestedKey.depthAll]
  | d :: ds => by
    show NestedKey.depthAll (d.nk :: D.nks ds) = max d.dep (D.deps ds)
    rw [NestedKey.depthAll, nk_depth d, nks_depth ds]
end
theorem key_is (I : L2.Inv X pins σ H s) {d : D} {b : Addr} (hk : d.isKey = true) (h : Enc (gof u X) H m n d (.ref b)) : (nestedKind X.prog X.w).is s.heap d.nk b := by
  cases d with
  | tup xs =>
    have hk' : (D.pures xs && decide (D.deps xs ≤ 7)) = true := hk
    rw [Bool.and_eq_true, decide_eq_true_eq] at hk'
    refine ⟨nested_ok I (.tup xs) _ _ hk'.1 h rfl, ?_⟩
    rw [nk_depth]
    exact Nat.succ_le_succ hk'.2
  | _ => cases hk
theorem key_ref {g : Gx} {d : D} {v : V} (hk : d.isKey = true) (h : Enc g H m n d v) : ∃ b, v = .ref b := by
  cases d with
  | tup xs =>
    obtain ⟨a, vs, e, _⟩ := h
    exact ⟨a, e⟩
  | _ => cases hk
/-- an entry, opened -/
def XOk (g : Gx) (H : Hp) (m : Nat → Addr) (n : Nat) (x : NestedKey × Addr × Value) (p : D × D) : Prop :=
  x.1 = p.1.nk ∧ p.1.isKey = true ∧ Enc g H m n p.1 (.ref x.2.1) ∧ ∃ v, L2.RelV v x.2.2 ∧ Enc g H m n p.2 v
theorem XOk.ex {g : Gx} {H' : Hp} {m' : Nat → Addr} {n' : Nat} (t : TK g H H') (hn : n ≤ n') (hm : ∀ k, k < n → m' k = m k) {x : NestedKey × Addr × Value} {p : D × D} (h : XOk g H m n x p) : XOk g H' m' n' x p := by
  obtain ⟨h1, h2, h3, v, h4, h5⟩ := h
  exact ⟨h1, h2, Enc.mono t hn hm _ _ h3, v, h4, Enc.mono t hn hm _ _ h5⟩
theorem ents_open {g : Gx} : ∀ {es : List DictEntry} {kvs : List (D × D)}, Paired (EntOk g H m n) es kvs → ∃ xs : List (NestedKey × Addr × Value), es = xs.map (fun x => ⟨x.1.hash g.w, .ref x.2.1, x.2.2⟩) ∧ Paired (XOk g H m n) xs kvs
  | _, _, .nil => ⟨[], rfl, .nil⟩
  | _, _, .cons (a := e) (b := p) h t => by
    obtain ⟨b, w, v, h1, h2, h3, h4, h5⟩ := h
    obtain ⟨xs, e1, e2⟩ := ents_open t
    exact ⟨(p.1.nk, b, w) :: xs, by rw [h1, e1]; rfl, .cons ⟨rfl, h2, h3, v, h4, h5⟩ e2⟩
theorem ents_close {g : Gx} : ∀ {xs : List (NestedKey × Addr × Value)} {kvs : List (D × D)}, Paired (XOk g H m n) xs kvs → Paired (EntOk g H m n) (xs.map (fun x => (⟨x.1.hash g.w, .ref x.2.1, x.2.2⟩ : DictEntry))) kvs
  | _, _, .nil => .nil
  | _, _, .cons (a := x) (b := p) h t => by
    obtain ⟨h1, h2, h3, v, h4, h5⟩ := h
    exact .cons ⟨x.2.1, x.2.2, v, by show (⟨x.1.hash g.w, _, _⟩ : DictEntry) = _; rw [h1], h2, h3, h4, h5⟩ (ents_close t)
theorem xs_keys {g : Gx} {xs : List (NestedKey × Addr × Value)} {kvs : List (D × D)} (h : Paired (XOk g H m n) xs kvs) : xs.map (·.1) = kvs.map (·.1.nk) := by
  induction h with
  | nil => rfl
  | cons r _ ih => rw [List.map_cons, List.map_cons, ih, r.1]
theorem xs_is (I : L2.Inv X pins σ H s) {xs : List (NestedKey × Addr × Value)} {kvs : List (D × D)} (h : Paired (XOk (gof u X) H m n) xs kvs) : ∀ x ∈ xs, (nestedKind X.prog X.w).is s.heap x.1 x.2.1 := by
  induction h with
  | nil => intro x hx; cases hx
  | cons r _ ih =>
    intro x hx
    rcases List.mem_cons.mp hx with e | hx
    · rw [e, r.1]
      exact key_is I r.2.1 r.2.2.1
    · exact ih x hx
theorem dt_open (I : L2.Inv X pins σ H s) {a : Addr} {kvs : List (D × D)} (h : DTrel (gof u X) H m n a kvs) : ∃ (o : Obj) (es : Array DictEntry) (ep : Nat) (xs : List (NestedKey × Addr × Value)), H a = some (RawO a o) ∧ s.heap.get? a = some o ∧ o.ExactDict ∧ o.data = .dict es ep ∧ (a == sysModules) = false ∧
    s.heap.DictOfH (nestedKind X.prog X.w) a xs ∧ Paired (XOk (gof u X) H m n) xs kvs ∧ xs.length ≤ sizeLine ∧ (kvs.map (·.1.nk)).Nodup := by
  obtain ⟨o, es, ep, h1, h2, h3, h4, h5, h6, h7⟩ := h
  obtain ⟨xs, e1, e2⟩ := ents_open h6
  have hok : ObjOk X.prog X.w H s.heap a (RawO a o) := I.hok a _ h1
  have hg : s.heap.get? a = some o := hok.1
  refine ⟨o, es, ep, xs, h1, hg, h2, h3, h4, ⟨o, es, ep, hg, h2, h3, e1, xs_is I e2, by rw [xs_keys e2]; exact h7⟩, e2, ?_, h7⟩
  have : es.toList.length = xs.length := by rw [e1, List.length_map]
  rw [← this, Array.length_toList]
  exact h5
theorem dt_close {h' : Heap} {a : Addr} {xs : List (NestedKey × Addr × Value)} {kvs : List (D × D)} (hd : h'.DictOfH (nestedKind X.prog X.w) a xs) (ha : (a == sysModules) = false) (hx : xs.length ≤ sizeLine) :
    ∃ o : Obj, h'.get? a = some o ∧ ∀ H' : Hp, H' a = some (RawO a o) → Paired (XOk (gof u X) H' m n) xs kvs → DTrel (gof u X) H' m n a kvs := by
  obtain ⟨o, es, ep, h1, h2, h3, h4, _, h6⟩ := hd
  refine ⟨o, h1, fun H' hH' hp => ⟨o, es, ep, hH', h2, h3, ha, ?_, ?_, ?_⟩⟩
  · rw [← Array.length_toList, h4, List.length_map]
    exact hx
  · rw [h4]
    exact ents_close hp
  · rw [← xs_keys hp]
    exact h6
theorem keq_iff {a b : D} : keq a b = decide (a.nk = b.nk) := (NestedKey.decide_eq _ _).symm
theorem at_pair {g : Gx} {xs : List (NestedKey × Addr × Value)} {kvs : List (D × D)} (h : Paired (XOk g H m n) xs kvs) (d : D) :
    (atKey xs d.nk = none ∧ getD kvs d = none) ∨ ∃ b w v y, atKey xs d.nk = some (b, w) ∧ getD kvs d = some y ∧ L2.RelV v w ∧ Enc g H m n y v := by
  induction h with
  | nil => exact .inl ⟨rfl, rfl⟩
  | @cons x p xs ps r _ ih =>
    by_cases e : p.1.nk = d.nk
    · right
      obtain ⟨h1, h2, h3, v, h4, h5⟩ := r
      refine ⟨x.2.1, x.2.2, v, p.2, ?_, ?_, h4, h5⟩
      · unfold atKey
        rw [List.find?_cons, h1, decide_eq_true e]
        rfl
      · unfold getD
        rw [List.find?_cons, keq_iff, decide_eq_true e]
        rfl
    · have e1 : atKey (x :: xs) d.nk = atKey xs d.nk := by
        unfold atKey
        rw [List.find?_cons, r.1, decide_eq_false e]
      have e2 : getD (p :: ps) d = getD ps d := by
        unfold getD
        rw [List.find?_cons, keq_iff, decide_eq_false e]
      rw [e1, e2]
      exact ih
theorem getD_any {kvs : List (D × D)} {d : D} : (getD kvs d).isSome = kvs.any fun p => keq p.1 d := by
  induction kvs with
  | nil => rfl
  | cons p ps ih =>
    by_cases e : keq p.1 d = true
    · unfold getD
      rw [List.find?_cons, e, List.any_cons, e]
      rfl
    · have e' : keq p.1 d = false := by simpa using e
      unfold getD at ih ⊢
      rw [List.find?_cons, e', List.any_cons, e', Bool.false_or]
      exact ih
theorem put_map {g : Gx} {xs : List (NestedKey × Addr × Value)} {kvs : List (D × D)} (h : Paired (XOk g H m n) xs kvs) {d y : D} {v : V} {w : Value} (r : L2.RelV v w) (e : Enc g H m n y v) :
    Paired (XOk g H m n) (xs.map (putAt d.nk w)) (kvs.map fun p => if keq p.1 d then (p.1, y) else p) := by
  induction h with
  | nil => exact .nil
  | @cons x p xs ps q _ ih =>
    rw [List.map_cons, List.map_cons]
    refine .cons ?_ ih
    obtain ⟨h1, h2, h3, h4⟩ := q
    unfold putAt
    rw [keq_iff, h1]
    by_cases e1 : p.1.nk = d.nk
    · rw [if_pos e1, if_pos (decide_eq_true e1)]
      exact ⟨rfl, h2, h3, v, r, e⟩
    · rw [if_neg e1, if_neg (by rw [decide_eq_false e1]; exact Bool.false_ne_true)]
      exact ⟨h1, h2, h3, h4⟩
theorem paired_app {α β : Type} {F : α → β → Prop} : ∀ {l₁ : List α} {l₂ : List β} {a : α} {b : β}, Paired F l₁ l₂ → F a b → Paired F (l₁ ++ [a]) (l₂ ++ [b])
  | _, _, _, _, .nil, h => .cons h .nil
  | _, _, _, _, .cons r t, h => .cons r (paired_app t h)
theorem put_pair {g : Gx} {xs : List (NestedKey × Addr × Value)} {kvs : List (D × D)} (h : Paired (XOk g H m n) xs kvs) {d y : D} {b : Addr} {v : V} {w : Value} (hk : d.isKey = true) (ed : Enc g H m n d (.ref b)) (r : L2.RelV v w) (e : Enc g H m n y v) :
    Paired (XOk g H m n) (storedH xs d.nk b w) (putD kvs d y) := by
  have hs : (atKey xs d.nk).isSome = (getD kvs d).isSome := by
    rcases at_pair h d with ⟨h1, h2⟩ | ⟨_, _, _, _, h1, h2, _⟩ <;> rw [h1, h2] <;> rfl
  unfold storedH putD
  rw [← getD_any, hs]
  cases (getD kvs d).isSome with
  | true => exact put_map h r e
  | false => exact paired_app h ⟨rfl, hk, ed, v, r, e⟩
theorem storedH_len {xs : List (NestedKey × Addr × Value)} {k : NestedKey} {b : Addr} {w : Value} : (storedH xs k b w).length ≤ xs.length + 1 := by
  unfold storedH
  split
  · rw [List.length_map]
    exact Nat.le_succ _
  · rw [List.length_append]
    exact Nat.le_refl _

/-! ### the dict's rules -/
/-- len -/
theorem bi_len : CallR X (.builtin "len") (rBi (gof u X) .len) := by
  intro pins s σ H xs us Q I r h
  obtain ⟨S, m, H0, ts, t, st, ea, e, k⟩ := h
  unfold biF at e
  split at e <;> try contradiction
  rename_i ta _
  obtain ⟨v, rfl, ev⟩ := encTs1 ea
  cases e1 : asQ ta S with
  | some ds =>
    rw [e1] at e
    cases e
    obtain ⟨p, vs, rfl, h2, h3⟩ := asQ_ok st ev e1
    have q := k m H _ Ext.refl st trivial rfl
    rw [← h3.length] at q
    exact call_len_seq pins s σ H _ us Q I r ⟨p, vs, rfl, h2.imp id fun h => h.1.sq, q⟩
  | none =>
    rw [e1] at e
    have e' : (asT ta S).map (fun kvs => T.v (.int kvs.length)) = some t := e
    cases e2 : asT ta S with
    | none =>
      rw [e2] at e'
      cases e'
    | some kvs =>
      rw [e2] at e'
      cases e'
      obtain ⟨p, rfl, h2⟩ := asT_ok st ev e2
      obtain ⟨o, es, ep, ys, q1, q2, q3, q4, q5, q6, q7, q8, q9⟩ := dt_open I h2
      rw [Vals.ref1 r]
      have hl : ys.length = kvs.length := Paired.length q7
      refine call_len_dictH q5 q6 (by rw [sizeLine_eq] at q8; omega) ?_
      rw [hl]
      exact ⟨.int kvs.length, H, I.tok _, ⟨_, rfl⟩, k m H _ Ext.refl st trivial rfl⟩
/-- d.get(k, x) -/
def rGet2 (g : Gx) : V → List V → Hp → VK → Prop := fun x xs H Q => ∃ S m H0 t ts d, StRel g S m H ∧ EncT g H m S.length t x ∧ EncTs g H0 H m S.length ts xs ∧ meF .get2 t ts S = .ok (.v d) S ∧ ∀ v, Enc g H m S.length d v → Q v H
theorem mt_get2 (hu : X.A.units + 64 < cLine) : MtR X "dict.get" (rGet2 (gof u X)) := by
  intro pins s σ H x xs v us Q I rx rs h
  obtain ⟨S, m, H0, t, ts, d, st, ea, es', e, k⟩ := h
  unfold meF at e
  split at e <;> try contradiction
  · rename_i kd x0 _
    split at e
    · rename_i kvs e2
      split at e
      · rename_i hk
        obtain ⟨v1, v2, rfl, ev1, ev2⟩ := encTs2 es'
        obtain ⟨p, rfl, h2⟩ := asT_ok st ea e2
        obtain ⟨b, rfl⟩ := key_ref hk (show Enc (gof u X) H m S.length kd v1 from ev1)
        obtain ⟨o, es, ep, ys, q1, q2, q3, q4, q5, q6, q7, q8, q9⟩ := dt_open I h2
        obtain ⟨u1, u2, rfl, r1, r2⟩ := rs.two
        have r1' : u1 = Value.ref b := r1
        subst r1'
        have rx' : v = Value.ref p := rx
        subst rx'
        have hd : d = (getD kvs kd).getD x0 := by
          injection e with e3 e4
          injection e3 with e5
          exact e5.symm
        refine call_meetsIn F.slot_dict_get q6.typeIs F.entry_dict_get (F.args_dict_get_3 _ _ _) (meetsH_dict_get_default (nestedKind X.prog X.w) p b q5 u2) ⟨?_, kd.nk, ys, key_is I hk ev1, q6, ?_⟩
        · show X.A.units + 1 + 8 < cLine
          omega
        · rcases at_pair q7 kd with ⟨a1, a2⟩ | ⟨b1, w1, y1, z1, a1, a2, a3, a4⟩
          · rw [a1]
            rw [a2] at hd
            subst hd
            exact ⟨v2, H, I.tok _, r2, k v2 ev2⟩
          · rw [a1]
            rw [a2] at hd
            subst hd
            exact ⟨y1, H, I.tok _, a3, k y1 a4⟩
      · cases e
    · cases e
/-- o.append(x) -/
def rApE (g : Gx) : V → List V → Hp → VK → Prop := fun x xs H Q => ∃ S m H0 t ts S', StRel g S m H ∧ EncT g H m S.length t x ∧ EncTs g H0 H m S.length ts xs ∧ meF .append t ts S = .ok (.v .non) S' ∧ ∀ m' H', Ext g S m H S' m' H' → StRel g S' m' H' → Q .non H'
theorem mt_apE : MtR X "list.append" (rApE (gof u X)) := by
  intro pins s σ H x xs v us Q I rx rs h
  obtain ⟨S, m, H0, t, ts, S', st, ea, es', e, k⟩ := h
  unfold meF at e
  split at e <;> try contradiction
  rename_i j d' _
  obtain ⟨w, rfl, ed⟩ := encTs1 es'
  obtain ⟨h1, h2⟩ := (show j < S.length ∧ x = V.ref (m j) from ea)
  split at e
  · rename_i ys e1
    split at e
    · rename_i hl
      injection e with e3 e4
      subst e4
      have cr := st.cell j _ e1
      obtain ⟨vs, c1, c2⟩ := cr
      have h0 : 0 < j := by
        rcases Nat.eq_zero_or_pos j with z | z
        · obtain ⟨zs, hz⟩ := st.zero
          rw [z, hz] at e1
          cases e1
        · exact z
      obtain ⟨x1, st1⟩ := write_ok (c' := .lst false (ys ++ [d'])) (o := .lst (vs ++ [w])) st h0 e1 (by unfold lockAt; rw [e1]) c1 rfl (fun a q z => by cases z) rfl rfl (fun S' z => by unfold lockAt; rw [z])
        ⟨_, upd_same, EncAll.mono (fun a vs h => PlT.upd c1 rfl h) (Nat.le_refl _) (fun _ _ => rfl) _ _ (c2.append (EncAll.cons ed EncAll.nil))⟩
      refine mt_append pins s σ H x [w] v us Q I rx rs ⟨m j, vs, w, h2, rfl, c1, ?_, k m _ x1 st1⟩
      rw [c2.length]
      exact Nat.lt_of_lt_of_le hl lim_le
    · cases e
  · cases e

/-! ### a call of a method, the receiver by any test -/
theorem pe_bmR {o e : Expr} {es : List Expr} {to : TE} {t : TA} {name : Str} {apos cpos : Pos} {T id : String} {r : V → List V → Hp → VK → Prop} {ty : V → Hp → Prop} (pa : PlainAttrs T) (slot : Slot T name id) (hty : typeOf (.builtin id) = pure (.type "method_descriptor"))
    (hT : ∀ (pins : List (Addr × Obj)) (s : Shared) (σ : L2.St) (H : Hp) (x : V) (v : Value), L2.Inv X pins σ H s → L2.RelV x v → ty x H → s.TypeIs v T ∧ ∀ a, v = .ref a → ∃ ob, s.heap.get? a = some ob ∧ ob.dict = none) (hm : MtR X id r) (ho : PE X o to) (ha : PA X (e :: es) t)
    (hbase : attributeBase o name X.env (eval o X.env) = eval o X.env)
    (hfew : ((backTo cpos (starEach (e :: es) X.env)).all (fun x => !x.1) && (backToKw cpos (keywordEach [] X.env)).all (fun x => x.1.isSome)
      && decide ((e :: es).length + ([] : List Keyword).length + (if ([] : List Keyword).isEmpty then 0 else 1) < 30)) = true)
    (hline : (apos.endLine == cpos.line) = true) (hs : starEach (e :: es) X.env = (false, eval e X.env) :: starEach es X.env) (hplain : (backTo cpos (starEach es X.env)).any (·.1) = false) :
    PE X (.Call (.Attribute o name apos) (e :: es) [] cpos) (fun σ H Q => to σ H fun x H1 => ty x H1 ∧ t σ H1 fun xs H2 => r x xs H2 Q) := by
  refine ⟨fun pins s σ H Q I h => ?_⟩
  refine wpAny_Call_method_late hbase hfew hline rfl (thn (ho.run pins s σ H _ I h) fun v s1 ⟨x, H1, I1, r1, ty1, q1⟩ => ?_)
  obtain ⟨h1, h2⟩ := hT pins s1 σ H1 x v I1 r1 ty1
  refine ⟨T, id, pa, slot, hty, h1, h2, ?_⟩
  have hA := ha.run cpos pins s1 σ H1 _ I1 q1
  rw [hs] at hA ⊢
  refine Calls.callWith_builtin (by show (false || (backTo cpos (starEach es X.env)).any (·.1)) = false; rw [hplain] <;> rfl) (Calls.evalArgs_plain ?_)
  exact thn hA fun us s2 ⟨vs, H2, I2, r2, q2⟩ => hm pins s2 σ H2 x vs v us Q I2 r1 r2 q2
end
end Ev
-- EvS7
set_option Elab.async false
set_option linter.all false
set_option maxRecDepth 100000
set_option maxHeartbeats 4000000
/-! EvS7: dict displays, dict(pairs), o[i] = v, calls of builtins. -/
namespace Ev
open PySem PySem.Spec PyProof.Rows L2
section
variable {X : Cx} {u : Tb} {W : WX}

/-- the base stays the first one -/
theorem Post.bindK {α β : Type} {g : Gx} {S S1 : Store} {m m1 : Nat → Addr} {H H1 : Hp} {σ : L2.St} {r : R α} {f : α → Store → R β} {K : β → Store → (Nat → Addr) → Hp → Prop} (x : Ext g S m H S1 m1 H1) (p : Post g W S m H σ K (r.bind f)) :
    Post g W S1 m1 H1 σ (fun a S2 _ _ => Post g W S m H σ K (f a S2)) r := by
  cases r with
  | ok a S' => exact fun _ _ _ _ => p
  | exc e S' => exact fun m' H' c y s => p m' H' c (x.trans y) s
  | bad => exact p
theorem Post.matK {β : Type} {g : Gx} {S S1 : Store} {m m1 : Nat → Addr} {H H1 : Hp} {σ : L2.St} {r : R T} {f : D → Store → R β} {K : β → Store → (Nat → Addr) → Hp → Prop} (x : Ext g S m H S1 m1 H1) (p : Post g W S m H σ K (r.bind fun t S2 => (Ev.mat t S2).bind f)) :
    Post g W S1 m1 H1 σ (fun t S2 m2 H2 => ∀ v, FreT H1 t v → EncT g H2 m2 S2.length t v → ∃ d S3 m3, Ext g S1 m1 H1 S3 m3 H2 ∧ StRel g S3 m3 H2 ∧ Enc g H2 m3 S3.length d v ∧ Post g W S m H σ K (f d S3)) r := by
  refine (Post.bindK x p).mono fun t S2 m2 H2 y st q v fr en => ?_
  obtain ⟨d, S3, e⟩ := mat_cases t S2
  obtain ⟨m3, x3, st3, en3⟩ := mat_ok y st en fr e
  rw [e] at q
  exact ⟨d, S3, m3, x3, st3, en3, q⟩

/-! ### displays -/
abbrev dict0 : Obj := { cls := .type "dict", data := .dict #[] }
theorem raw_laid {pins : List (Addr × Obj)} {σ : L2.St} {H : Hp} {s : Shared} {h' : Heap} {t' : Nat} {a : Addr} {o : Obj} (I : L2.Inv X pins σ H s) (k : ∀ b v, s.heap.get? b = some v → h'.get? b = some v) (ha : s.heap.objs.size ≤ a) (ho : h'.get? a = some o) :
    L2.Inv X pins σ (upd H a (RawO a o)) { s with heap := h', toks := t' } :=
  I.laid k ha ⟨ho, ⟨o, ho⟩, fun _ _ e k => k _ e⟩
theorem ns_big {pins : List (Addr × Obj)} {σ : L2.St} {H : Hp} {s : Shared} (I : L2.Inv X pins σ H s) : (s.heap.objs.size == sysModules) = false := beq_eq_false_iff_ne.mpr (Ne.symm (Nat.ne_of_lt I.big))
theorem dt_nil {g : Gx} {H : Hp} {m : Nat → Addr} {n : Nat} {p : Addr} (h : H p = some (RawO p dict0)) (hp : (p == sysModules) = false) : DTrel g H m n p [] :=
  ⟨dict0, #[], 0, h, ⟨rfl, rfl, rfl⟩, rfl, hp, Nat.zero_le _, .nil, List.nodup_nil⟩
theorem pe_d0 {pos : Pos} {C : Calls} : PE X (.Dict [] [] pos) (RdE (gof u X) W (ev C .dT0).E) := by
  refine ⟨fun pins s σ H Q I q => ?_⟩
  obtain ⟨S, m, ρ, st, en, p⟩ := q
  have hp := I.hok.fresh (Nat.le_refl s.heap.objs.size)
  have I1 := raw_laid (t' := s.toks) (h' := s.heap.push dict0) I (fun _ _ q => Heap.get?_push_of_some _ q) (Nat.le_refl _) (Heap.get?_push_size _ rfl)
  obtain ⟨x1, st1⟩ := alloc_ok (o := RawO s.heap.objs.size dict0) st hp
  have p' : Post (gof u X) W S m H σ (KE (gof u X) H Q) (R.ok (T.t []) S) := p
  refine wpAny_Dict_empty ⟨.ref s.heap.objs.size, _, I1, rfl, p' m _ x1 st1 _ (fun r e => ?_) ⟨_, rfl, dt_nil upd_same (ns_big I), st.apart hp⟩⟩
  cases e
  exact Fr.of hp
theorem TK.write {g : Gx} {H : Hp} {a : Addr} {o u : HO} (h : H a = some u) (hu : HO.wr u = true) : TK g H (upd H a o) := fun b vs q => PlT.upd h hu q
theorem pe_d1 (hu : X.A.units + 64 < cLine) {k v : Expr} {Ek Ev' : Env → Store → R T} {pos : Pos} (hk : PE X k (RdE (gof u X) W Ek)) (hv : PE X v (RdE (gof u X) W Ev')) :
    PE X (.Dict [some k] [v] pos) (RdE (gof u X) W fun ρ S => (Ek ρ S).bind fun tk S1 => (mat tk S1).bind fun dk S2 => (Ev' ρ S2).bind fun tv S3 => (mat tv S3).bind fun dv S4 => if dk.isKey then .ok (.t [(dk, dv)]) S4 else .bad) := by
  refine ⟨fun pins s σ H Q I q => ?_⟩
  obtain ⟨S, m, ρ, st, en, p⟩ := q
  have hp := I.hok.fresh (Nat.le_refl s.heap.objs.size)
  have I1 := raw_laid (t' := s.toks) (h' := s.heap.push dict0) I (fun _ _ q => Heap.get?_push_of_some _ q) (Nat.le_refl _) (Heap.get?_push_size _ rfl)
  obtain ⟨x1, st1⟩ := alloc_ok (o := RawO s.heap.objs.size dict0) st hp
  have nbig := ns_big I
  refine wpAny_Dict_any rfl rfl (by simp) (by simp) ?_
  generalize s.heap.objs.size = a at *
  refine pairTrees_cons_walk (thn (hk.run pins _ σ _ _ I1 (sub st1 (x1.env en) (Post.matK x1 p))) fun uk s2 ⟨vk, H2, I2, rk, dk, S2, m2, x2, st2, ek, p2⟩ => ?_)
  refine thn (hv.run pins s2 σ H2 _ I2 (sub st2 (x2.env (x1.env en)) (Post.matK (x1.trans x2) p2))) fun uv s3 ⟨vv, H3, I3, rv, dv, S3, m3, x3, st3, ed, p3⟩ => ?_
  refine pairTrees_nil_walk ?_
  split at p3
  · rename_i hkey
    obtain ⟨b, rfl⟩ := key_ref hkey ek
    have rk' : uk = Value.ref b := rk
    subst rk'
    have x23 := x2.trans x3
    have apart1 : ∀ j, 0 < j → j < S.length → m j ≠ a := st.apart hp
    have hne : ∃ o, upd H a (RawO a dict0) a = some o ∧ ∀ ps, o ≠ .tbl ps := ⟨_, upd_same, fun ps z => by unfold RawO at z; cases z⟩
    have raw3 : H3 a = some (RawO a dict0) := keep_free x23 st1 upd_same (fun ps z => by unfold RawO at z; cases z) apart1
    have apart3 := apart_up x23 hne apart1
    have dt3 : DTrel (gof u X) H3 m3 S3.length a [] := dt_nil raw3 nbig
    obtain ⟨o, es, ep, ys, q1, q2, q3, q4, q5, q6, q7, q8, q9⟩ := dt_open I3 dt3
    cases q7
    have ek3 := x3.enc ek
    show wpAny _ _ (storeAll a [(.ref b, uv)]) _ _ _
    unfold storeAll
    rw [List.forIn_cons]
    refine wpAny_bind (wpAny_bind (wpAny_dictSet_heap (knd := nestedKind X.prog X.w) (hsz := Nat.zero_le _) (by show X.A.units + 8 < cLine; omega) (key_is I3 hkey ek3) q6 fun h' hm' hs' => wpAny_pure ?_))
    show wpAny _ _ (forIn ([] : List (Value × Value)) PUnit.unit _) _ _ _
    rw [List.forIn_nil]
    refine wpAny_pure ?_
    have hlen : (storedH ([] : List (NestedKey × Addr × Value)) dk.nk b uv).length ≤ sizeLine := by
      refine Nat.le_trans storedH_len ?_
      rw [sizeLine_eq]
      decide
    obtain ⟨o', ho', mk⟩ := dt_close (u := u) (m := m3) (n := S3.length) (kvs := putD [] dk dv) hm' q5 hlen
    have raw3' := raw3
    have cfree := raw_code I3 raw3 (es := #[]) (ep := 0) rfl
    have I4 : L2.Inv X pins σ (upd H3 a (RawO a o')) { s3 with heap := h', toks := s3.toks + (nestedKind X.prog X.w).draws dk.nk } :=
      I3.write (x := a) (e := a) (by rw [raw3]; exact trivial) (.inl rfl) (fun c w hc hw => (hs'.2 c hc).trans hw) ⟨o', ho'⟩ ⟨ho', ⟨o', ho'⟩, fun _ _ e k => k _ e⟩
    have tk3 : TK (gof u X) H3 (upd H3 a (RawO a o')) := TK.write raw3 rfl
    obtain ⟨x4, st4⟩ := free_write (o := RawO a o') (x1.trans x23) st3 hp raw3 rfl cfree apart3
    refine ⟨.ref a, _, I4, rfl, p3 m3 _ x4 st4 _ (fun r e => ?_) ⟨a, rfl, ?_, apart3⟩⟩
    · cases e
      exact Fr.of hp
    · refine mk _ upd_same ?_
      have z : XOk (gof u X) (upd H3 a (RawO a o')) m3 S3.length (dk.nk, b, uv) (dk, dv) := XOk.ex tk3 (Nat.le_refl _) (fun _ _ => rfl) ⟨rfl, hkey, ek3, vv, rv, ed⟩
      exact .cons z .nil
  · exact p3.elim

/-! ### dict(pairs) -/
theorem pairs_open {pins : List (Addr × Obj)} {σ : L2.St} {H : Hp} {s : Shared} {m : Nat → Addr} {n : Nat} (I : L2.Inv X pins σ H s) : ∀ {xs : List D} {vs : List V} {its : List Value} {kvs : List (D × D)}, EncAll (gof u X) H m n xs vs → Vals vs its → pairs xs = some kvs →
    ∃ (ys : List (NestedKey × Addr × Value)) (ts : List Addr), its = ts.map Value.ref ∧ ys.length = ts.length ∧ Paired (XOk (gof u X) H m n) ys kvs ∧ ∀ (j : Nat) (t : Addr) (y : NestedKey × Addr × Value), ts[j]? = some t → ys[j]? = some y → PairAt s.heap t (.ref y.2.1) y.2.2
  | [], _, _, _, h, r, e => by
    have h' : _ = [] := h
    subst h'
    cases r
    cases e
    exact ⟨[], [], rfl, rfl, .nil, fun j t y e => by simp at e⟩
  | d :: xs, vs, its, kvs, h, r, e => by
    obtain ⟨v, q, e1, h1, h2⟩ := h
    subst e1
    cases r with
    | cons r1 r2 =>
      unfold pairs at e
      split at e <;> try contradiction
      rename_i k y r0 e0
      injection e0 with e3 e4
      subst e3 e4
      split at e
      · rename_i hk
        cases e2 : pairs xs with
        | none =>
          rw [e2] at e
          cases e
        | some ps =>
          rw [e2] at e
          cases e
          obtain ⟨ys, ts, g1, g2, g3, g4⟩ := pairs_open I h2 r2 e2
          obtain ⟨a, ws, e5, h3, h4⟩ := h1
          subst e5
          obtain ⟨v1, q1, e6, h5, h6⟩ := h4
          obtain ⟨v2, q2, e7, h7, h8⟩ := h6
          have e8 : q2 = [] := h8
          subst e6 e7 e8
          obtain ⟨b, rfl⟩ := key_ref hk h5
          obtain ⟨its2, rv, tp, _⟩ := I.tuple h3.sq
          obtain ⟨w1, w2, e9, rw1, rw2⟩ := rv.two
          subst e9
          have rw1' : w1 = Value.ref b := rw1
          subst rw1'
          have r1' : _ = Value.ref a := r1
          subst r1'
          refine ⟨(k.nk, b, w2) :: ys, a :: ts, by rw [g1]; rfl, by simp [g2], .cons ⟨rfl, hk, h5, v2, rw2, h7⟩ g3, fun j t y et ey => ?_⟩
          cases j with
          | zero =>
            simp at et ey
            subst et ey
            exact .inl tp
          | succ j => exact g4 j t y (by simpa using et) (by simpa using ey)
      · cases e
theorem put_all {g : Gx} {H : Hp} {m : Nat → Addr} {n : Nat} {ys : List (NestedKey × Addr × Value)} {kvs : List (D × D)} (h : Paired (XOk g H m n) ys kvs) : ∀ {xs : List (NestedKey × Addr × Value)} {acc : List (D × D)}, Paired (XOk g H m n) xs acc →
    Paired (XOk g H m n) (storedAllH xs ys) (kvs.foldl (fun acc p => putD acc p.1 p.2) acc) := by
  induction h with
  | nil => intro xs acc q; exact q
  | @cons y p ys ps r _ ih =>
    intro xs acc q
    obtain ⟨h1, h2, h3, v, h4, h5⟩ := r
    have z := put_pair q h2 h3 h4 h5
    rw [← h1] at z
    exact ih z
theorem storedAll_len : ∀ (ys xs : List (NestedKey × Addr × Value)), (storedAllH xs ys).length ≤ xs.length + ys.length
  | [], xs => Nat.le_refl _
  | y :: ys, xs => by
    have h1 := storedAll_len ys (storedH xs y.1 y.2.1 y.2.2)
    have h2 := storedH_len (xs := xs) (k := y.1) (b := y.2.1) (w := y.2.2)
    show (storedAllH (storedH xs y.1 y.2.1 y.2.2) ys).length ≤ _
    rw [List.length_cons]
    omega
theorem bi_dict (hc : X.calm = true) (hu : X.A.units + 64 < cLine) : CallR X (.type "dict") (rBi (gof u X) .dict) := by
  intro pins s σ H xs us Q I r h
  obtain ⟨S, m, H0, ts, t, st, ea, e, k⟩ := h
  unfold biF at e
  split at e <;> try contradiction
  rename_i ta _
  obtain ⟨v, rfl, ev⟩ := encTs1 ea
  cases e1 : asQ ta S with
  | none =>
    rw [e1] at e
    cases e
  | some ds =>
    rw [e1] at e
    have e' : (if ds.length ≤ lim then (pairs ds).map fun kvs => T.t (kvs.foldl (fun acc p => putD acc p.1 p.2) []) else none) = some t := e
    split at e'
    · rename_i hlim
      cases e2 : pairs ds with
      | none =>
        rw [e2] at e'
        cases e'
      | some kvs =>
        rw [e2] at e'
        cases e'
        obtain ⟨p, vs, rfl, h2, h3⟩ := asQ_ok st ev e1
        rw [Vals.ref1 r]
        have go : ∀ (its : List Value), Vals vs its → ∃ (ys : List (NestedKey × Addr × Value)) (Ts : Nat → Addr), PairItems s.heap its.toArray Ts (ys.map fun y => (Value.ref y.2.1, y.2.2)) ∧ Paired (XOk (gof u X) H m S.length) ys kvs ∧ ys.length = its.length := fun its rv => by
          obtain ⟨ys, ts, g1, g2, g3, g4⟩ := pairs_open I h3 rv e2
          refine ⟨ys, fun j => (ts[j]?).getD 0, ⟨by rw [g1]; simp [g2], fun j kk vv ej => ?_⟩, g3, by rw [g1, g2, List.length_map]⟩
          rw [List.getElem?_map] at ej
          cases ey : ys[j]? with
          | none =>
            rw [ey] at ej
            cases ej
          | some y =>
            rw [ey] at ej
            cases ej
            have hj : j < ts.length := by
              rw [← g2]
              exact (List.getElem?_eq_some_iff.mp ey).1
            have et : ts[j]? = some ts[j] := List.getElem?_eq_getElem hj
            refine ⟨?_, ?_⟩
            · have e9 : ((ts[j]?).getD 0 : Addr) = ts[j] := by rw [et]; rfl
              show (its.toArray)[j]? = some (.ref ((ts[j]?).getD 0))
              rw [e9, g1]
              simp [et]
            · have e9 : ((ts[j]?).getD 0 : Addr) = ts[j] := by rw [et]; rfl
              show PairAt s.heap ((ts[j]?).getD 0) _ _
              rw [e9]
              exact g4 j _ y et ey
        have fin : ∀ (T : String) (a : Addr) (fp : List Addr) (OK : Heap → Prop) (its : List Value) (ys : List (NestedKey × Addr × Value)), a = p → Paired (XOk (gof u X) H m S.length) ys kvs → ys.length = its.length → Vals vs its →
            PairArg X.prog X.w T a fp [] (ys.map fun y => (Value.ref y.2.1, y.2.2)).length (PairRel (ys.map fun y => (Value.ref y.2.1, y.2.2))) OK → OK s.heap → wpAny (model X.prog X.w) X.A (call (.type "dict") [.ref p]) (EP X pins σ Q) X.xe s := fun T a fp OK its ys ea g3 gl rv P ok => by
          subst ea
          have hn : ys.length ≤ lim := by
            rw [gl, ← rv.length, h3.length]
            exact hlim
          refine call_dict_pairsH (knd := nestedKind X.prog X.w) (ps := ys) P (I.ok.hd hc) (by show X.A.units + 1 + 1 + 8 < cLine; omega) ok ⟨by rw [List.length_map], fun i key v' hr => ?_⟩ (fun h' hk x hx => ?_) (by rw [List.length_map]; exact Nat.le_trans hn lim_le) fun h' tk hd' hk => ?_
          · have hr' : (ys.map fun y => (Value.ref y.2.1, y.2.2))[i]? = some (key, v') := hr
            rw [List.getElem?_map] at hr'
            cases ey : ys[i]? with
            | none =>
              rw [ey] at hr'
              cases hr'
            | some y =>
              rw [ey] at hr'
              cases hr'
              exact ⟨y.1, y.2.1, rfl, rfl⟩
          · refine nestedKind_stays.stays (fun b o vs' n' hb hd => hk b o (Nat.ne_of_lt (Heap.lt_size hb)) (by simp) hb) (xs_is I g3 x hx)
          · have kp : ∀ b o, s.heap.get? b = some o → h'.get? b = some o := fun b o e => hk b o (by simp) e
            have hp := I.hok.fresh (Nat.le_refl s.heap.objs.size)
            obtain ⟨o', ho', mk⟩ := dt_close (u := u) (m := m) (n := S.length) (kvs := kvs.foldl (fun acc p => putD acc p.1 p.2) []) hd' (ns_big I) (by
              refine Nat.le_trans (storedAll_len ys []) ?_
              rw [List.length_nil, Nat.zero_add]
              exact Nat.le_trans hn lim_le)
            have I1 := raw_laid (t' := tk) I kp (Nat.le_refl _) ho'
            obtain ⟨x1, st1⟩ := alloc_ok (o := RawO s.heap.objs.size o') st hp
            refine ⟨.ref s.heap.objs.size, _, I1, rfl, k m _ _ x1 st1 (fun r e => ?_) ⟨_, rfl, mk _ upd_same ?_, st.apart hp⟩⟩
            · cases e
              exact Fr.of hp
            · have z := put_all g3 (xs := []) (acc := []) .nil
              exact Paired.imp (fun a b q => XOk.ex x1.tk (Nat.le_refl _) (fun _ _ => rfl) q) z
        rcases h2 with h2 | ⟨h2, _⟩
        · obtain ⟨its, rv, ⟨o, nn, ho, hcl, hdn, hdat⟩, hz⟩ := I.list h2
          obtain ⟨ys, Ts, g1, g3, gl⟩ := go its rv
          exact fin "list" p _ _ its ys rfl g3 gl rv (PairArg.list p its.toArray Ts _) ⟨⟨o, nn, ho, hcl, hdn, hdat⟩, g1⟩
        · obtain ⟨its, rv, ⟨o, ho, hcl, nn, hdat⟩, hz⟩ := I.tuple h2.sq
          have hdn : o.dict = none := by
            rcases h2 with ⟨o2, q1, q2⟩ | ⟨o2, it2, n2, q1, q2, q3, _⟩
            · have z : ObjOk X.prog X.w H s.heap p (.frz o2 (.tup vs)) := I.hok p _ q1
              have z2 : s.heap.get? p = some o2 := z.1
              rw [ho] at z2
              cases z2
              exact q2
            · have z2 := I.kIn p o2 q1
              rw [ho] at z2
              cases z2
              exact q3
          obtain ⟨ys, Ts, g1, g3, gl⟩ := go its rv
          exact fin "tuple" p _ _ its ys rfl g3 gl rv (PairArg.tuple p its.toArray Ts _) ⟨⟨o, nn, ho, hcl, hdn, hdat⟩, g1⟩
    · cases e'
end
end Ev
-- EvS8
set_option Elab.async false
set_option linter.all false
set_option maxRecDepth 100000
set_option maxHeartbeats 4000000
/-! EvS8: calls of builtins and defs, targets, o[i] = v. -/
namespace Ev
open PySem PySem.Spec PyProof.Rows L2
section
variable {X : Cx} {u : Tb} {W : WX}
theorem nostar_any : ∀ {es : List Expr} {env : PySem.Env} {pos : Pos}, es.all noStar = true → (backTo pos (starEach es env)).any (·.1) = false
  | [], _, _, _ => rfl
  | e :: es, env, pos, h => by
    rw [List.all_cons, Bool.and_eq_true] at h
    rw [star_ok h.1]
    show (false || (backTo pos (starEach es env)).any (·.1)) = false
    rw [nostar_any h.2]
    rfl
theorem nostar_all : ∀ {es : List Expr} {env : PySem.Env} {pos : Pos}, es.all noStar = true → (backTo pos (starEach es env)).all (fun x => !x.1) = true
  | [], _, _, _ => rfl
  | e :: es, env, pos, h => by
    rw [List.all_cons, Bool.and_eq_true] at h
    rw [star_ok h.1]
    show (!false && (backTo pos (starEach es env)).all (fun x => !x.1)) = true
    rw [nostar_all h.2]
    rfl
/-! ### builtins -/
def biE (b : Bi) (M : Env → Store → R (List T)) : Env → Store → R T := fun ρ S => (M ρ S).bind fun ts S1 => opt (biF b ts S1) S1
theorem bi_sub {g : Gx} {b : Bi} {M : Env → Store → R (List T)} {σ : L2.St} {H : Hp} {Q : VK} (h : RdE g W (biE b M) σ H Q) : tCB (rBi g b) (RdTs g W M) σ H Q := by
  obtain ⟨S, m, ρ, st, en, p⟩ := h
  refine ⟨S, m, ρ, st, en, (Post.bind p).mono fun ts S1 m1 H1 x1 st1 p1 vs hvs => ?_⟩
  obtain ⟨t, e, k⟩ := p1.opt
  exact ⟨S1, m1, H, ts, t, st1, hvs, e, fun m' H' v y st' fr en' => k m' H' y st' v (FreT.back x1 fr) en'⟩
variable {x : Str} {p pos : Pos} {e : Expr} {es : List Expr} {M : Env → Store → R (List T)} {b : Bi} {id T : String}
theorem pe_biB (hc : CallR X (.builtin id) (rBi (gof u X) b)) (hg : Gl X x) (hm : X.mg x = none) (hv : bootBuiltins x = some (.builtin id)) (hn : x ≠ "__name__") (hdb : (x == ("__debug__" : Str)) = false) (hs : (e :: es).all noStar = true) (ha : PA X (e :: es) (RdTs (gof u X) W M)) :
    PE X (.Call (.Name x p) (e :: es) [] pos) (RdE (gof u X) W (biE b M)) := by
  rw [List.all_cons, Bool.and_eq_true] at hs
  exact PE.imp (pe_callB hc hg hm hv ha hn hdb (star_ok hs.1) (nostar_any hs.2)) fun σ H Q h => bi_sub h
theorem pe_biT (hc : CallR X (.type T) (rBi (gof u X) b)) (hg : Gl X x) (hm : X.mg x = none) (hv : bootBuiltins x = some (.type T)) (hn : x ≠ "__name__") (hdb : (x == ("__debug__" : Str)) = false) (hs : (e :: es).all noStar = true) (ha : PA X (e :: es) (RdTs (gof u X) W M)) :
    PE X (.Call (.Name x p) (e :: es) [] pos) (RdE (gof u X) W (biE b M)) := by
  rw [List.all_cons, Bool.and_eq_true] at hs
  exact PE.imp (pe_callTy hc hg hm hv ha hn hdb (star_ok hs.1) (nostar_any hs.2)) fun σ H Q h => bi_sub h
/-- isinstance(e, T) -/
theorem pe_isi {tn : Str} {ty : String} {s : Sm} {p2 : Pos} (he : PE X e (RdE (gof u X) W s.E)) (hn1 : noStar e = true) (hg : Gl X "isinstance") (hm : X.mg "isinstance" = none) (hg2 : Gl X tn) (hm2 : X.mg tn = none) (hv2 : bootBuiltins tn = some (.type ty)) (hn : tn ≠ "__name__") (hdb : (tn == ("__debug__" : Str)) = false)
    (hb : ∀ (ts : List Ev.T) (S : Store) (t : Ev.T), biF b ts S = some t → ∃ d, ts = [.v d] ∧ ∃ k, t = .v (.bl k) ∧ ((∃ i, d = .int i ∧ PySem.W.kitOne X.K (.type "int") (.type ty) = some k) ∨ (∃ i, d = .bl i ∧ PySem.W.kitOne X.K (.type "bool") (.type ty) = some k) ∨
      (d = .non ∧ PySem.W.kitOne X.K (.type "NoneType") (.type ty) = some k) ∨ (∃ i, d = .str i ∧ PySem.W.kitOne X.K (.type "str") (.type ty) = some k))) :
    PE X (.Call (.Name "isinstance" p) [e, .Name tn p2] [] pos) (RdE (gof u X) W (biE b (evTs [s]))) := by
  have h2 : PE X (.Name tn p2) (tC (.ty ty)) := pe_bltn hg2 hm2 hv2 rfl hn hdb
  refine PE.imp (pe_callB call_isi hg hm boot_isinstance (pa_cons he (pa_cons h2 pa_nil) (star_ok hn1)) (by decide) (by decide) (star_ok hn1) rfl) ?_
  rintro σ H Q ⟨S, m, ρ, st, en, p⟩
  have p : Post (gof u X) W S m H σ (KE (gof u X) H Q) (((s.E ρ S).bind fun t S1 => R.ok [t] S1).bind fun ts S1 => opt (biF b ts S1) S1) := p
  rw [R.bind_assoc] at p
  refine sub st en (p.bind.mono fun t S1 m1 H1 x1 st1 p1 v fv ev => ?_)
  obtain ⟨t', e', k⟩ := p1.opt
  obtain ⟨d, e1, k', e2, hk⟩ := hb [t] S1 t' e'
  cases e1
  subst e2
  have q := k m1 H1 Ext.refl st1 (.bl k') trivial rfl
  rcases hk with ⟨i, rfl, hk⟩ | ⟨i, rfl, hk⟩ | ⟨rfl, hk⟩ | ⟨i, rfl, hk⟩
  · have z : v = .int i := ev
    subst z
    exact ⟨_, .ty ty, _, _, k', rfl, .ty ty, .base (.int i), hk, q⟩
  · have z : v = .bl i := ev
    subst z
    exact ⟨_, .ty ty, _, _, k', rfl, .ty ty, .base (.bl i), hk, q⟩
  · have z : v = .non := ev
    subst z
    exact ⟨_, .ty ty, _, _, k', rfl, .ty ty, .base .non, hk, q⟩
  · have z : v = .str i := ev
    subst z
    exact ⟨_, .ty ty, _, _, k', rfl, .ty ty, .base (.str i), hk, q⟩
/-! ### methods -/
theorem pe_get2 (hu : X.A.units + 64 < cLine) {o e1 e2 : Expr} {so : Sm} {M : Env → Store → R (List Ev.T)} {apos cpos : Pos} (ho : PE X o (RdE (gof u X) W so.E)) (ha : PA X [e1, e2] (RdTs (gof u X) W M)) (hs : [e1, e2].all noStar = true)
    (hbase : attributeBase o "get" X.env (eval o X.env) = eval o X.env) (hline : (apos.endLine == cpos.line) = true) :
    PE X (.Call (.Attribute o "get" apos) [e1, e2] [] cpos) (RdE (gof u X) W fun ρ S => (so.E ρ S).bind fun t S1 => if rcv .get2 t S1 then (M ρ S1).bind fun ts S2 => meF .get2 t ts S2 else .bad) := by
  have hs' := hs
  rw [List.all_cons, Bool.and_eq_true] at hs'
  refine PE.imp (pe_bmR (ty := fun x H => ∃ S m t, StRel (gof u X) S m H ∧ EncT (gof u X) H m S.length t x ∧ (asT t S).isSome = true) F.plainAttrs_dict F.slot_dict_get F.type_dict_get ?_ (mt_get2 (u := u) hu) ho ha hbase ?_ hline (star_ok hs'.1) (nostar_any hs'.2)) ?_
  · rintro pins s σ H x v I r ⟨S, m, t, st, ea, hT⟩
    cases e2 : asT t S with
    | none =>
      rw [e2] at hT
      cases hT
    | some kvs =>
      obtain ⟨p, rfl, h2⟩ := asT_ok st ea e2
      obtain ⟨o, es, ep, ys, q1, q2, q3, q4, q5, q6, q7, q8, q9⟩ := dt_open I h2
      have r' : v = Value.ref p := r
      subst r'
      exact ⟨⟨o, q2, q3.1⟩, fun a ea' => by
        cases ea'
        exact ⟨o, q2, q3.2.1⟩⟩
  · rw [nostar_all hs]
    rfl
  · rintro σ H Q ⟨S, m, ρ, st, en, p⟩
    refine sub st en (p.bind.mono fun t S1 m1 H1 x1 st1 p1 v fv ev => ?_)
    split at p1
    · rename_i hr
      refine ⟨⟨S1, m1, t, st1, ev, hr⟩, S1, m1, ρ, st1, x1.env en, p1.bind.mono fun ts S2 m2 H2 x2 st2 p2 vs hvs => ?_⟩
      have ex : ∃ d, meF .get2 t ts S2 = .ok (.v d) S2 := by
        unfold meF at p2 ⊢
        split at p2 <;> try contradiction
        all_goals (try exact p2.elim)
        rename_i kd x0 _
        split at p2
        · split at p2
          · rename_i hq
            exact ⟨_, if_pos hq⟩
          · exact p2.elim
        · exact p2.elim
      obtain ⟨d, ed⟩ := ex
      rw [ed] at p2
      exact ⟨S2, m2, H1, t, ts, d, st2, x2.encT st1 ev, hvs, ed, fun v hv => (Post.here st2 p2) v trivial hv⟩
    · exact p1.elim
/-- o.append(e) as a value that is dropped -/
theorem pe_ap {o e1 : Expr} {so s1 : Sm} {apos cpos : Pos} (ho : PE X o (RdE (gof u X) W so.E)) (h1 : PE X e1 (RdE (gof u X) W s1.E)) (hs : noStar e1 = true)
    (hbase : attributeBase o "append" X.env (eval o X.env) = eval o X.env) (hline : (apos.endLine == cpos.line) = true) :
    PE X (.Call (.Attribute o "append" apos) [e1] [] cpos) (RdE (gof u X) W fun ρ S => (so.E ρ S).bind fun t S1 => if rcv .append t S1 then (evM [s1] ρ S1).bind fun ds S2 => meF .append t (ds.map .v) S2 else .bad) := by
  have ha : PA X [e1] (RdM (gof u X) W (evM [s1])) := pa_m1 hs h1 pa_m0
  refine PE.imp (pe_bmR (ty := fun x H => ∃ S m t, StRel (gof u X) S m H ∧ EncT (gof u X) H m S.length t x ∧ (asM t S).isSome = true) F.plainAttrs_list F.slot_list_append F.type_list_append ?_ (mt_apE (u := u)) ho ha hbase ?_ hline (star_ok hs) rfl) ?_
  · rintro pins s σ H x v I r ⟨S, m, t, st, ea, hT⟩
    cases e2 : asM t S with
    | none =>
      rw [e2] at hT
      cases hT
    | some xs =>
      obtain ⟨p, vs, rfl, h2, h3⟩ := asM_ok st ea e2
      obtain ⟨z, its, n, rv, hl, e⟩ := I.lstM h2
      have r' : v = Value.ref p := r
      subst r'
      exact ⟨⟨_, e, rfl⟩, fun a ea' => by
        cases ea'
        exact ⟨_, e, rfl⟩⟩
  · rw [star_ok hs]
    rfl
  · rintro σ H Q ⟨S, m, ρ, st, en, p⟩
    refine sub st en (p.bind.mono fun t S1 m1 H1 x1 st1 p1 v fv ev => ?_)
    split at p1
    · rename_i hr
      refine ⟨⟨S1, m1, t, st1, ev, hr⟩, S1, m1, ρ, st1, x1.env en, p1.bind.mono fun ds S2 m2 H2 x2 st2 p2 vs hvs => ?_⟩
      have ex : ∃ S3, meF .append t (ds.map .v) S2 = .ok (.v .non) S3 := by
        unfold meF at p2 ⊢
        split at p2 <;> try contradiction
        all_goals (try exact p2.elim)
        split at p2
        · split at p2
          · rename_i hq
            exact ⟨_, if_pos hq⟩
          · exact p2.elim
        · exact p2.elim
      obtain ⟨S3, ed⟩ := ex
      rw [ed] at p2
      have hts : EncTs (gof u X) H2 H2 m2 S2.length (ds.map .v) vs := by
        clear p2 ed p1 hr
        induction ds generalizing vs with
        | nil =>
          have : vs = [] := hvs
          subst this
          exact .nil
        | cons d ds ih =>
          obtain ⟨w, r, e, q1, q2⟩ := hvs
          subst e
          exact .cons trivial q1 (ih r q2)
      exact ⟨S2, m2, H2, t, ds.map .v, S3, st2, x2.encT st1 ev, hts, ed, fun m' H' y st' => p2 m' H' y st' _ trivial rfl⟩
    · exact p1.elim

/-! ### o[i] = v -/
theorem set_E (hu : X.A.units + 64 < cLine) : PSet X (fun o i v H Q => ∃ S m to ti d S', StRel (gof u X) S m H ∧ EncT (gof u X) H m S.length to o ∧ EncT (gof u X) H m S.length ti i ∧ Enc (gof u X) H m S.length d v ∧ setF to ti d S = some S' ∧
    ∀ m' H', Ext (gof u X) S m H S' m' H' → StRel (gof u X) S' m' H' → Q H') := by
  intro pins s σ H o i v ov iv w Q I ro ri rv h
  obtain ⟨S, m, to, ti, d, S', st, eo, ei, ed, e, k⟩ := h
  unfold setF at e
  split at e <;> try contradiction
  rename_i j ki
  obtain ⟨h1, h2⟩ := (show j < S.length ∧ o = V.ref (m j) from eo)
  have pos : ∀ {c : Cell}, S[j]? = some c → c.isRo = false → 0 < j := fun {c} e1 hc => by
    rcases Nat.eq_zero_or_pos j with z | z
    · obtain ⟨zs, hz⟩ := st.zero
      rw [z, hz] at e1
      cases e1
      cases hc
    · exact z
  split at e
  · -- a list
    rename_i xs jj e1
    split at e
    · rename_i p hp
      cases e
      obtain ⟨vs, c1, c2⟩ := st.cell j _ e1
      obtain ⟨x1, st1⟩ := write_ok (c' := .lst false (xs.set p d)) (o := .lst (vs.set p v)) st (pos e1 rfl) e1 (by unfold lockAt; rw [e1]) c1 rfl (fun a q z => by cases z) rfl rfl (fun S' z => by unfold lockAt; rw [z])
        ⟨_, upd_same, EncAll.mono (fun a vs h => PlT.upd c1 rfl h) (Nat.le_refl _) (fun _ _ => rfl) _ _ (EncAll.set ed p c2)⟩
      exact set_list pins s σ H o i v ov iv w Q I ro ri rv ⟨m j, vs, jj, p, h2, ei, c1, by rw [c2.length]; exact hp, k m _ x1 st1⟩
    · cases e
  · -- a dict
    rename_i ki c0 k0 kvs e1
    split at e
    · rename_i hk
      cases e
      have dt : DTrel (gof u X) H m S.length (m j) kvs := st.cell j _ e1
      obtain ⟨b, rfl⟩ := key_ref hk.1 (show Enc (gof u X) H m S.length ki i from ei)
      obtain ⟨ob, es, ep, ys, q1, q2, q3, q4, q5, q6, q7, q8, q9⟩ := dt_open I dt
      subst h2
      have ro' : ov = Value.ref (m j) := ro
      subst ro'
      have ri' : iv = Value.ref b := ri
      subst ri'
      refine wpAny_setItem_heap (knd := nestedKind X.prog X.w) (hsz := q8) (by show X.A.units + 1 + 8 < cLine; omega) (key_is I hk.1 ei) q6 fun h' hm' hs' => ?_
      have hl : ys.length = kvs.length := Paired.length q7
      have hlen : (storedH ys ki.nk b w).length ≤ sizeLine := by
        refine Nat.le_trans storedH_len ?_
        rw [hl]
        exact Nat.le_trans (Nat.succ_le_of_lt hk.2) lim_le
      obtain ⟨o', ho', mk⟩ := dt_close (u := u) (m := m) (n := S.length) (kvs := putD kvs ki d) hm' q5 hlen
      have cfree := raw_code I q1 q4
      have tk : TK (gof u X) H (upd H (m j) (RawO (m j) o')) := TK.write q1 rfl
      have np := put_pair q7 hk.1 ei rv ed
      obtain ⟨x1, st1⟩ := write_ok (c' := .dT false (putD kvs ki d)) (o := RawO (m j) o') st (pos e1 rfl) e1 (by unfold lockAt; rw [e1]) q1 rfl cfree rfl rfl (fun S' z => by unfold lockAt; rw [z])
        (mk _ upd_same (Paired.imp (fun a b q => XOk.ex tk (Nat.le_refl _) (fun _ _ => rfl) q) np))
      have I4 : L2.Inv X pins σ (upd H (m j) (RawO (m j) o')) { s with heap := h', toks := s.toks + (nestedKind X.prog X.w).draws ki.nk } := I.write (x := m j) (e := m j) (by rw [q1]; exact trivial) (.inl rfl) (fun c w hc hw => (hs'.2 c hc).trans hw) ⟨o', ho'⟩ ⟨ho', ⟨o', ho'⟩, fun _ _ e k => k _ e⟩
      exact ⟨_, I4, k m _ x1 st1⟩
    · cases e
  · cases e

/-! ### targets -/
mutual
/-- the names of a target by their places; st: what may be stored to -/
def cG (N : List Str) (st : Str → Bool) : Expr → Option Tg
  | .Name x _ => (N.idxOf? x).bind fun i => if st x then some (.v i) else none
  | .Tuple es _ _ => (cGs N st es).map .tup
  | _ => none
def cGs (N : List Str) (st : Str → Bool) : List Expr → Option (List Tg)
  | [] => some []
  | e :: es => (cG N st e).bind fun t => (cGs N st es).map (t :: ·)
end
end
end Ev
-- EvS9
set_option Elab.async false
set_option linter.all false
set_option maxRecDepth 100000
set_option maxHeartbeats 4000000
/-! EvS9: targets, simple statements. -/
namespace Ev
open PySem PySem.Spec PyProof.Rows L2
/-- data of a value; of a tuple that was just yielded, weakly -/
def EncW (g : Gx) (H : Hp) (m : Nat → Addr) (n : Nat) (d : D) (v : V) : Prop := Enc g H m n d v ∨ ∃ ds a vs, d = .tup ds ∧ v = .ref a ∧ SqT g.K H a vs ∧ EncAll g H m n ds vs
def EncG (b : Bool) (g : Gx) (H : Hp) (m : Nat → Addr) (n : Nat) (d : D) (v : V) : Prop := if b = true then EncW g H m n d v else Enc g H m n d v
def Tg.isTup : Tg → Bool
  | .tup _ => true
  | _ => false
section
variable {X : Cx} {u : Tb} {W : WX}
theorem env_set {g : Gx} {H : Hp} {m : Nat → Addr} {n : Nat} {ρ : Env} {σ : L2.St} (en : EnvRel g H m n ρ σ) {i : Nat} {d : D} {v : V} (e : Enc g H m n d v) : EnvRel g H m n (ρ.set i (some d)) (σ.set i (some v)) := by
  refine ⟨by rw [List.length_set, List.length_set]; exact en.len, fun j d' h => ?_⟩
  by_cases hj : i = j
  · subst hj
    have hl : i < ρ.length := by
      have := (List.getElem?_eq_some_iff.mp h).1
      rw [List.length_set] at this
      exact this
    rw [List.getElem?_set_self hl] at h
    cases h
    exact ⟨v, by rw [List.getElem?_set_self (by rw [← en.len]; exact hl)], e⟩
  · rw [List.getElem?_set_ne hj] at h ⊢
    exact en.at_ j d' h
mutual
def Tg.vars : Tg → List Nat
  | .v i => [i]
  | .tup ts => Tg.varsL ts
def Tg.varsL : List Tg → List Nat
  | [] => []
  | t :: ts => t.vars ++ Tg.varsL ts
end
/-- the slots beside vs are as they were -/
def Same (vs : List Nat) (σ σ' : L2.St) : Prop := σ'.length = σ.length ∧ ∀ i, i ∉ vs → σ'[i]? = σ[i]?
theorem Same.trans {a b : List Nat} {σ σ1 σ2 : L2.St} (h : Same a σ σ1) (k : Same b σ1 σ2) : Same (a ++ b) σ σ2 :=
  ⟨k.1.trans h.1, fun i hi => (k.2 i fun z => hi (List.mem_append_right _ z)).trans (h.2 i fun z => hi (List.mem_append_left _ z))⟩
theorem wipe_at (vs : List Nat) : ∀ (σ : L2.St) (i : Nat), i ∉ vs → (wipe σ vs)[i]? = σ[i]? := fun σ i hi => by
  induction vs with
  | nil => rfl
  | cons v vs ih =>
    unfold wipe
    rw [List.getElem?_set_ne (fun z => hi (by rw [z]; exact List.mem_cons_self))]
    exact ih fun z => hi (List.mem_cons_of_mem _ z)
theorem wipe_in (vs : List Nat) : ∀ (σ : L2.St) (i : Nat), i ∈ vs → i < σ.length → (wipe σ vs)[i]? = some none := fun σ i hi hl => by
  induction vs with
  | nil => cases hi
  | cons v vs ih =>
    unfold wipe
    by_cases h : v = i
    · subst h
      rw [List.getElem?_set_self (by rw [wipe_length]; exact hl)]
    · rw [List.getElem?_set_ne h]
      rcases List.mem_cons.mp hi with z | z
      · exact absurd z.symm h
      · exact ih z
theorem wipe_same {a vs : List Nat} {σ σ2 : L2.St} (h : Same a (wipe σ vs) σ2) (ha : ∀ i ∈ a, i ∈ vs) : wipe σ2 vs = wipe σ vs := by
  have hl : σ2.length = σ.length := h.1.trans (wipe_length σ vs)
  apply List.ext_getElem?
  intro i
  by_cases hi : i ∈ vs
  · by_cases hn : i < σ.length
    · rw [wipe_in vs σ i hi hn, wipe_in vs σ2 i hi (by rw [hl]; exact hn)]
    · rw [List.getElem?_eq_none (by rw [wipe_length, hl]; omega), List.getElem?_eq_none (by rw [wipe_length]; omega)]
  · rw [wipe_at vs σ2 i hi, h.2 i (fun z => hi (ha i z))]
theorem wipe_env {g : Gx} {H : Hp} {m : Nat → Addr} {n : Nat} {ρ : Env} {σ : L2.St} (en : EnvRel g H m n ρ σ) (vs : List Nat) : EnvRel g H m n (wipeE ρ vs) (wipe σ vs) := by
  induction vs with
  | nil => exact en
  | cons v vs ih =>
    refine ⟨by show ((wipeE ρ vs).set v none).length = ((wipe σ vs).set v none).length; rw [List.length_set, List.length_set]; exact ih.len, fun i d e => ?_⟩
    have e' : ((wipeE ρ vs).set v none)[i]? = some (some d) := e
    show ∃ w, ((wipe σ vs).set v none)[i]? = some (some w) ∧ _
    by_cases h : v = i
    · subst h
      by_cases hv : v < (wipeE ρ vs).length
      · rw [List.getElem?_set_self hv] at e'
        cases e'
      · rw [List.getElem?_eq_none (by simpa using hv)] at e'
        cases e'
    · rw [List.getElem?_set_ne h] at e' ⊢
      exact ih.at_ i d e'
def RdG (g : Gx) (b : Bool) (t : Tg) : TG := fun v σ H Q => ∃ S m ρ d ρ', StRel g S m H ∧ EnvRel g H m S.length ρ σ ∧ EncG b g H m S.length d v ∧ asg t d ρ = some ρ' ∧ ∀ σ', EnvRel g H m S.length ρ' σ' → Same t.vars σ σ' → Q σ' H
def RdGs (g : Gx) (ts : List Tg) : TGs := fun vs σ H Q => ∃ S m ρ ds ρ', StRel g S m H ∧ EnvRel g H m S.length ρ σ ∧ EncAll g H m S.length ds vs ∧ asgs ts ds ρ = some ρ' ∧ ∀ σ', EnvRel g H m S.length ρ' σ' → Same (Tg.varsL ts) σ σ' → Q σ' H
theorem PG.imp {e : Expr} {t t' : TG} (h : PG X e t) (i : ∀ v σ H Q, t' v σ H Q → t v σ H Q) : PG X e t' := ⟨fun pins s σ H v u Q I r q => h.run pins s σ H v u Q I r (i v σ H Q q)⟩
theorem PGs.imp {e : List Expr} {t t' : TGs} (h : PGs X e t) (i : ∀ v σ H Q, t' v σ H Q → t v σ H Q) : PGs X e t' := ⟨fun pins s σ H v u Q I r q => h.run pins s σ H v u Q I r (i v σ H Q q)⟩
theorem PG.iff {e : Expr} {t : TG} (h : ∀ v σ H Q, t v σ H Q → ∃ t', PG X e t' ∧ t' v σ H Q) : PG X e t := ⟨fun pins s σ H v u Q I r q => by
  obtain ⟨t', h1, h2⟩ := h v σ H Q q
  exact h1.run pins s σ H v u Q I r h2⟩
def nameT : Expr → Bool
  | .Name .. => true
  | .Tuple .. => true
  | _ => false
theorem cG_name {N : List Str} {sc : Str → Bool} {e : Expr} {t : Tg} (h : cG N sc e = some t) : nameT e = true := by
  cases e <;> first | rfl | (unfold cG at h; cases h)
theorem assignEach_ok {e : Expr} {es : List Expr} {env : PySem.Env} (h : nameT e = true) : assignEach (e :: es) env = (false, assign e env) :: assignEach es env := by
  cases e <;> first | rfl | cases h
theorem cGs_each {N : List Str} {sc : Str → Bool} {env : PySem.Env} : ∀ {es : List Expr} {ts : List Tg}, cGs N sc es = some ts → (assignEach es env).length = ts.length ∧ (assignEach es env).findIdx? (·.1) = none
  | [], _, h => by
    cases h
    exact ⟨rfl, rfl⟩
  | e :: es, ts, h => by
    unfold cGs at h
    cases h1 : cG N sc e with
    | none =>
      rw [h1] at h
      cases h
    | some t =>
      rw [h1] at h
      cases h2 : cGs N sc es with
      | none =>
        rw [h2] at h
        cases h
      | some ts' =>
        rw [h2] at h
        cases h
        obtain ⟨a, b⟩ := cGs_each (env := env) h2
        rw [assignEach_ok (cG_name h1)]
        refine ⟨by rw [List.length_cons, List.length_cons, a], ?_⟩
        rw [List.findIdx?_cons, b]
        rfl
/-- what a context gives to its text -/
structure Ctx (u : Tb) (sn : Str → Bool) (X : Cx) (W : WX) : Prop where
  nd : X.N.Nodup
  fn : ∀ x, sn x = true → Loc X.env.scope x ∧ (X.fn x = true ∨ X.env.scope.names.lookup x = some .local)
  calm : X.calm = true
  tk : Takes X W
  po : PassesOwn (model X.prog X.w) X.A X.env X.xe
  un : X.A.units + 64 < cLine
theorem idx_some {N : List Str} {x : Str} {i : Nat} (h : N.idxOf? x = some i) : N[i]? = some x := by
  have h2 := List.findIdx?_eq_some_iff_getElem.mp (show N.findIdx? (· == x) = some i from h)
  obtain ⟨hi, e, _⟩ := h2
  rw [List.getElem?_eq_getElem hi]
  have : N[i] = x := by simpa using e
  rw [this]
theorem encG_tup {b : Bool} {g : Gx} {H : Hp} {m : Nat → Addr} {n : Nat} {ds : List D} {v : V} (h : EncG b g H m n (.tup ds) v) : ∃ a vs, v = .ref a ∧ SqT g.K H a vs ∧ EncAll g H m n ds vs := by
  unfold EncG at h
  split at h
  · rcases h with ⟨a, vs, h1, h2, h3⟩ | ⟨es, a, vs, h0, h1, h2, h3⟩
    · exact ⟨a, vs, h1, h2.sq, h3⟩
    · cases h0
      exact ⟨a, vs, h1, h2, h3⟩
  · obtain ⟨a, vs, h1, h2, h3⟩ := h
    exact ⟨a, vs, h1, h2.sq, h3⟩
mutual
theorem pg_ok {sn : Str → Bool} (c : Ctx u sn X W) : ∀ (e : Expr) (t : Tg), cG X.N sn e = some t → ∀ b, (b = true → t.isTup = true) → PG X e (RdG (gof u X) b t)
  | .Name x pos, t, h, b, hb => by
    unfold cG at h
    cases h1 : X.N.idxOf? x with
    | none =>
      rw [h1] at h
      cases h
    | some i =>
      rw [h1] at h
      have h' : (if sn x then some (Tg.v i) else none) = some t := h
      split at h'
      · rename_i hl
        cases h'
        refine PG.imp (pg_name c.nd (idx_some h1) (c.fn x hl).1 (c.fn x hl).2) ?_
        rintro v σ H Q ⟨S, m, ρ, d, ρ', st, en, ed, ea, k⟩
        have hbf : b = false := by
          cases b with
          | false => rfl
          | true => exact absurd (hb rfl) (by simp [Tg.isTup])
        subst hbf
        have ea' : (if i < ρ.length then some (ρ.set i (some d)) else none) = some ρ' := by
          unfold asg at ea
          exact ea
        split at ea'
        · cases ea'
          refine k _ (env_set en ed) ⟨List.length_set, fun j hj => ?_⟩
          have hij : i ≠ j := fun z => hj (by rw [← z]; exact List.mem_singleton.mpr rfl)
          exact List.getElem?_set_ne hij
        · cases ea'
      · cases h'
  | .Tuple es k pos, t, h, b, hb => by
    unfold cG at h
    cases h1 : cGs X.N sn es with
    | none =>
      rw [h1] at h
      cases h
    | some ts =>
      rw [h1] at h
      cases h
      obtain ⟨a1, a2⟩ := cGs_each (env := X.env) h1
      refine PG.imp (pg_tup c.calm (pgs_ok c es ts h1) a1 a2) ?_
      rintro v σ H Q ⟨S, m, ρ, d, ρ', st, en, ed, ea, k⟩
      cases d with
      | tup ds =>
        obtain ⟨a, vs, h2, h3, h4⟩ := encG_tup ed
        have ea' : asgs ts ds ρ = some ρ' := by
          unfold asg at ea
          exact ea
        refine ⟨a, vs, h2, h3, ?_, S, m, ρ, ds, ρ', st, en, h4, ea', k⟩
        rw [h4.length]
        clear k hb en h4 h3 h2 ed st a1 a2 h1 ea
        induction ts generalizing ds ρ with
        | nil =>
          cases ds with
          | nil => rfl
          | cons d ds => unfold asgs at ea'; cases ea'
        | cons t ts ih =>
          cases ds with
          | nil => unfold asgs at ea'; cases ea'
          | cons d ds =>
            unfold asgs at ea'
            cases e1 : asg t d ρ with
            | none =>
              rw [e1] at ea'
              cases ea'
            | some ρ1 =>
              rw [e1] at ea'
              rw [List.length_cons, List.length_cons, ih _ _ ea']
      | _ => unfold asg at ea; cases ea
  | .BoolOp .., _, h, _, _ => by unfold cG at h; cases h
  | .NamedExpr .., _, h, _, _ => by unfold cG at h; cases h
  | .BinOp .., _, h, _, _ => by unfold cG at h; cases h
  | .UnaryOp .., _, h, _, _ => by unfold cG at h; cases h
  | .Lambda .., _, h, _, _ => by unfold cG at h; cases h
  | .IfExp .., _, h, _, _ => by unfold cG at h; cases h
  | .Dict .., _, h, _, _ => by unfold cG at h; cases h
  | .Set .., _, h, _, _ => by unfold cG at h; cases h
  | .ListComp .., _, h, _, _ => by unfold cG at h; cases h
  | .SetComp .., _, h, _, _ => by unfold cG at h; cases h
  | .DictComp .., _, h, _, _ => by unfold cG at h; cases h
  | .GeneratorExp .., _, h, _, _ => by unfold cG at h; cases h
  | .Await .., _, h, _, _ => by unfold cG at h; cases h
  | .Yield .., _, h, _, _ => by unfold cG at h; cases h
  | .YieldFrom .., _, h, _, _ => by unfold cG at h; cases h
  | .Compare .., _, h, _, _ => by unfold cG at h; cases h
  | .Call .., _, h, _, _ => by unfold cG at h; cases h
  | .FormattedValue .., _, h, _, _ => by unfold cG at h; cases h
  | .JoinedStr .., _, h, _, _ => by unfold cG at h; cases h
  | .Constant .., _, h, _, _ => by unfold cG at h; cases h
  | .Attribute .., _, h, _, _ => by unfold cG at h; cases h
  | .Subscript .., _, h, _, _ => by unfold cG at h; cases h
  | .Starred .., _, h, _, _ => by unfold cG at h; cases h
  | .List .., _, h, _, _ => by unfold cG at h; cases h
  | .Slice .., _, h, _, _ => by unfold cG at h; cases h
theorem pgs_ok {sn : Str → Bool} (c : Ctx u sn X W) : ∀ (es : List Expr) (ts : List Tg), cGs X.N sn es = some ts → PGs X es (RdGs (gof u X) ts)
  | [], ts, h => by
    cases h
    refine PGs.imp pgs_nil ?_
    rintro vs σ H Q ⟨S, m, ρ, ds, ρ', st, en, ed, ea, k⟩
    cases ds with
    | nil =>
      have e1 : vs = [] := ed
      have e2 : some ρ = some ρ' := by
        unfold asgs at ea
        exact ea
      cases e2
      exact ⟨e1, k σ en ⟨rfl, fun _ _ => rfl⟩⟩
    | cons d ds => unfold asgs at ea; cases ea
  | e :: es, ts, h => by
    unfold cGs at h
    cases h1 : cG X.N sn e with
    | none =>
      rw [h1] at h
      cases h
    | some t =>
      rw [h1] at h
      cases h2 : cGs X.N sn es with
      | none =>
        rw [h2] at h
        cases h
      | some ts' =>
        rw [h2] at h
        cases h
        refine PGs.imp (pgs_cons (pg_ok c e t h1 false (fun z => by cases z)) (pgs_ok c es ts' h2) (by rw [assignEach_ok (cG_name h1)]; rfl)) ?_
        rintro vs σ H Q ⟨S, m, ρ, ds, ρ', st, en, ed, ea, k⟩
        cases ds with
        | nil => unfold asgs at ea; cases ea
        | cons d ds =>
          obtain ⟨v, r, e1, h3, h4⟩ := ed
          unfold asgs at ea
          cases e2 : asg t d ρ with
          | none =>
            rw [e2] at ea
            cases ea
          | some ρ1 =>
            rw [e2] at ea
            exact ⟨v, r, e1, S, m, ρ, d, ρ1, st, en, h3, e2, fun σ1 en1 s1 => ⟨S, m, ρ1, ds, ρ', st, en1, h4, ea, fun σ2 en2 s2 => k σ2 en2 (s1.trans s2)⟩⟩
end
end
end Ev
-- EvS10
set_option Elab.async false
set_option linter.all false
set_option maxRecDepth 100000
set_option maxHeartbeats 4000000
/-! EvS10: simple statements. -/
namespace Ev
open PySem PySem.Spec PyProof.Rows L2
/-- what is wanted behind a statement -/
def KF (g : Gx) (H : Hp) (De : Ends) (σ' : L2.St) (S' : Store) (m' : Nat → Addr) (H' : Hp) : Fl → Prop
  | .nx => De.nx σ' H'
  | .bk => De.bk σ' H'
  | .ct => De.ct σ' H'
  | .rt t => ∀ v, FreT H t v → EncT g H' m' S'.length t v → De.rt v H'
def PostS (g : Gx) (W : WX) (S : Store) (m : Nat → Addr) (H : Hp) (De : Ends) : SR → Prop
  | .ok f ρ' S' => ∀ m' H' σ', Ext g S m H S' m' H' → StRel g S' m' H' → EnvRel g H' m' S'.length ρ' σ' → KF g H De σ' S' m' H' f
  | .exc x ρ' S' => ∀ m' H' σ' cls, Ext g S m H S' m' H' → StRel g S' m' H' → EnvRel g H' m' S'.length ρ' σ' → x.cls ∈ g.exc → g.mg x.cls = some cls → W cls none σ' H'
  | .bad => False
def RdS (g : Gx) (W : WX) (f : Env → Store → SR) : TS := fun De σ H => ∃ S m ρ, StRel g S m H ∧ EnvRel g H m S.length ρ σ ∧ PostS g W S m H De (f ρ S)
section
variable {X : Cx} {u : Tb} {W : WX} {g : Gx} {S S1 : Store} {m m1 : Nat → Addr} {H H1 : Hp} {De : Ends} {ρ : Env} {σ : L2.St}
theorem KF.back {S' : Store} {m' : Nat → Addr} {H' : Hp} {σ' : L2.St} (x : Ext g S m H S1 m1 H1) {f : Fl} (k : KF g H De σ' S' m' H' f) : KF g H1 De σ' S' m' H' f := by
  cases f with
  | rt t => exact fun v fr en => k v (FreT.back x fr) en
  | _ => exact k
theorem PostS.rebase {r : SR} (x : Ext g S m H S1 m1 H1) (p : PostS g W S m H De r) : PostS g W S1 m1 H1 De r := by
  cases r with
  | ok f ρ' S' => exact fun m' H' σ' y s e => KF.back x (p m' H' σ' (x.trans y) s e)
  | exc e ρ' S' => exact fun m' H' σ' c y s e => p m' H' σ' c (x.trans y) s e
  | bad => exact p
theorem PostS.thenS {α : Type} {r : R α} {f : α → Store → SR} (en : EnvRel g H m S.length ρ σ) (p : PostS g W S m H De (thenS r ρ f)) : Post g W S m H σ (fun a S1 m1 H1 => PostS g W S1 m1 H1 De (f a S1)) r := by
  cases r with
  | ok a S' => exact fun m' H' x s => PostS.rebase x p
  | exc e S' => exact fun m' H' c x s q1 q2 => p m' H' σ c x s (x.env en) q1 q2
  | bad => exact p
theorem PostS.thenK {α : Type} {r : R α} {f : α → Store → SR} (en : EnvRel g H m S.length ρ σ) (p : PostS g W S m H De (Ev.thenS r ρ f)) : Post g W S m H σ (fun a S1 _ _ => PostS g W S m H De (f a S1)) r := by
  cases r with
  | ok a S' => exact fun _ _ _ _ => p
  | exc e S' => exact fun m' H' c x s q1 q2 => p m' H' σ c x s (x.env en) q1 q2
  | bad => exact p
theorem PostS.here {f : Fl} (st : StRel g S m H) (en : EnvRel g H m S.length ρ σ) (p : PostS g W S m H De (.ok f ρ S)) : KF g H De σ S m H f := p m H σ Ext.refl st en
/-! ### rows of statements -/
theorem pss_n : PSs X [] (RdS (gof u X) W fun ρ S => .ok .nx ρ S) := by
  refine PSs.imp pss_nil ?_
  rintro De σ H ⟨S, m, ρ, st, en, p⟩
  exact PostS.here st en p
theorem pss_c {st : Stmt} {sts : List Stmt} {f g' : Env → Store → SR} (h1 : PS X st (RdS (gof u X) W f)) (h2 : PSs X sts (RdS (gof u X) W g')) : PSs X (st :: sts) (RdS (gof u X) W fun ρ S => seqS (f ρ S) g') := by
  refine PSs.imp (pss_cons h1 h2) ?_
  rintro De σ H ⟨S, m, ρ, st, en, p⟩
  refine ⟨S, m, ρ, st, en, ?_⟩
  have p' : PostS (gof u X) W S m H De (seqS (f ρ S) g') := p
  revert p'
  generalize f ρ S = r
  intro p'
  cases r with
  | ok fl ρ1 S1 =>
    cases fl with
    | nx => exact fun m' H' σ' x s e => ⟨S1, m', ρ1, s, e, PostS.rebase x p'⟩
    | bk => exact p'
    | ct => exact p'
    | rt t => exact p'
  | exc e ρ1 S1 => exact p'
  | bad => exact p'
variable {pos : Pos}
theorem ps_pa : PS X (.Pass pos) (RdS (gof u X) W fun ρ S => .ok .nx ρ S) := by
  refine PS.imp ps_pass ?_
  rintro De σ H ⟨S, m, ρ, st, en, p⟩
  exact PostS.here st en p
theorem ps_bk : PS X (.Break pos) (RdS (gof u X) W fun ρ S => .ok .bk ρ S) := by
  refine PS.imp ps_break ?_
  rintro De σ H ⟨S, m, ρ, st, en, p⟩
  exact PostS.here st en p
theorem ps_ct : PS X (.Continue pos) (RdS (gof u X) W fun ρ S => .ok .ct ρ S) := by
  refine PS.imp ps_continue ?_
  rintro De σ H ⟨S, m, ρ, st, en, p⟩
  exact PostS.here st en p
theorem ps_rn : PS X (.Return none pos) (RdS (gof u X) W fun ρ S => .ok (.rt (.v .non)) ρ S) := by
  refine PS.imp ps_retN ?_
  rintro De σ H ⟨S, m, ρ, st, en, p⟩
  exact PostS.here st en p _ trivial rfl
theorem ps_rt {e : Expr} {E : Env → Store → R T} (h : PE X e (RdE (gof u X) W E)) : PS X (.Return (some e) pos) (RdS (gof u X) W fun ρ S => thenS (E ρ S) ρ fun t S1 => .ok (.rt t) ρ S1) := by
  refine PS.imp (ps_ret h) ?_
  rintro De σ H ⟨S, m, ρ, st, en, p⟩
  exact ⟨S, m, ρ, st, en, (PostS.thenK en p).mono fun t S1 m1 H1 x1 st1 p1 v fv ev => p1 m1 H1 σ x1 st1 (x1.env en) v fv ev⟩
theorem ps_ite {c : Expr} {a b : List Stmt} {B : Env → Store → R Bool} {f g' : Env → Store → SR} (hc : PT X c (RdB (gof u X) W B)) (ha : PSs X a (RdS (gof u X) W f)) (hb : PSs X b (RdS (gof u X) W g')) :
    PS X (.If c a b pos) (RdS (gof u X) W fun ρ S => thenS (B ρ S) ρ fun k S1 => if k then f ρ S1 else g' ρ S1) := by
  refine PS.imp (ps_if hc ha hb) ?_
  rintro De σ H ⟨S, m, ρ, st, en, p⟩
  refine ⟨S, m, ρ, st, en, (PostS.thenS en p).mono fun k S1 m1 H1 x1 st1 p1 => ?_⟩
  cases k with
  | true => exact ⟨S1, m1, ρ, st1, x1.env en, p1⟩
  | false => exact ⟨S1, m1, ρ, st1, x1.env en, p1⟩
def noComp : Expr → Bool
  | .ListComp .. => false
  | .SetComp .. => false
  | .DictComp .. => false
  | _ => true
theorem noComp_ok {e : Expr} {t : Option Expr} {l : Nat} {env : PySem.Env} (h : noComp e = true) : swapsWith e t l env = pure false := by
  cases e <;> first | rfl | cases h
theorem ps_ex {e : Expr} {E : Env → Store → R T} (hn : noComp e = true) (h : PE X e (RdE (gof u X) W E)) : PS X (.Expr e pos) (RdS (gof u X) W fun ρ S => thenS (E ρ S) ρ fun _ S1 => .ok .nx ρ S1) := by
  refine PS.imp (ps_expr h (noComp_ok hn)) ?_
  rintro De σ H ⟨S, m, ρ, st, en, p⟩
  exact ⟨S, m, ρ, st, en, (PostS.thenS en p).mono fun t S1 m1 H1 x1 st1 p1 v fv ev => PostS.here st1 (x1.env en) p1⟩
/-! ### stores -/
def noTup : Expr → Bool
  | .Tuple .. => false
  | _ => true
def noTL : Expr → Bool
  | .Tuple .. => false
  | .List .. => false
  | _ => true
theorem sw_none1 {tg e : Expr} {env : PySem.Env} (h : noTL tg = true) : swappedStores [tg] e env = pure none := by
  cases tg <;> first | rfl | cases h
theorem sw_none2 {tg e : Expr} {env : PySem.Env} (h : noTup e = true) : swappedStores [tg] e env = pure none := by
  cases tg <;> first | rfl | (cases e <;> first | rfl | cases h)
/-- a tuple of targets one of which is no local name -/
def someCell (sc : Scope) : Expr → Bool
  | .Tuple ts _ _ => ts.any fun t => match t with
    | .Name x _ => !decide (sc.names.lookup x = some .local)
    | _ => true
  | _ => false
theorem filterMap_lt {α β : Type} {f : α → Option β} : ∀ {l : List α} {a : α}, a ∈ l → f a = none → (l.filterMap f).length < l.length
  | b :: l, a, h, e => by
    rcases List.mem_cons.mp h with z | z
    · subst z
      rw [List.filterMap_cons, e]
      exact Nat.lt_succ_of_le (List.length_filterMap_le _ _)
    · have ih := filterMap_lt z e
      rw [List.filterMap_cons]
      cases f b with
      | none => exact Nat.lt_succ_of_lt ih
      | some c => exact Nat.succ_lt_succ ih
theorem sw_none3 {tg e : Expr} {env : PySem.Env} (h : someCell env.scope tg = true) : swappedStores [tg] e env = pure none := by
  cases tg with
  | Tuple ts k p =>
    cases e with
    | Tuple vs k2 p2 =>
      obtain ⟨t, ht, hq⟩ := List.any_eq_true.mp (show (ts.any fun t => match t with | .Name x _ => !decide (env.scope.names.lookup x = some .local) | _ => true) = true from h)
      unfold swappedStores
      dsimp only
      have hl : (ts.filterMap fun t => match t with
        | .Name id pos => if env.kindOf id == some .local && pos.line == (ts.head?.map (·.pos.line)).getD 0 then some id else none
        | _ => none).length < ts.length := filterMap_lt ht (by
          cases t with
          | Name x q =>
            have hq' : (!decide (env.scope.names.lookup x = some .local)) = true := hq
            rw [Bool.not_eq_true', decide_eq_false_iff_not] at hq'
            show (if env.kindOf x == some .local && q.line == (ts.head?.map (·.pos.line)).getD 0 then some x else none) = none
            rw [if_neg]
            intro z
            rw [Bool.and_eq_true] at z
            exact hq' (eq_of_beq z.1)
          | _ => rfl)
      split
      · rfl
      split
      · rfl
      split
      · rfl
      rename_i hz
      exfalso
      apply hz
      rw [Bool.or_eq_true]
      left
      rw [bne_iff_ne]
      exact Nat.ne_of_lt hl
    | _ => rfl
  | _ => cases h
theorem each1 {tg : Expr} {env : PySem.Env} (h : noStar tg = true) : (assignEach [tg] env).map (·.2) = [assign tg env] := by
  cases tg <;> first | rfl | cases h
theorem matR {r : R T} {f : D → Store → SR} : thenS (r.bind mat) ρ f = thenS r ρ fun t S1 => thenS (mat t S1) ρ f := by
  cases r <;> rfl
theorem ps_asT {sn : Str → Bool} (c : Ctx u sn X W) {tg e : Expr} {t : Tg} {E : Env → Store → R T} (hn : noComp e = true) (hw : (noTL tg = true ∨ noTup e = true) ∨ someCell X.env.scope tg = true) (ht : cG X.N sn tg = some t) (h : PE X e (RdE (gof u X) W E)) :
    PS X (.Assign [tg] e pos) (RdS (gof u X) W fun ρ S => thenS ((E ρ S).bind mat) ρ fun d S1 => (match asg t d ρ with | some ρ' => .ok .nx ρ' S1 | none => .bad)) := by
  have hst : noStar tg = true := by
    have := cG_name ht
    cases tg <;> first | rfl | cases this
  refine PS.imp (ps_asg h (pg_ok c tg t ht false (fun z => by cases z)) (noComp_ok hn) (hw.elim (fun z => z.elim sw_none1 sw_none2) sw_none3) (each1 hst)) ?_
  rintro De σ H ⟨S, m, ρ, st, en, p⟩
  refine ⟨S, m, ρ, st, en, (PostS.thenS en p).mat.mono fun t1 S1 m1 H1 x1 st1 p1 v fv ev => ?_⟩
  obtain ⟨d, S2, m2, x2, st2, ed, p2⟩ := p1 v fv ev
  split at p2
  · rename_i ρ' ea
    exact ⟨S2, m2, ρ, d, ρ', st2, x2.env en, ed, ea, fun σ' en' _ => PostS.here st2 en' p2⟩
  · exact p2.elim
theorem ps_se (hu : X.A.units + 64 < cLine) {o i e : Expr} {Eo Ei E : Env → Store → R T} {tpos : Pos} (hn : noComp e = true) (hi : plainI i = true) (ho : PE X o (RdE (gof u X) W Eo)) (hix : PE X i (RdE (gof u X) W Ei)) (he : PE X e (RdE (gof u X) W E)) :
    PS X (.Assign [.Subscript o i tpos] e pos) (RdS (gof u X) W fun ρ S => thenS ((E ρ S).bind mat) ρ fun d S1 => thenS ((Eo ρ S1).bind fun to S2 => (Ei ρ S2).bind fun ti S3 => optS (setF to ti d S3)) ρ fun _ S4 => .ok .nx ρ S4) := by
  have ha : ∀ v, assign (.Subscript o i tpos) X.env v = (do
      let ov ← holding [v] (eval o X.env)
      let iv ← holding [v, ov] (eval i X.env)
      standAt tpos
      holding [v, ov, iv] (setItem ov iv v)
      release [v, ov, iv] []) := by
    intro v
    cases i <;> first | rfl | cases hi
  refine PS.imp (ps_asg (pos := pos) he (pg_sub ho hix (set_E (u := u) hu) ha) (noComp_ok (t := some (.Subscript o i tpos)) (l := pos.line) (env := X.env) hn) (sw_none1 rfl) rfl) ?_
  rintro De σ H ⟨S, m, ρ, st, en, p⟩
  refine ⟨S, m, ρ, st, en, (PostS.thenS en p).mat.mono fun t1 S1 m1 H1 x1 st1 p1 v fv ev => ?_⟩
  obtain ⟨d, S2, m2, x2, st2, ed, p2⟩ := p1 v fv ev
  have en2 := x2.env en
  refine sub st2 en2 ((PostS.thenS en2 p2).bind.mono fun to S3 m3 H3 x3 st3 p3 ov fo eo => ?_)
  refine ⟨S3, m3, ρ, st3, x3.env en2, p3.bind.mono fun ti S4 m4 H4 x4 st4 p4 iv fi ei => ?_⟩
  cases e5 : setF to ti d S4 with
  | none =>
    rw [e5] at p4
    exact p4.elim
  | some S5 =>
    rw [e5] at p4
    exact ⟨S4, m4, to, ti, d, S5, st4, x4.encT st3 eo, ei, (x3.trans x4).enc ed, e5, fun m' H' y s => PostS.here s ((x3.trans x4).trans y |>.env en2) (p4 m' H' y s)⟩
theorem aug2_ok {g : Gx} {o : Op2} {d d' : D} {t : T} {H : Hp} {m : Nat → Addr} {n : Nat} {x y : V} {Q : VK} (e : aug2 o (.v d) t = some d') (ed : Enc g H m n d x) (et : EncT g H m n t y) (q : ∀ v, Enc g H m n d' v → Q v H) : rBinI o x y H Q := by
  unfold aug2 at e
  split at e
  · rename_i i j e0
    cases e1 : binI o i j with
    | none =>
      rw [e1] at e
      cases e
    | some k =>
      rw [e1] at e
      cases e
      injection e0 with e3
      subst e3
      exact ⟨i, j, k, ed, et, e1, q _ rfl⟩
  · cases e
theorem ps_au {sn : Str → Bool} (c : Ctx u sn X W) {i : Nat} {x : Str} {e : Expr} {o : Op2} {E : Env → Store → R T} {pos' : Pos} (ho : o ≠ .pow) (hi : X.N[i]? = some x) (hx : sn x = true) (he : PE X e (RdE (gof u X) W E)) :
    PS X (.AugAssign (.Name x pos') (pyOp o) e pos) (RdS (gof u X) W fun ρ S => (match ρ[i]? with
    | some (some d) => thenS ((E ρ S).bind fun t S1 => opt (aug2 o (.v d) t) S1) ρ fun d' S1 => .ok .nx (ρ.set i (some d')) S1
    | _ => .bad)) := by
  have hp : PIp X (pyOp o) (rBinI o) := fun pins s σ H x y v u Q I r1 r2 h => iop_binI o ho pins s σ H x y v u Q I r1 r2 h
  refine PS.imp (ps_aug c.nd hi (c.fn x hx).1 he hp (c.fn x hx).2) ?_
  rintro De σ H ⟨S, m, ρ, st, en, p⟩
  dsimp only at p
  split at p
  · rename_i d ed
    obtain ⟨v, ev, hv⟩ := en.at_ i d ed
    refine ⟨v, ev, S, m, ρ, st, en, (PostS.thenS en p).bind.mono fun t S1 m1 H1 x1 st1 p1 w fw ew => ?_⟩
    obtain ⟨d', e', q⟩ := p1.opt
    exact aug2_ok e' (x1.enc hv) ew fun z hz => PostS.here st1 (env_set (x1.env en) hz) (q m1 H1 Ext.refl st1)
  · exact p.elim
def rGetE (g : Gx) : V → V → Hp → VK → Prop := fun x y H Q => ∃ S m ta tb t, StRel g S m H ∧ EncT g H m S.length ta x ∧ EncT g H m S.length tb y ∧ getF ta tb S = some t ∧ ∀ v, FreT H t v → EncT g H m S.length t v → Q v H
theorem get_E : PGet X (rGetE (gof u X)) := by
  rintro pins s σ H o i ov iv Q I r1 r2 ⟨S, m, ta, tb, t, st, ea, eb, e, k⟩
  unfold getF at e
  split at e
  · rename_i j
    split at e
    · rename_i xs q1
      cases e1 : ixAt xs j with
      | none =>
        rw [e1] at e
        cases e
      | some d =>
        rw [e1] at e
        cases e
        obtain ⟨p, vs, h1, h2, h3⟩ := asQ_ok st ea q1
        obtain ⟨z, h4, h5⟩ := atI_enc h3 e1
        have h6 : i = .int j := eb
        have q := k z trivial h5
        subst h1 h6
        have r1' : ov = Value.ref p := r1
        subst r1'
        obtain ⟨t0, rfl⟩ := r2
        obtain ⟨jj, g1, g2, g3, g4, g5⟩ := atI_get h4
        have hn := line63
        rcases h2 with h2 | ⟨h2, _⟩
        · obtain ⟨its, r, pl, hz⟩ := I.list h2
          obtain ⟨w, ew, rw'⟩ := r.get g2
          have hl := r.length
          have fin : EP X pins σ Q w s := ⟨z, H, I, rw', q⟩
          by_cases h0 : 0 ≤ j
          · have hj : j.toNat = jj := by
              rw [seqIndex_of h0 g5] at g1
              exact Option.some.inj g1
            exact wpAny_getItem_list pl.isList h0 (by omega) (by rw [hj]; simpa using ew) fin
          · have hj : (j + (its.toArray.size : Int)).toNat = jj := by
              rw [seqIndex_neg (by omega) g4] at g1
              rw [List.size_toArray, ← hl]
              exact Option.some.inj g1
            exact wpAny_getItem_list_neg pl.isList (by omega) (by rw [List.size_toArray] <;> omega) (by omega) (by rw [hj]; simpa using ew) fin
        · obtain ⟨its, r, pl, hz⟩ := I.tuple h2.sq
          obtain ⟨w, ew, rw'⟩ := r.get g2
          have hl := r.length
          have fin : EP X pins σ Q w s := ⟨z, H, I, rw', q⟩
          exact getItem_tuple (j := jj) pl (by omega) (by omega) (by rw [List.size_toArray, ← hl]; exact g1) (by simpa using ew) fin
    · cases e
  · cases e
theorem ps_aui (hu : X.A.units + 64 < cLine) {o i e : Expr} {op : Op2} {Eo Ei E : Env → Store → R T} {tpos : Pos} (hop : op ≠ .pow) (hi : plainI i = true) (ho : PE X o (RdE (gof u X) W Eo)) (hix : PE X i (RdE (gof u X) W Ei)) (he : PE X e (RdE (gof u X) W E)) :
    PS X (.AugAssign (.Subscript o i tpos) (pyOp op) e pos) (RdS (gof u X) W fun ρ S => thenS ((Eo ρ S).bind fun to S1 => (Ei ρ S1).bind fun ti S2 => (opt (getF to ti S2) S2).bind fun told S3 => (E ρ S3).bind fun t S4 =>
        (opt (aug2 op told t) S4).bind fun d' S5 => optS (setF to ti d' S5)) ρ fun _ S6 => .ok .nx ρ S6) := by
  have hp : PIp X (pyOp op) (rBinI op) := fun pins s σ H x y v u Q I r1 r2 h => iop_binI op hop pins s σ H x y v u Q I r1 r2 h
  have ha : ∀ ov iv new, augStore i ov iv new = (do holding [new, ov, iv] (setItem ov iv new); release [new, ov, iv] []; pure .next) := by
    intro ov iv new
    cases i <;> first | rfl | cases hi
  refine PS.imp (ps_augS ho hix (get_E (u := u)) he hp (set_E (u := u) hu) ha) ?_
  rintro De σ H ⟨S, m, ρ, st, en, p⟩
  refine sub st en ((PostS.thenS en p).bind.mono fun to S1 m1 H1 x1 st1 p1 ov fo eo => ?_)
  have en1 := x1.env en
  refine ⟨S1, m1, ρ, st1, en1, p1.bind.mono fun ti S2 m2 H2 x2 st2 p2 iv fi ei => ?_⟩
  have en2 := x2.env en1
  obtain ⟨told, e2, p3⟩ := p2.bind.opt
  have p4 := p3 m2 H2 Ext.refl st2
  refine ⟨S2, m2, to, ti, told, st2, x2.encT st1 eo, ei, e2, fun vold fold eold => ?_⟩
  refine sub st2 en2 (p4.bind.mono fun t S4 m4 H4 x4 st4 p5 v fv ev => ?_)
  obtain ⟨d', e5, p6⟩ := p5.bind.opt
  have p7 := p6 m4 H4 Ext.refl st4
  cases e6 : setF to ti d' S4 with
  | none =>
    rw [e6] at p7
    exact p7.elim
  | some S5 =>
    rw [e6] at p7
    have hx : ∀ dd, told = .v dd → rBinI op vold v H4 fun z H5 => ∃ S m to ti d S', StRel (gof u X) S m H5 ∧ EncT (gof u X) H5 m S.length to ov ∧ EncT (gof u X) H5 m S.length ti iv ∧ Enc (gof u X) H5 m S.length d z ∧ setF to ti d S = some S' ∧
        ∀ m' H', Ext (gof u X) S m H5 S' m' H' → StRel (gof u X) S' m' H' → De.nx σ H' := fun dd et => by
      subst et
      exact aug2_ok e5 (x4.enc eold) ev fun z hz => ⟨S4, m4, to, ti, d', S5, st4, (x2.trans x4).encT st1 eo, x4.encT st2 ei, hz, e6, fun m' H' y s => PostS.here s ((x4.trans y).env en2) (p7 m' H' y s)⟩
    cases told with
    | v dd => exact hx dd rfl
    | l xs => cases e5
    | t xs => cases e5
/-- o.append(e) -/
theorem ps_ap {o e1 : Expr} {so s1 : Sm} {apos cpos : Pos} (ho : PE X o (RdE (gof u X) W so.E)) (h1 : PE X e1 (RdE (gof u X) W s1.E)) (hs : noStar e1 = true)
    (hbase : attributeBase o "append" X.env (eval o X.env) = eval o X.env) (hline : (apos.endLine == cpos.line) = true) :
    PS X (.Expr (.Call (.Attribute o "append" apos) [e1] [] cpos) pos) (RdS (gof u X) W fun ρ S => thenS ((so.E ρ S).bind fun t S1 => if rcv .append t S1 then (evM [s1] ρ S1).bind fun ds S2 => meF .append t (ds.map .v) S2 else .bad) ρ fun _ S1 => .ok .nx ρ S1) :=
  ps_ex rfl (pe_ap ho h1 hs hbase hline)
/-- a, b = x, y -/
theorem ps_pr {sn : Str → Bool} (c : Ctx u sn X W) {i j : Nat} {x y : Str} {a b : Expr} {sa sb : Sm} {px py pt : Pos} {kt k2 : Nat} {pt2 : Pos} (hi : X.N[i]? = some x) (hj : X.N[j]? = some y) (hij : i ≠ j) (hx : X.env.scope.names.lookup x = some .local) (hy : X.env.scope.names.lookup y = some .local)
    (hna : noStar a = true) (hnb : noStar b = true) (ha : PE X a (RdE (gof u X) W sa.E)) (hb : PE X b (RdE (gof u X) W sb.E)) (hw : swappedStores [.Tuple [.Name x px, .Name y py] kt pt] (.Tuple [a, b] k2 pt2) X.env = pure (some [x, y])) :
    PS X (.Assign [.Tuple [.Name x px, .Name y py] kt pt] (.Tuple [a, b] k2 pt2) pos) (RdS (gof u X) W fun ρ S => thenS (evM [sa, sb] ρ S) ρ fun ds S1 => (match ds with
    | [x, y] => if i < ρ.length ∧ j < ρ.length then .ok .nx ((ρ.set i (some x)).set j (some y)) S1 else .bad
    | _ => .bad)) := by
  refine PS.imp (ps_par c.calm c.nd hi hj hij hx hy (pa_m1 hna ha (pa_m1 hnb hb pa_m0)) hw) ?_
  rintro De σ H ⟨S, m, ρ, st, en, p⟩
  refine ⟨S, m, ρ, st, en, (PostS.thenS en p).mono fun ds S1 m1 H1 x1 st1 p1 vs hvs => ?_⟩
  split at p1
  · rename_i d1 d2
    obtain ⟨v1, r1, e1, h1, h2⟩ := hvs
    obtain ⟨v2, r2, e2, h3, h4⟩ := h2
    have e3 : r2 = [] := h4
    subst e1 e2 e3
    split at p1
    · exact ⟨v1, v2, rfl, PostS.here st1 (env_set (env_set (x1.env en) h1) h3) p1⟩
    · exact p1.elim
  · exact p1.elim
end
end Ev
-- EvS11
set_option Elab.async false
set_option linter.all false
set_option maxRecDepth 100000
set_option maxHeartbeats 4000000
/-! EvS11: what is walked. -/
namespace PySem
theorem meets_enumerate_new1 {v : Value} {o : Obj} {H : Heap → Prop} (B : Begins v o H) :
    Meets (Builtin.«enumerate.__new__» ⟨[.type "enumerate", v], []⟩) (fun _ R s => H s.heap ∧
      R (.ok (.ret (.ref (s.heap.push o).objs.size))) { s with heap := (s.heap.push o).push { cls := .type "enumerate", data := .fields #[.none, .bool false, .ref s.heap.objs.size, rawInt 0, .none, .none] } }) :=
  .of_wp fun prog w A R s h => by
    obtain ⟨hp, g, d, tk, os⟩ := s; obtain ⟨h1, h⟩ := h
    have hsub := sub_enumerate
    have q1 : ∀ {A' : Around} {E : Value → Shared → Prop} {Q : Value → Shared → Prop}, Q (.ref hp.objs.size) ⟨hp.push o, g, d, tk, os⟩ → wpAny (model prog w) A' (pyIter v) Q E ⟨hp, g, d, tk, os⟩ :=
      fun q => B.iter prog w _ _ ⟨hp, g, d, tk, os⟩ _ h1 q
    wp_walk using q1
    refine wpAny_stack_any fun st => wpAny_pure ?_
    split
    · rename_i c _ _ _ _ _
      cases (c == Value.type "enumerate")
      · wp_walk using q1
        exact ⟨_, rfl, h⟩
      · wp_walk using q1
        exact ⟨_, rfl, h⟩
    · wp_walk using q1
      exact ⟨_, rfl, h⟩
section
variable {prog : Program} {w : World} {A : Around} {E : Value → Shared → Prop} {s : Shared}
theorem enum_begins1 {v : Value} {o : Obj} {H : Heap → Prop} {Q : Value → Shared → Prop} (B : Begins v o H) (h1 : H s.heap)
    (h : ∀ h', IsEnum h' (s.heap.objs.size + 1) s.heap.objs.size 0 .none → h'.get? s.heap.objs.size = some o → h'.objs.size = s.heap.objs.size + 2 →
      (∀ b o, s.heap.get? b = some o → h'.get? b = some o) → Q (.ref (s.heap.objs.size + 1)) { s with heap := h' }) :
    wpAny (model prog w) A (call (.type "enumerate") [v]) Q E s := by
  refine callType_new F.called_enumerate (by decide) (F.typeCall_enumerate_1 _) (F.newCall_enumerate_1 _) (fun obj => F.args_object_init_2 obj _) F.entry_enumerate_new
    (meets_enumerate_new1 B) ⟨h1, ?_⟩
  have hz : (s.heap.push o).objs.size = s.heap.objs.size + 1 := Heap.size_push ..
  show _ ∧ _
  rw [hz]
  have he : IsEnum ((s.heap.push o).push { cls := .type "enumerate", data := .fields #[.none, .bool false, .ref s.heap.objs.size, rawInt 0, .none, .none] }) (s.heap.objs.size + 1) s.heap.objs.size 0 .none := by
    have := Heap.get?_push_size (s.heap.push o) (o := { cls := .type "enumerate", data := .fields #[.none, .bool false, .ref s.heap.objs.size, rawInt 0, .none, .none] }) rfl
    rw [hz] at this; exact this
  refine ⟨⟨_, he, rfl⟩, h _ he (Heap.get?_push_of_some _ (Heap.get?_push_size _ B.free)) (by rw [Heap.size_push, hz]) fun b o x => Heap.get?_push_of_some _ (Heap.get?_push_of_some _ x)⟩
end
end PySem
namespace Ev
open PySem PySem.Spec PyProof.Rows L2
section
variable {P : Program} {w : World} {K : PySem.W.Frag}
/-! ### enumerate over a tuple -/
def IteT (K : PySem.W.Frag) (a : Addr) : It :=
  ⟨fun i H => ∃ (xs : List V) (x : V), SqT K H a xs ∧ xs[i]? = some x, fun i H v H' => ∃ T x, v = .ref T ∧ H T = none ∧ H' = upd H T (.tup [.int (i : Nat), x]) ∧ ∀ xs, SqT K H a xs → xs[i]? = some x, fun i H => ∃ xs : List V, SqT K H a xs ∧ xs.length = i⟩
theorem turn_enumT {elts : List Expr} {kk : Nat} {tpos : Pos} (a e it : Addr) :
    Turn P w K (.Tuple elts kk tpos) (IteT K a) [e, it] e (fun i h => (∃ old, IsEnum h e it ((i : Nat) : Int) old) ∧ h.IsTupleIter it a i ∧ e ≠ it ∧ a ≠ it ∧ a ≠ e) where
  mem := by simp
  obj := fun i h st b hb => by
    obtain ⟨⟨old, he⟩, ⟨o, ho, hc, hd⟩, _⟩ := st
    have e' : b = e ∨ b = it := by simpa using hb
    rcases e' with z | z
    · rw [z]; exact ⟨_, he, fun v q => nomatch q⟩
    · rw [z]; exact ⟨o, ho, fun v q => by rw [hd] at q; cases q⟩
  keep := fun i h h' st k => let ⟨⟨old, he⟩, hi, hne⟩ := st; ⟨⟨old, k e (by simp) _ he⟩, hi.at fun o q => k it (by simp) o q, hne⟩
  item := by
    intro X hP hw hK hc i pins s σ H E I hf st hg
    subst hP hw hK
    obtain ⟨⟨old, he⟩, hit, hne, hai, hae⟩ := st
    obtain ⟨xs, x, hq, hx⟩ := hg
    obtain ⟨its, rv, p, hz⟩ := I.tuple hq
    obtain ⟨u, hu, ru⟩ := rv.get hx
    have hel : e < s.heap.objs.size := Heap.lt_size he
    have hil : it < s.heap.objs.size := by obtain ⟨_, q, _⟩ := hit; exact Heap.lt_size q
    have hlt : i < its.toArray.size := by
      rw [List.size_toArray]
      exact (List.getElem?_eq_some_iff.mp hu).1
    refine wpAny_pyNext_enum_itemC (Draws.tuple (prog := X.prog) (w := X.w) (A := X.A.in1) (I.ok.hd hc) it a hai its.toArray) he ⟨hit, p⟩ hlt hne (by simp [hne, Ne.symm hae]) fun u' h' tk hP ho hst hT hsz hk => ?_
    have hu' : u' = u := by
      have z : its[i]? = some u' := by simpa using hP
      rw [hu] at z
      cases z
      rfl
    subst hu'
    refine ⟨_, rfl, wpAny_letOwnedTupleGo_enum (s := { s with heap := h', toks := tk + 1 }) ho fun h'' he' sb => ?_⟩
    have hT2 : h''.get? s.heap.objs.size = some { cls := .type "tuple", data := .seq #[.int i tk, u'] } := (sb.2 _ (Nat.ne_of_gt hel)).trans hT
    have new : ObjOk X.prog X.w (upd H s.heap.objs.size (.tup [.int (i : Nat), x])) h'' s.heap.objs.size (.tup [.int (i : Nat), x]) :=
      ⟨by show 2 ≤ sizeLine; decide, [.int i tk, u'], .cons ⟨_, rfl⟩ (.cons ru .nil), ⟨_, hT2, rfl, _, rfl⟩⟩
    have I1 : L2.Inv X pins σ (upd H s.heap.objs.size (.tup [.int (i : Nat), x])) { s with heap := h'', toks := tk + 1 } :=
      I.turnedNew (ch := [e, it]) (fun b ob hb q => (sb.2 b (fun z => hb (by simp [z]))).trans (hk b ob (fun z => hb (by simp [z])) (fun z => hb (by simp [z])) q)) hf (Nat.le_refl _) new
    refine ⟨.ref s.heap.objs.size, _, I1, rfl, ⟨_, x, rfl, I.hok.fresh (Nat.le_refl _), rfl, fun ys hy => by rw [I.tuple_inj hy hq]; exact hx⟩, ⟨⟨u', ?_⟩, hst.1.at fun o q => (sb.2 it (Ne.symm hne)).trans q, hne, hai, hae⟩, fun b hb => ?_⟩
    · have e1 : ((i + 1 : Nat) : Int) = (i : Int) + 1 := by omega
      rw [e1]; exact he'
    · have hb' : b < s.heap.objs.size := by
        have e' : b = e ∨ b = it := by simpa using hb
        rcases e' with z | z
        · rw [z]; exact hel
        · rw [z]; exact hil
      rw [upd_ne (Nat.ne_of_lt hb')]
      exact (hf b hb).1
  done := by
    intro X hP hw hK hc i pins s σ H E I hf st hg
    subst hP hw hK
    obtain ⟨⟨old, he⟩, hit, hne, hai, hae⟩ := st
    obtain ⟨xs, hq, hx⟩ := hg
    obtain ⟨its, rv, p, hz⟩ := I.tuple hq
    obtain ⟨f0, f1, f2, f3, f4, f5⟩ := hf it (by simp)
    have hl : its.toArray.size = i := by
      rw [List.size_toArray, ← rv.length]
      exact hx
    have D := Draws.tuple (prog := X.prog) (w := X.w) (A := X.A.in1) (I.ok.hd hc) it a hai its.toArray
    rw [hl] at D
    exact wpAny_pyNext_enum_endD D he ⟨hit, p⟩ fun h' eb => ⟨rfl, I.turned (t' := s.toks) (fun b o hb q => eb b o hb q) f0 f1 f3 f4 f5⟩
  self := fun A i s Q E st h => let ⟨⟨_, he⟩, _⟩ := st; wpAny_pyIter_enum he h
def iEnumT (K : PySem.W.Frag) (ta : TA) : TI := fun σ H R => ta σ H fun vs H1 => ∃ a xs, vs = [.ref a] ∧ SqT K H1 a xs ∧ R (IteT K a) H1
theorem pi_enumT {X : Cx} {e : Expr} {ta : TA} {p pos tpos : Pos} {elts : List Expr} {kk : Nat} (hg : Gl X "enumerate") (hm : X.mg "enumerate" = none) (ha : PA X [e] ta) (hs : starEach [e] X.env = [(false, eval e X.env)]) :
    PI X (.Tuple elts kk tpos) (.Call (.Name "enumerate" p) [e] [] pos) (iEnumT X.K ta) := by
  refine ⟨fun pins s σ H R I h => ?_⟩
  refine Call_ (ld_blt I hg hm boot_enumerate (PyProof.Rows.callWith_type1 (thn (ha.run pos pins s σ H _ I h) fun us s1 ⟨vs, H1, I1, r1, q1⟩ => ?_) hs rfl))
  obtain ⟨a, xs, ex, hq, q⟩ := q1
  subst ex
  cases r1 with
  | cons r rr =>
    cases rr
    cases r
    obtain ⟨its, rv, p', hz⟩ := I1.tuple hq
    have hal : a < s1.heap.objs.size := p'.lt
    refine enum_begins1 (begins_tuple a its.toArray) p' fun h' he hit hsz hk => wpAny_pyIter_enum he ?_
    have I2 : L2.Inv X pins σ H1 { s1 with heap := h' } := I1.kept (t' := s1.toks) hk
    refine ⟨s1.heap.objs.size + 1, [s1.heap.objs.size + 1, s1.heap.objs.size], _, _, H1, rfl, I2, turn_enumT a (s1.heap.objs.size + 1) s1.heap.objs.size, ⟨⟨.none, he⟩, ⟨_, hit, rfl, rfl⟩, Nat.succ_ne_self _, Nat.ne_of_lt hal, Nat.ne_of_lt (Nat.lt_succ_of_lt hal)⟩, fun b hb => ?_, q⟩
    have e' : b = s1.heap.objs.size + 1 ∨ b = s1.heap.objs.size := by simpa using hb
    have hle : s1.heap.objs.size ≤ b := by
      rcases e' with z | z
      · rw [z]; exact Nat.le_add_right _ _
      · rw [z]; exact Nat.le_refl _
    exact I1.fpOk hle (I1.hok.fresh hle)

/-! ### items of a dict that is known to the object -/
def ItiR (a : Addr) (o : Obj) (ps : List (Addr × V)) : It :=
  ⟨fun i H => H a = some (RawO a o) ∧ i < ps.length, fun i H x H' => ∃ T b v, ps[i]? = some (b, v) ∧ x = .ref T ∧ H T = none ∧ H' = upd H T (.tup [.ref b, v]), fun i H => H a = some (RawO a o) ∧ ps.length ≤ i⟩
abbrev EntP : DictEntry → Addr × V → Prop := fun e p => e.key = .ref p.1 ∧ L2.RelV p.2 e.val
theorem pget {α β : Type} {F : α → β → Prop} : ∀ {l₁ : List α} {l₂ : List β} {i : Nat} {b : β}, Paired F l₁ l₂ → l₂[i]? = some b → ∃ a, l₁[i]? = some a ∧ F a b
  | _, _, _, _, .nil, e => by simp at e
  | _, _, 0, _, .cons r _, e => by
    simp at e
    subst e
    exact ⟨_, rfl, r⟩
  | _, _, i + 1, _, .cons _ t, e => pget (i := i) t (by simpa using e)
theorem raw_at {X : Cx} {pins : List (Addr × Obj)} {σ : L2.St} {H : Hp} {s : Shared} {a : Addr} {o : Obj} (I : L2.Inv X pins σ H s) (h : H a = some (RawO a o)) : s.heap.get? a = some o := by
  have hok : ObjOk X.prog X.w H s.heap a (RawO a o) := I.hok a _ h
  exact hok.1
theorem turn_itemsR {elts : List Expr} {kk : Nat} {tpos : Pos} {a : Addr} {o : Obj} {es : Array DictEntry} {ep : Nat} {ps : List (Addr × V)} (it : Addr) (hx : o.ExactDict) (hod : o.data = .dict es ep) (hp : Paired EntP es.toList ps) :
    Turn P w K (.Tuple elts kk tpos) (ItiR a o ps) [it] it (fun i h => ∃ ok ov, IsItemIter h it a i es.size ep ok ov) where
  mem := by simp
  obj := fun i h st b hb => by
    have e : b = it := by simpa using hb
    subst e
    obtain ⟨ok, ov, e⟩ := st
    exact ⟨_, e, fun v z => nomatch z⟩
  keep := fun i h h' st k => let ⟨ok, ov, e⟩ := st; ⟨ok, ov, k it (by simp) _ e⟩
  item := by
    intro X hP hw hK hc i pins s σ H E I hf st hg
    subst hP hw hK
    obtain ⟨hd, hi⟩ := hg
    have hgt := raw_at I hd
    obtain ⟨⟨b, v⟩, hkv⟩ : ∃ p, ps[i]? = some p := ⟨ps[i], List.getElem?_eq_getElem hi⟩
    obtain ⟨en, hen, hk1, hr⟩ := pget hp hkv
    have hl : es.size = ps.length := by rw [← Array.length_toList]; exact Paired.length hp
    obtain ⟨ok, ov, he⟩ := st
    have hlt : it < s.heap.objs.size := Heap.lt_size he
    have hie : i < es.size := by rw [hl]; exact hi
    have hee : es[i] = en := by
      have z : es.toList[i]? = some es[i] := by rw [Array.getElem?_toList]; exact Array.getElem?_eq_getElem hie
      rw [hen] at z
      exact (Option.some.inj z).symm
    refine wpAny_pyNext_items_item_raw he ⟨o, hgt, hx, hod⟩ hie fun h' ho hT hz hk => ?_
    rw [hee] at hT ho
    refine ⟨_, rfl, wpAny_letOwnedTupleGo_items (s := { s with heap := h' }) ho fun h'' he' sb => ?_⟩
    have hT2 : h''.get? s.heap.objs.size = some { cls := .type "tuple", data := .seq #[en.key, en.val] } := (sb.2 _ (Nat.ne_of_gt hlt)).trans hT
    have new : ObjOk X.prog X.w (upd H s.heap.objs.size (.tup [.ref b, v])) h'' s.heap.objs.size (.tup [.ref b, v]) :=
      ⟨by show 2 ≤ sizeLine; decide, [en.key, en.val], .cons hk1 (.cons hr .nil), ⟨_, hT2, rfl, _, rfl⟩⟩
    have I1 : L2.Inv X pins σ (upd H s.heap.objs.size (.tup [.ref b, v])) { s with heap := h'' } :=
      I.turnedNew (t' := s.toks) (ch := [it]) (fun c ob hb e => (sb.2 c (by simpa using hb)).trans (hk c ob (by simpa using hb) e)) hf (Nat.le_refl _) new
    refine ⟨.ref s.heap.objs.size, _, I1, rfl, ⟨_, b, v, hkv, rfl, I.hok.fresh (Nat.le_refl _), rfl⟩, ⟨en.key, en.val, he'⟩, fun c hb => ?_⟩
    have e : c = it := by simpa using hb
    rw [e, upd_ne (Nat.ne_of_lt hlt)]
    exact (hf it (by simp)).1
  done := by
    intro X hP hw hK hc i pins s σ H E I hf st hg
    subst hP hw hK
    obtain ⟨hd, hi⟩ := hg
    obtain ⟨f0, f1, f2, f3, f4, f5⟩ := hf it (by simp)
    have hgt := raw_at I hd
    have hl : es.size = ps.length := by rw [← Array.length_toList]; exact Paired.length hp
    obtain ⟨ok, ov, he⟩ := st
    exact wpAny_pyNext_items_end_raw (I.ok.hd hc) he ⟨o, hgt, hx, hod⟩ (by rw [hl]; exact hi) fun h' eb => ⟨rfl, I.turned (t' := s.toks) (fun b ob hb e => eb b ob hb e) f0 f1 f3 f4 f5⟩
  self := fun A i s Q E st h => let ⟨_, _, e⟩ := st; PySem.W.kcp_self e h
/-- its keys -/
def ItkR (a : Addr) (o : Obj) (ps : List (Addr × V)) : It :=
  ⟨fun i H => H a = some (RawO a o) ∧ i < ps.length, fun i H x H' => H' = H ∧ ∃ b v, ps[i]? = some (b, v) ∧ x = .ref b, fun i H => H a = some (RawO a o) ∧ ps.length ≤ i⟩
theorem turn_keysR {tg : Expr} {a : Addr} {o : Obj} {es : Array DictEntry} {ep : Nat} {ps : List (Addr × V)} (it : Addr) (hod : o.data = .dict es ep) (hp : Paired EntP es.toList ps) :
    Turn P w K tg (ItkR a o ps) [it] it (fun i h => h.IsKeyIter it a i es.size ep) where
  mem := by simp
  obj := fun i h st b hb => by
    have e : b = it := by simpa using hb
    subst e
    obtain ⟨oi, e, c, dd⟩ := st
    exact ⟨oi, e, fun v z => by rw [dd] at z; cases z⟩
  keep := fun i h h' st k => st.at fun oi e => k it (by simp) oi e
  item := by
    intro X hP hw hK hc i pins s σ H E I hf st hg
    subst hP hw hK
    obtain ⟨hd, hi⟩ := hg
    obtain ⟨f0, f1, f2, f3, f4, f5⟩ := hf it (by simp)
    have hgt := raw_at I hd
    obtain ⟨⟨b, v⟩, hkv⟩ : ∃ p, ps[i]? = some p := ⟨ps[i], List.getElem?_eq_getElem hi⟩
    obtain ⟨en, hen, hk1, hr⟩ := pget hp hkv
    refine next_key_item st hgt hod rfl (en := en) (by rw [← Array.getElem?_toList]; exact hen) fun h' st' sb => ?_
    have I1 : L2.Inv X pins σ H { s with heap := h' } := I.turned (t' := s.toks) (fun b ob hb e => (sb.2 b hb).trans e) f0 f1 f3 f4 f5
    obtain ⟨oi, e, c, dd⟩ := id st'
    exact ⟨en.key, rfl, go_of (s := { s with heap := h' }) e c dd (by decide) ⟨.ref b, H, I1, hk1, ⟨rfl, b, v, hkv, rfl⟩, st', fun b hb => (hf b hb).1⟩⟩
  done := by
    intro X hP hw hK hc i pins s σ H E I hf st hg
    subst hP hw hK
    obtain ⟨hd, hi⟩ := hg
    obtain ⟨f0, f1, f2, f3, f4, f5⟩ := hf it (by simp)
    have hgt := raw_at I hd
    have hl : es.size = ps.length := by rw [← Array.length_toList]; exact Paired.length hp
    exact next_key_end (I.ok.hd hc) st hgt hod rfl (by rw [hl]; exact hi) fun h' eb => ⟨rfl, I.turned (t' := s.toks) (fun b ob hb e => eb b ob hb e) f0 f1 f3 f4 f5⟩
  self := fun A i s Q E st h => wpAny_pyIter_keyiter st h
def iItemsR (td : TE) : TI := fun σ H R => td σ H fun x H1 => ∃ (a : Addr) (o : Obj) (es : Array DictEntry) (ep : Nat) (ps : List (Addr × V)), x = .ref a ∧ H1 a = some (RawO a o) ∧ o.ExactDict ∧ o.data = .dict es ep ∧ (a == sysModules) = false ∧ Paired EntP es.toList ps ∧ R (ItiR a o ps) H1
theorem pi_itemsR {X : Cx} {e : Expr} {td : TE} {apos cpos : Pos} {elts : List Expr} {kk : Nat} {tpos : Pos} (he : PE X e td) (hbase : attributeBase e "items" X.env (eval e X.env) = eval e X.env) (hline : (apos.endLine == cpos.line) = true) :
    PI X (.Tuple elts kk tpos) (.Call (.Attribute e "items" apos) [] [] cpos) (iItemsR td) := by
  refine ⟨fun pins s σ H R I h => ?_⟩
  refine wpAny_Call_method (T := "dict") (id := "dict.items") hbase rfl hline F.plainAttrs_dict F.slot_dict_items F.type_dict_items (thn (he.run pins s σ H _ I h) fun u s1 ⟨x, H1, I1, rx, a, o, es, ep, ps, ex, hd, hx, hod, hs, hp, q⟩ => ?_)
  subst ex
  obtain rfl : u = Value.ref a := rx
  have hgt := raw_at I1 hd
  refine ⟨⟨o, hgt, hx.1⟩, fun b eb => ?_, ?_⟩
  · cases eb
    exact ⟨o, hgt, hx.2.1⟩
  have raw : DT.Raw s1.heap a es ep := ⟨o, hgt, hx, hod⟩
  have I2 : L2.Inv X pins σ H1 { s1 with heap := s1.heap.push { cls := .type "dict_items", data := .fields #[.ref a] } } := I1.kept (t' := s1.toks) fun b ob q => Heap.get?_push_of_some _ q
  have fin : wpAny (model X.prog X.w) X.A (pyIter (.ref s1.heap.objs.size)) (PIE X pins σ (.Tuple elts kk tpos) R) X.xe { s1 with heap := s1.heap.push { cls := .type "dict_items", data := .fields #[.ref a] } } := by
    refine DT.iterI (d := a) (es := es) (ep := ep) ⟨_, Heap.get?_push_size _ rfl, rfl, rfl⟩ (raw.push _) (pi_one (tk := s1.toks) I2 _ (turn_itemsR _ hx hod hp) ⟨.none, .none, ?_⟩ q)
    exact Heap.get?_push_size _ rfl
  show wpAny _ _ (callWith cpos (.builtin "dict.items") [.ref a] [] []) _ X.xe s1
  exact method_meetsIn F.slot_dict_items F.entry_dict_items rfl (PySem.evalArgs_none ⟨rfl, raw.typeIs, F.args_dict_items_1 _, _, DT.meetsItems (es := es) (ep := ep) hs, ⟨raw, fin⟩⟩)
/-! ### a list or a tuple -/
def iSeq (K : PySem.W.Frag) (tl : TE) : TI := fun σ H R => tl σ H fun x H1 => ∃ a, x = .ref a ∧ (((∃ xs, SqL K H1 a xs) ∧ R (Itl K a) H1) ∨ ((∃ xs, SqT K H1 a xs) ∧ R (Itt K a) H1) ∨ ∃ (o : Obj) (es : Array DictEntry) (ep : Nat) (ps : List (Addr × V)), H1 a = some (RawO a o) ∧ o.ExactDict ∧ o.data = .dict es ep ∧ (a == sysModules) = false ∧ Paired EntP es.toList ps ∧ R (ItkR a o ps) H1)
theorem pi_seq {X : Cx} {tg l : Expr} {tl : TE} (hl : PE X l tl) : PI X tg l (iSeq X.K tl) := by
  refine ⟨fun pins s σ H R I h => ?_⟩
  refine thn (hl.run pins s σ H _ I h) fun v s1 ⟨x, H1, I1, r1, q1⟩ => ?_
  obtain ⟨a, e, q1⟩ := q1
  subst e
  cases r1
  rcases q1 with ⟨⟨xs, hq⟩, q⟩ | ⟨⟨xs, hq⟩, q⟩ | ⟨o, es, ep, ps, hd, hx, hod, hs, hp, q⟩
  · obtain ⟨its, rv, p, hz⟩ := I1.list hq
    refine wpAny_pyIter_list p.isList ?_
    refine ⟨s1.heap.objs.size, [s1.heap.objs.size], _, _, H1, rfl, I1.kept (t' := s1.toks) fun b o e => Heap.get?_push_of_some _ e, turn_list a _, ⟨_, Heap.get?_push_size _ rfl, rfl, rfl⟩, fun b hb => ?_, q⟩
    have e : b = s1.heap.objs.size := by simpa using hb
    subst e
    exact I1.fpOk (Nat.le_refl _) (I1.hok.fresh (Nat.le_refl _))
  · obtain ⟨its, rv, p, hz⟩ := I1.tuple hq
    refine wpAny_pyIter_tuple (show s1.heap.IsTuple a its.toArray from p) ?_
    refine ⟨s1.heap.objs.size, [s1.heap.objs.size], _, _, H1, rfl, I1.kept (t' := s1.toks) fun b o e => Heap.get?_push_of_some _ e, turn_tuple a _, ⟨_, Heap.get?_push_size _ rfl, rfl, rfl⟩, fun b hb => ?_, q⟩
    have e : b = s1.heap.objs.size := by simpa using hb
    subst e
    exact I1.fpOk (Nat.le_refl _) (I1.hok.fresh (Nat.le_refl _))
  · have hgt := raw_at I1 hd
    exact iter_keys hs hgt hx hod (pi_one (tk := s1.toks) I1 _ (turn_keysR _ hod hp) ⟨_, Heap.get?_push_size _ rfl, rfl, rfl⟩ q)
end
end Ev
-- EvS12
set_option Elab.async false
set_option linter.all false
set_option maxRecDepth 100000
set_option maxHeartbeats 4000000
/-! EvS12: loops and comprehensions. -/
namespace Ev
open PySem PySem.Spec PyProof.Rows L2

/-! ### locks -/
theorem setLock_len (S : Store) (k : Nat) (b : Bool) : (setLock S k b).length = S.length := by
  unfold setLock
  split <;> first | exact List.length_set | rfl
def relock (c : Cell) (b : Bool) : Cell := match c with
  | .lst _ xs => .lst b xs
  | .dT _ kvs => .dT b kvs
  | c => c
theorem setLock_at (S : Store) (k : Nat) (b : Bool) : (setLock S k b)[k]? = (S[k]?).map fun c => relock c b := by
  unfold setLock
  split
  · rename_i l xs e
    rw [List.getElem?_set_self (List.getElem?_eq_some_iff.mp e).1, e]
    rfl
  · rename_i l xs e
    rw [List.getElem?_set_self (List.getElem?_eq_some_iff.mp e).1, e]
    rfl
  · rename_i h1 h2
    cases e : S[k]? with
    | none => rfl
    | some c =>
      cases c with
      | lst l xs => exact absurd e (h1 l xs)
      | dT l xs => exact absurd e (h2 l xs)
      | ro xs => rfl
theorem setLock_ne (S : Store) {k j : Nat} (b : Bool) (h : j ≠ k) : (setLock S k b)[j]? = S[j]? := by
  unfold setLock
  split <;> first | exact List.getElem?_set_ne (Ne.symm h) | rfl
theorem setLock_get (S : Store) (k j : Nat) (b : Bool) {c : Cell} (e : (setLock S k b)[j]? = some c) : ∃ c0, S[j]? = some c0 ∧ (c = c0 ∨ c = relock c0 b) := by
  by_cases h : j = k
  · subst h
    rw [setLock_at] at e
    cases e1 : S[j]? with
    | none =>
      rw [e1] at e
      cases e
    | some c0 =>
      rw [e1] at e
      cases e
      exact ⟨c0, rfl, .inr rfl⟩
  · rw [setLock_ne S b h] at e
    exact ⟨c, e, .inl rfl⟩
theorem relock_ro {c : Cell} {b : Bool} : (relock c b).isRo = c.isRo := by cases c <;> rfl
theorem relock_rel {g : Gx} {H : Hp} {m : Nat → Addr} {n : Nat} {a : Addr} {c : Cell} {b : Bool} : CellRel g H m n a (relock c b) ↔ CellRel g H m n a c := by cases c <;> exact Iff.rfl
theorem StRel.lock {g : Gx} {S : Store} {m : Nat → Addr} {H : Hp} (st : StRel g S m H) (k : Nat) (b : Bool) : StRel g (setLock S k b) m H := by
  have ll := setLock_len S k b
  refine ⟨fun i j i0 j0 hi hj e => st.inj i j i0 j0 (by rw [← ll]; exact hi) (by rw [← ll]; exact hj) e, ?_, fun j xs e => ?_, fun j c e => ?_, st.tabs⟩
  · obtain ⟨xs, e⟩ := st.zero
    by_cases h : 0 = k
    · subst h
      exact ⟨xs, by rw [setLock_at, e]; rfl⟩
    · exact ⟨xs, by rw [setLock_ne S b h]; exact e⟩
  · obtain ⟨c0, e1, h | h⟩ := setLock_get S k j b e
    · subst h
      exact st.own j xs e1
    · cases c0 with
      | ro ys => exact st.own j ys e1
      | lst l ys => cases h
      | dT l ys => cases h
  · rw [ll]
    obtain ⟨c0, e1, h | h⟩ := setLock_get S k j b e
    · subst h
      exact st.cell j _ e1
    · subst h
      exact relock_rel.mpr (st.cell j c0 e1)
theorem lockAt_ne (S : Store) {k j : Nat} (b : Bool) (h : j ≠ k) : lockAt (setLock S k b) j = lockAt S j := by
  unfold lockAt
  rw [setLock_ne S b h]
theorem lockAt_self {S : Store} {k : Nat} {b : Bool} {c : Cell} (e : S[k]? = some c) (hc : c.isRo = false) : lockAt (setLock S k b) k = b := by
  unfold lockAt
  rw [setLock_at, e]
  cases c with
  | ro xs => cases hc
  | lst l xs => rfl
  | dT l xs => rfl
theorem lock_cell {S : Store} {k : Nat} (h : lockAt S k = false) : ∃ c, S[k]? = some c ∧ c.isRo = false := by
  unfold lockAt at h
  split at h
  · rename_i e
    exact ⟨_, e, rfl⟩
  · rename_i e
    exact ⟨_, e, rfl⟩
  · cases h
theorem Ext.unlock {g : Gx} {S S' : Store} {m m' : Nat → Addr} {H H' : Hp} {k : Nat} (st : StRel g S m H) (st' : StRel g S' m' H') (hk : lockAt S k = false) (x : Ext g (setLock S k true) m H S' m' H') : Ext g S m H (setLock S' k false) m' H' := by
  have ll := setLock_len S k true
  have ll' := setLock_len S' k false
  obtain ⟨c, ec, hc⟩ := lock_cell hk
  have hkl : k < S.length := (List.getElem?_eq_some_iff.mp ec).1
  have k0 : 0 < k := by
    rcases Nat.eq_zero_or_pos k with z | z
    · obtain ⟨zs, hz⟩ := st.zero
      rw [z, hz] at ec
      cases ec
      cases hc
    · exact z
  refine ⟨by rw [ll', ← ll]; exact x.le, fun j hj => x.ag j (by rw [ll]; exact hj), fun j hj => ?_, fun b o e nt hl => x.keep b o e nt fun j hj e2 => ?_, x.tup, x.frz, x.dom, fun j h1 h2 => x.new j (by rw [ll]; exact h1) (by rw [← ll']; exact h2)⟩
  · by_cases h : j = k
    · subst h
      have hkl' : j < S'.length := Nat.lt_of_lt_of_le (by rw [ll]; exact hkl) x.le
      have e' := List.getElem?_eq_getElem hkl'
      rw [hk, lockAt_self e' (st'.notRo k0 e')]
    · rw [lockAt_ne S' false h, x.lk j (by rw [ll]; exact hj), lockAt_ne S true h]
  · rw [ll] at hj
    by_cases h : j = k
    · subst h
      exact lockAt_self ec hc
    · rw [lockAt_ne S true h]
      exact hl j hj e2
/-- what may be locked -/
def LockF (S : Store) (o : Option Nat) : Prop := ∀ k, o = some k → lockAt S k = false
theorem StRel.lockO {g : Gx} {S : Store} {m : Nat → Addr} {H : Hp} (st : StRel g S m H) (o : Option Nat) (b : Bool) : StRel g (lockO S o b) m H := by
  cases o with
  | none => exact st
  | some k => exact st.lock k b
theorem lockO_len (S : Store) (o : Option Nat) (b : Bool) : (lockO S o b).length = S.length := by
  cases o with
  | none => rfl
  | some k => exact setLock_len S k b
theorem Ext.unlockO {g : Gx} {S S' : Store} {m m' : Nat → Addr} {H H' : Hp} {o : Option Nat} (st : StRel g S m H) (st' : StRel g S' m' H') (hk : LockF S o) (x : Ext g (lockO S o true) m H S' m' H') : Ext g S m H (lockO S' o false) m' H' := by
  cases o with
  | none => exact x
  | some k => exact Ext.unlock st st' (hk k rfl) x

/-! ### walks -/
structure WalkOk (g : Gx) (weak : Bool) (J : It) (xs : List D) (S0 : Store) (m0 : Nat → Addr) (H0 : Hp) : Prop where
  go : ∀ S m H i, Ext g S0 m0 H0 S m H → StRel g S m H → i < xs.length → J.go i H
  stop : ∀ S m H, Ext g S0 m0 H0 S m H → StRel g S m H → J.stop xs.length H
  yld : ∀ S m H i d x H', Ext g S0 m0 H0 S m H → StRel g S m H → xs[i]? = some d → J.yld i H x H' → Ext g S m H S m H' ∧ StRel g S m H' ∧ EncG weak g H' m S.length d x
def RdI (g : Gx) (W : WX) (weak : Bool) (I : Env → Store → R (List D × Option Nat)) : TI := fun σ H R => ∃ S m ρ, StRel g S m H ∧ EnvRel g H m S.length ρ σ ∧
  Post g W S m H σ (fun w S1 m1 H1 => LockF S1 w.2 → ∀ J, WalkOk g weak J w.1 (lockO S1 w.2 true) m1 H1 → R J H1) (I ρ S)
section
variable {X : Cx} {u : Tb} {W : WX}
theorem lock0 {g : Gx} {S : Store} {m : Nat → Addr} {H : Hp} (st : StRel g S m H) : lockAt S 0 = true := by
  obtain ⟨zs, hz⟩ := st.zero
  unfold lockAt
  rw [hz]
/-- the object of a locked place is kept -/
theorem keep_lock {g : Gx} {S S' : Store} {m m' : Nat → Addr} {H H' : Hp} {k : Nat} {o : HO} (x : Ext g S m H S' m' H') (st : StRel g S m H) (k0 : 0 < k) (hk : k < S.length) (hl : lockAt S k = true) (ho : H (m k) = some o) (nt : ∀ ps, o ≠ .tbl ps) : H' (m k) = some o :=
  x.keep _ o ho nt fun j hj e => by
    by_cases j0 : 0 < j
    · rw [st.inj j k j0 k0 hj hk e]
      exact hl
    · have : j = 0 := by omega
      rw [this]
      exact lock0 st
/-- the lock of a place that is walked -/
def lockFor (S : Store) (k : Nat) : Option Nat := if lockAt S k then none else some k
theorem lockFor_F (S : Store) (k : Nat) : LockF S (lockFor S k) := fun j e => by
  unfold lockFor at e
  split at e
  · cases e
  · rename_i h
    cases e
    simpa using h
theorem lockFor_on {S : Store} {k : Nat} {c : Cell} (e : S[k]? = some c) (hc : c.isRo = false) : lockAt (lockO S (lockFor S k) true) k = true := by
  unfold lockFor
  split
  · rename_i h
    exact h
  · exact lockAt_self e hc
theorem encAll_lock {g : Gx} {S S' : Store} {m m' : Nat → Addr} {H H' : Hp} {o : Option Nat} (x : Ext g (lockO S o true) m H S' m' H') {ds : List D} {vs : List V} (h : EncAll g H m S.length ds vs) : EncAll g H' m' S'.length ds vs :=
  x.encAll (by rw [lockO_len]; exact h)
theorem itQ_list {g : Gx} {S : Store} {m : Nat → Addr} {H : Hp} {t : T} {v : V} {xs : List D} {o : Option Nat} (st : StRel g S m H) (en : EncT g H m S.length t v) (e : itQ0 t S = some (xs, o)) :
    LockF S o ∧ ∃ a, v = .ref a ∧ ((∀ S' m' H', Ext g (lockO S o true) m H S' m' H' → StRel g S' m' H' → ∃ vs, SqL g.K H' a vs ∧ EncAll g H' m' S'.length xs vs) ∨ (∀ S' m' H', Ext g (lockO S o true) m H S' m' H' → StRel g S' m' H' → ∃ vs, SqT g.K H' a vs ∧ EncAll g H' m' S'.length xs vs)) := by
  cases t with
  | l ys =>
    cases e
    obtain ⟨p, vs, rfl, h1, h2, h3⟩ := en
    exact ⟨(fun k e => by cases e), p, rfl, .inl fun S' m' H' x s => ⟨vs, SqL.of (keep_free x st h1 (fun ps z => by cases z) h3), x.encAll h2⟩⟩
  | t kvs => cases e
  | v d =>
    cases d with
    | tup ys =>
      cases e
      obtain ⟨a, vs, rfl, h1, h2⟩ := en
      exact ⟨(fun k e => by cases e), a, rfl, .inr fun S' m' H' x s => ⟨vs, (x.tk a vs h1).sq, x.encAll h2⟩⟩
    | ref k =>
      obtain ⟨h1, h2⟩ := (show k < S.length ∧ v = V.ref (m k) from en)
      subst h2
      have e' : (match asL (.v (.ref k)) S with | some xs => some (xs, lockFor S k) | none => none) = some (xs, o) := e
      split at e'
      · rename_i ys q1
        cases e'
        refine ⟨lockFor_F S k, m k, rfl, .inl fun S' m' H' x s => ?_⟩
        have e1 := List.getElem?_eq_getElem h1
        have cr := st.cell k _ e1
        have q2 : (match S[k]? with | some (.lst _ xs) => some xs | some (.ro xs) => some xs | _ => none) = some xs := q1
        have own := st.own k
        have on := @lockFor_on S k
        rw [e1] at q2
        revert e1 cr q2 own on
        generalize S[k]'h1 = c
        intro e1 cr q2 own on
        cases c with
        | lst b zs =>
          cases q2
          obtain ⟨vs, c1, c2⟩ := cr
          have k0 : 0 < k := by
            rcases Nat.eq_zero_or_pos k with z | z
            · obtain ⟨ws, hz⟩ := st.zero
              rw [z, hz] at e1
              cases e1
            · exact z
          exact ⟨vs, SqL.of (keep_lock x (st.lockO _ _) k0 (by rw [lockO_len]; exact h1) (on e1 rfl) c1 (fun ps z => by cases z)), encAll_lock x c2⟩
        | ro zs =>
          cases q2
          obtain ⟨vs, c1, c2⟩ := cr
          refine ⟨vs, ?_, encAll_lock x c2⟩
          rcases c1 with ⟨ob, c1⟩ | c1
          · exact .inl (.inr ⟨ob, x.frz _ ob _ c1⟩)
          · rcases c1 with (c1 | ⟨ob, c1⟩) | c1
            · cases c1
            · cases c1
            · exact .inr c1
        | dT b zs => cases q2
      · cases e'
    | _ => cases e
theorem ents_vals {g : Gx} {H : Hp} {m : Nat → Addr} {n : Nat} : ∀ {es : List DictEntry} {kvs : List (D × D)}, Paired (EntOk g H m n) es kvs → ∃ ps : List (Addr × V), Paired EntP es ps ∧ Paired (fun (p : Addr × V) (kv : D × D) => Enc g H m n kv.1 (.ref p.1) ∧ Enc g H m n kv.2 p.2) ps kvs
  | _, _, .nil => ⟨[], .nil, .nil⟩
  | _, _, .cons h t => by
    obtain ⟨b, w, v, h1, h2, h3, h4, h5⟩ := h
    obtain ⟨ps, q1, q2⟩ := ents_vals t
    exact ⟨(b, v) :: ps, .cons ⟨by rw [h1], by rw [h1]; exact h4⟩ q1, .cons ⟨h3, h5⟩ q2⟩
/-- a dict whose keys or items are walked -/
theorem dict_walk {g : Gx} {S1 : Store} {m1 : Nat → Addr} {H1 : Hp} {k : Nat} {v : V} {kvs : List (D × D)} (st1 : StRel g S1 m1 H1) (ev : EncT g H1 m1 S1.length (.v (.ref k)) v) (e2 : asT (.v (.ref k)) S1 = some kvs) :
    v = .ref (m1 k) ∧ ∃ (o : Obj) (es : Array DictEntry) (ep : Nat) (ps : List (Addr × V)), H1 (m1 k) = some (RawO (m1 k) o) ∧ o.ExactDict ∧ o.data = .dict es ep ∧ (m1 k == sysModules) = false ∧ Paired EntP es.toList ps ∧
      Paired (fun (p : Addr × V) (kv : D × D) => Enc g H1 m1 S1.length kv.1 (.ref p.1) ∧ Enc g H1 m1 S1.length kv.2 p.2) ps kvs ∧ ∀ {S m H}, Ext g (lockO S1 (lockFor S1 k) true) m1 H1 S m H → H (m1 k) = some (RawO (m1 k) o) := by
  obtain ⟨hk1, hk2⟩ := (show k < S1.length ∧ v = V.ref (m1 k) from ev)
  subst hk2
  have ec := List.getElem?_eq_getElem hk1
  have cr := st1.cell k _ ec
  have e3 : (match S1[k]? with | some (.dT _ xs) => some xs | _ => none) = some kvs := e2
  have on := @lockFor_on S1 k
  rw [ec] at e3
  revert ec cr e3 on
  generalize S1[k]'hk1 = c
  intro ec cr e3 on
  cases c with
  | lst b zs => cases e3
  | ro zs => cases e3
  | dT b zs =>
    cases e3
    have k0 : 0 < k := by
      rcases Nat.eq_zero_or_pos k with z | z
      · obtain ⟨ws, hz⟩ := st1.zero
        rw [z, hz] at ec
        cases ec
      · exact z
    obtain ⟨o, es, ep, h1, h2, h3, h4, h5, h6, h7⟩ := cr
    obtain ⟨ps, g1, g2⟩ := ents_vals h6
    exact ⟨rfl, o, es, ep, ps, h1, h2, h3, h4, g1, g2, fun {S m H} x => keep_lock x (st1.lockO _ _) k0 (by rw [lockO_len]; exact hk1) (on ec rfl) h1 (fun ps z => by unfold RawO at z; cases z)⟩
theorem pi_E {tg e : Expr} {E : Env → Store → R T} (h : PE X e (RdE (gof u X) W E)) : PI X tg e (RdI (gof u X) W false (mk E).I) := by
  refine PI.imp (pi_seq h) ?_
  rintro σ H R ⟨S, m, ρ, st, en, p⟩
  refine sub st en ((Post.bind p).mono fun t S1 m1 H1 x1 st1 p1 v fv ev => ?_)
  obtain ⟨⟨xs, o⟩, e1, q⟩ := p1.opt
  cases e0 : itQ0 t S1 with
  | none =>
    unfold itQ at e1
    rw [e0] at e1
    have e1' : keysQ t S1 = some (xs, o) := e1
    unfold keysQ at e1'
    split at e1'
    · rename_i k
      cases e2 : asT (.v (.ref k)) S1 with
      | none =>
        rw [e2] at e1'
        cases e1'
      | some kvs =>
        rw [e2] at e1'
        cases e1'
        obtain ⟨rfl, o, es, ep, ps, h1, h2, h3, h4, g1, g2, kept⟩ := dict_walk st1 ev e2
        have q2 := q m1 H1 Ext.refl st1 (lockFor_F S1 k)
        have hl : ps.length = kvs.length := Paired.length g2
        have hl2 : (kvs.map (·.1)).length = kvs.length := List.length_map _
        refine ⟨m1 k, rfl, .inr (.inr ⟨o, es, ep, ps, h1, h2, h3, h4, g1, q2 _ ⟨fun S m H i x s hi => ⟨kept x, ?_⟩, fun S m H x s => ⟨kept x, ?_⟩, fun S m H i d y H' x s hd hy => ?_⟩⟩)⟩
        · rw [hl, ← hl2]
          exact hi
        · rw [hl, ← hl2]
          exact Nat.le_refl _
        · obtain ⟨rfl, b, w, hb, rfl⟩ := hy
          have hd' : (kvs.map fun p => p.1)[i]? = some d := hd
          rw [List.getElem?_map] at hd'
          cases e5 : kvs[i]? with
          | none =>
            rw [e5] at hd'
            cases hd'
          | some kv =>
            rw [e5] at hd'
            cases hd'
            obtain ⟨p, f1, f2, f3⟩ := pget g2 e5
            rw [hb] at f1
            cases f1
            exact ⟨Ext.refl, s, x.enc (by rw [lockO_len]; exact f2)⟩
    · cases e1'
  | some w0 =>
  have e1 : itQ0 t S1 = some (xs, o) := by
    unfold itQ at e1
    rw [e0] at e1
    rw [e0]
    exact e1
  obtain ⟨lf, a, rfl, hw⟩ := itQ_list st1 ev e1
  have q2 := q m1 H1 Ext.refl st1 lf
  refine ⟨a, rfl, ?_⟩
  have st1' := st1.lockO o true
  rcases hw with hw | hw
  · refine .inl ⟨?_, q2 _ ⟨fun S m H i x s hi => ?_, fun S m H x s => ?_, fun S m H i d y H' x s hd hy => ?_⟩⟩
    · obtain ⟨vs, h1, _⟩ := hw _ _ _ Ext.refl st1'
      exact ⟨vs, h1⟩
    · obtain ⟨vs, h1, h2⟩ := hw S m H x s
      have hi' : i < vs.length := by rw [h2.length]; exact hi
      exact ⟨vs, vs[i], h1, List.getElem?_eq_getElem hi'⟩
    · obtain ⟨vs, h1, h2⟩ := hw S m H x s
      exact ⟨vs, h1, Nat.le_of_eq h2.length⟩
    · obtain ⟨vs, h1, h2⟩ := hw S m H x s
      obtain ⟨z1, z2⟩ := hy
      subst z1
      obtain ⟨w, g1, g2⟩ := h2.get hd
      rw [z2 vs h1] at g1
      cases g1
      exact ⟨Ext.refl, s, g2⟩
  · refine .inr (.inl ⟨?_, q2 _ ⟨fun S m H i x s hi => ?_, fun S m H x s => ?_, fun S m H i d y H' x s hd hy => ?_⟩⟩)
    · obtain ⟨vs, h1, _⟩ := hw _ _ _ Ext.refl st1'
      exact ⟨vs, h1⟩
    · obtain ⟨vs, h1, h2⟩ := hw S m H x s
      have hi' : i < vs.length := by rw [h2.length]; exact hi
      exact ⟨vs, vs[i], h1, List.getElem?_eq_getElem hi'⟩
    · obtain ⟨vs, h1, h2⟩ := hw S m H x s
      exact ⟨vs, h1, Nat.le_of_eq h2.length⟩
    · obtain ⟨vs, h1, h2⟩ := hw S m H x s
      obtain ⟨z1, z2⟩ := hy
      subst z1
      obtain ⟨w, g1, g2⟩ := h2.get hd
      rw [z2 vs h1] at g1
      cases g1
      exact ⟨Ext.refl, s, g2⟩
/-! ### range -/
theorem intsFrom_len : ∀ (n : Nat) (lo : Int), (intsFrom lo n).length = n
  | 0, _ => rfl
  | n + 1, lo => by
    show (intsFrom (lo + 1) n).length + 1 = n + 1
    rw [intsFrom_len n]
theorem intsFrom_get : ∀ (n : Nat) (lo : Int) (i : Nat) (d : D), (intsFrom lo n)[i]? = some d → d = .int (lo + i)
  | 0, _, _, _, h => by simp [intsFrom] at h
  | n + 1, lo, 0, d, h => by
    have : D.int lo = d := by simpa [intsFrom] using h
    rw [← this]
    simp
  | n + 1, lo, i + 1, d, h => by
    have h' : (intsFrom (lo + 1) n)[i]? = some d := by simpa [intsFrom] using h
    rw [intsFrom_get n (lo + 1) i d h']
    congr 1
    omega
theorem walk_range {g : Gx} {lo : Int} {n : Nat} {S0 : Store} {m0 : Nat → Addr} {H0 : Hp} {b : Bool} : WalkOk g b (Itr lo n) (intsFrom lo n) S0 m0 H0 where
  go := fun S m H i x s hi => by
    rw [intsFrom_len] at hi
    exact hi
  stop := fun S m H x s => by
    rw [intsFrom_len]
    exact Nat.le_refl n
  yld := fun S m H i d y H' x s hd hy => by
    obtain ⟨z1, z2⟩ := hy
    subst z1 z2
    rw [intsFrom_get n lo i d hd]
    have e : Enc g H' m S.length (.int (lo + i)) (.int (lo + i)) := rfl
    refine ⟨Ext.refl, s, ?_⟩
    unfold EncG
    split
    · exact .inl e
    · exact e
def itE (b : Bi) (M : Env → Store → R (List T)) : Env → Store → R (List D × Option Nat) := fun ρ S => (M ρ S).bind fun ts S1 => opt (itF b ts S1) S1
theorem pi_r1 {tg a : Expr} {M : Env → Store → R (List T)} {p pos : Pos} (hg : Gl X "range") (hm : X.mg "range" = none) (hn : noStar a = true) (ha : PA X [a] (RdTs (gof u X) W M)) : PI X tg (.Call (.Name "range" p) [a] [] pos) (RdI (gof u X) W false (itE .range M)) := by
  refine PI.imp (pi_range1 hg hm ha (star_ok hn)) ?_
  rintro σ H R ⟨S, m, ρ, st, en, p⟩
  refine ⟨S, m, ρ, st, en, (Post.bind p).mono fun ts S1 m1 H1 x1 st1 p1 vs hvs => ?_⟩
  obtain ⟨w, e1, q⟩ := p1.opt
  have q2 := q m1 H1 Ext.refl st1
  unfold itF at e1
  split at e1 <;> try contradiction
  rename_i j _
  split at e1
  · rename_i hb
    cases e1
    obtain ⟨v, rfl, ev⟩ := encTs1 hvs
    have ev' : v = .int j := ev
    subst ev'
    exact ⟨j, rfl, hb.1, hb.2, q2 (fun k e => by cases e) _ walk_range⟩
  · cases e1
theorem pi_r2 {tg a b : Expr} {M : Env → Store → R (List T)} {p pos : Pos} (hg : Gl X "range") (hm : X.mg "range" = none) (hn : noStar a = true) (hn2 : noStar b = true) (ha : PA X [a, b] (RdTs (gof u X) W M)) : PI X tg (.Call (.Name "range" p) [a, b] [] pos) (RdI (gof u X) W false (itE .range2 M)) := by
  refine PI.imp (pi_range2 hg hm ha (by rw [star_ok hn, star_ok hn2]; rfl) (star_ok hn2)) ?_
  rintro σ H R ⟨S, m, ρ, st, en, p⟩
  refine ⟨S, m, ρ, st, en, (Post.bind p).mono fun ts S1 m1 H1 x1 st1 p1 vs hvs => ?_⟩
  obtain ⟨w, e1, q⟩ := p1.opt
  have q2 := q m1 H1 Ext.refl st1
  unfold itF at e1
  split at e1 <;> try contradiction
  rename_i i j _
  split at e1
  · rename_i hb
    cases e1
    obtain ⟨v, v', rfl, ev, ev2⟩ := encTs2 hvs
    have z1 : v = .int i := ev
    have z2 : v' = .int j := ev2
    subst z1 z2
    exact ⟨i, j, rfl, hb, q2 (fun k e => by cases e) _ walk_range⟩
  · cases e1
/-! ### zip, enumerate, items -/
theorem weak_pair {g : Gx} {S : Store} {m : Nat → Addr} {H : Hp} {p : Addr} {d1 d2 : D} {v1 v2 : V} (st : StRel g S m H) (hp : H p = none) (h1 : Enc g H m S.length d1 v1) (h2 : Enc g H m S.length d2 v2) :
    Ext g S m H S m (upd H p (.tup [v1, v2])) ∧ StRel g S m (upd H p (.tup [v1, v2])) ∧ EncG true g (upd H p (.tup [v1, v2])) m S.length (.tup [d1, d2]) (.ref p) := by
  obtain ⟨x, s⟩ := alloc_ok (o := .tup [v1, v2]) st hp
  exact ⟨x, s, .inr ⟨_, p, [v1, v2], rfl, rfl, SqT.of upd_same, EncAll.cons (x.enc h1) (EncAll.cons (x.enc h2) EncAll.nil)⟩⟩
theorem zipD_get : ∀ {xs ys : List D} {i : Nat} {d : D}, (zipD xs ys)[i]? = some d → ∃ x y, d = .tup [x, y] ∧ xs[i]? = some x ∧ ys[i]? = some y
  | [], _, _, _, h => by simp [zipD] at h
  | _ :: _, [], _, _, h => by simp [zipD] at h
  | x :: xs, y :: ys, 0, d, h => by
    have : D.tup [x, y] = d := by simpa [zipD] using h
    exact ⟨x, y, this.symm, rfl, rfl⟩
  | x :: xs, y :: ys, i + 1, d, h => zipD_get (xs := xs) (ys := ys) (i := i) (by simpa [zipD] using h)
theorem zipD_len : ∀ (xs ys : List D), (zipD xs ys).length = min xs.length ys.length
  | [], _ => by simp [zipD]
  | _ :: _, [] => by simp [zipD]
  | x :: xs, y :: ys => by
    show (zipD xs ys).length + 1 = _
    rw [zipD_len xs ys, List.length_cons, List.length_cons]
    omega
theorem pi_zp {a b : Expr} {M : Env → Store → R (List T)} {p pos tpos : Pos} {elts : List Expr} {kk : Nat} (hg : Gl X "zip") (hm : X.mg "zip" = none) (hn : noStar a = true) (hn2 : noStar b = true) (ha : PA X [a, b] (RdTs (gof u X) W M)) :
    PI X (.Tuple elts kk tpos) (.Call (.Name "zip" p) [a, b] [] pos) (RdI (gof u X) W true (itE .zip M)) := by
  refine PI.imp (RZ.pi_zipA hg hm ha (star_ok hn) (nostar_any (by simp [hn2]))) ?_
  rintro σ H R ⟨S, m, ρ, st, en, p⟩
  refine ⟨S, m, ρ, st, en, (Post.bind p).mono fun ts S1 m1 H1 x1 st1 p1 vs hvs => ?_⟩
  obtain ⟨w, e1, q⟩ := p1.opt
  have q2 := q m1 H1 Ext.refl st1
  unfold itF at e1
  split at e1 <;> try contradiction
  rename_i xs ys _
  cases e1
  obtain ⟨v, v', rfl, ev, ev2⟩ := encTs2 hvs
  obtain ⟨a1, vs1, rfl, t1, c1⟩ := ev
  obtain ⟨a2, vs2, rfl, t2, c2⟩ := ev2
  refine ⟨a1, a2, vs1, vs2, rfl, .inr ⟨t1.sq, t2.sq, q2 (fun k e => by cases e) _ ⟨fun S m H i x s hi => ?_, fun S m H x s => ?_, fun S m H i d y H' x s hd hy => ?_⟩⟩⟩
  · rw [zipD_len] at hi
    have i1 : i < vs1.length := by rw [c1.length]; omega
    have i2 : i < vs2.length := by rw [c2.length]; omega
    exact ⟨vs1, vs2, _, _, (x.tk _ _ t1).sq, (x.tk _ _ t2).sq, List.getElem?_eq_getElem i1, List.getElem?_eq_getElem i2⟩
  · refine ⟨vs1, vs2, (x.tk _ _ t1).sq, (x.tk _ _ t2).sq, ?_⟩
    rw [zipD_len, c1.length, c2.length]
    omega
  · obtain ⟨d1, d2, rfl, g1, g2⟩ := zipD_get hd
    obtain ⟨T0, w1, w2, rfl, hT, rfl, k1, k2⟩ := hy
    obtain ⟨v1, f1, f2⟩ := c1.get g1
    obtain ⟨v2, f3, f4⟩ := c2.get g2
    have z1 := k1 vs1 (x.tk _ _ t1).sq
    have z2 := k2 vs2 (x.tk _ _ t2).sq
    rw [f1] at z1
    rw [f3] at z2
    cases z1
    cases z2
    exact weak_pair s hT (x.enc f2) (x.enc f4)
theorem enumD_get : ∀ {xs : List D} {k : Int} {i : Nat} {d : D}, (enumD k xs)[i]? = some d → ∃ x, d = .tup [.int (k + i), x] ∧ xs[i]? = some x
  | [], _, _, _, h => by simp [enumD] at h
  | x :: xs, k, 0, d, h => by
    have : D.tup [.int k, x] = d := by simpa [enumD] using h
    exact ⟨x, by rw [← this]; simp, rfl⟩
  | x :: xs, k, i + 1, d, h => by
    obtain ⟨y, e1, e2⟩ := enumD_get (xs := xs) (k := k + 1) (i := i) (by simpa [enumD] using h)
    refine ⟨y, ?_, by simpa using e2⟩
    rw [e1]
    have : k + 1 + (i : Int) = k + ((i + 1 : Nat) : Int) := by omega
    rw [this]
theorem enumD_len : ∀ (xs : List D) (k : Int), (enumD k xs).length = xs.length
  | [], _ => rfl
  | x :: xs, k => by
    show (enumD (k + 1) xs).length + 1 = xs.length + 1
    rw [enumD_len xs]
theorem pi_en {a : Expr} {M : Env → Store → R (List T)} {p pos tpos : Pos} {elts : List Expr} {kk : Nat} (hg : Gl X "enumerate") (hm : X.mg "enumerate" = none) (hn : noStar a = true) (ha : PA X [a] (RdTs (gof u X) W M)) :
    PI X (.Tuple elts kk tpos) (.Call (.Name "enumerate" p) [a] [] pos) (RdI (gof u X) W true (itE .enum M)) := by
  refine PI.imp (pi_enumT hg hm ha (star_ok hn)) ?_
  rintro σ H R ⟨S, m, ρ, st, en, p⟩
  refine ⟨S, m, ρ, st, en, (Post.bind p).mono fun ts S1 m1 H1 x1 st1 p1 vs hvs => ?_⟩
  obtain ⟨w, e1, q⟩ := p1.opt
  have q2 := q m1 H1 Ext.refl st1
  unfold itF at e1
  split at e1 <;> try contradiction
  rename_i xs _
  cases e1
  obtain ⟨v, rfl, ev⟩ := encTs1 hvs
  obtain ⟨a1, vs1, rfl, t1, c1⟩ := ev
  refine ⟨a1, vs1, rfl, t1.sq, q2 (fun k e => by cases e) _ ⟨fun S m H i x s hi => ?_, fun S m H x s => ?_, fun S m H i d y H' x s hd hy => ?_⟩⟩
  · rw [enumD_len] at hi
    have i1 : i < vs1.length := by rw [c1.length]; omega
    exact ⟨vs1, _, (x.tk _ _ t1).sq, List.getElem?_eq_getElem i1⟩
  · refine ⟨vs1, (x.tk _ _ t1).sq, ?_⟩
    rw [enumD_len, c1.length]
  · obtain ⟨d1, rfl, g1⟩ := enumD_get hd
    obtain ⟨T0, w1, rfl, hT, rfl, k1⟩ := hy
    obtain ⟨v1, f1, f2⟩ := c1.get g1
    have z1 := k1 vs1 (x.tk _ _ t1).sq
    rw [f1] at z1
    cases z1
    exact weak_pair s hT (show Enc _ _ _ _ _ _ by
      have : (0 : Int) + (i : Int) = ((i : Nat) : Int) := by omega
      rw [this]
      exact rfl) (x.enc f2)
theorem pi_it {e : Expr} {E : Env → Store → R T} {apos cpos : Pos} {elts : List Expr} {kk : Nat} {tpos : Pos} (he : PE X e (RdE (gof u X) W E)) (hbase : attributeBase e "items" X.env (eval e X.env) = eval e X.env) (hline : (apos.endLine == cpos.line) = true) :
    PI X (.Tuple elts kk tpos) (.Call (.Attribute e "items" apos) [] [] cpos) (RdI (gof u X) W true fun ρ S => (E ρ S).bind fun t S1 => (match t with
      | .v (.ref k) => opt ((asT (.v (.ref k)) S1).map fun kvs => (itemD kvs, lockFor S1 k)) S1
      | _ => .bad)) := by
  refine PI.imp (pi_itemsR he hbase hline) ?_
  rintro σ H R ⟨S, m, ρ, st, en, p⟩
  refine sub st en ((Post.bind p).mono fun t S1 m1 H1 x1 st1 p1 v fv ev => ?_)
  split at p1
  · rename_i k
    obtain ⟨w, e1, q⟩ := p1.opt
    have q2 := q m1 H1 Ext.refl st1
    cases e2 : asT (.v (.ref k)) S1 with
    | none =>
      rw [e2] at e1
      cases e1
    | some kvs =>
      rw [e2] at e1
      cases e1
      obtain ⟨hk1, hk2⟩ := (show k < S1.length ∧ v = V.ref (m1 k) from ev)
      subst hk2
      have ec := List.getElem?_eq_getElem hk1
      have cr := st1.cell k _ ec
      have e3 : (match S1[k]? with | some (.dT _ xs) => some xs | _ => none) = some kvs := e2
      have on := @lockFor_on S1 k
      rw [ec] at e3
      revert ec cr e3 on
      generalize S1[k]'hk1 = c
      intro ec cr e3 on
      cases c with
      | lst b zs => cases e3
      | ro zs => cases e3
      | dT b zs =>
        cases e3
        have k0 : 0 < k := by
          rcases Nat.eq_zero_or_pos k with z | z
          · obtain ⟨ws, hz⟩ := st1.zero
            rw [z, hz] at ec
            cases ec
          · exact z
        obtain ⟨o, es, ep, h1, h2, h3, h4, h5, h6, h7⟩ := cr
        obtain ⟨ps, g1, g2⟩ := ents_vals h6
        have hl : ps.length = kvs.length := Paired.length g2
        have kept : ∀ {S m H}, Ext (gof u X) (lockO S1 (lockFor S1 k) true) m1 H1 S m H → H (m1 k) = some (RawO (m1 k) o) := fun {S m H} x =>
          keep_lock x (st1.lockO _ _) k0 (by rw [lockO_len]; exact hk1) (on ec rfl) h1 (fun ps z => by unfold RawO at z; cases z)
        refine ⟨m1 k, o, es, ep, ps, rfl, h1, h2, h3, h4, g1, q2 (lockFor_F S1 k) _ ⟨fun S m H i x s hi => ?_, fun S m H x s => ?_, fun S m H i d y H' x s hd hy => ?_⟩⟩
        · refine ⟨kept x, ?_⟩
          have : (itemD kvs).length = kvs.length := List.length_map _
          rw [hl, ← this]
          exact hi
        · refine ⟨kept x, ?_⟩
          have : (itemD kvs).length = kvs.length := List.length_map _
          rw [hl, ← this]
          exact Nat.le_refl _
        · obtain ⟨T0, b, w, hb, rfl, hT, rfl⟩ := hy
          have hd' : (kvs.map fun p => D.tup [p.1, p.2])[i]? = some d := hd
          rw [List.getElem?_map] at hd'
          cases e5 : kvs[i]? with
          | none =>
            rw [e5] at hd'
            cases hd'
          | some kv =>
            rw [e5] at hd'
            cases hd'
            obtain ⟨p, f1, f2, f3⟩ := pget g2 e5
            rw [hb] at f1
            cases f1
            exact weak_pair s hT (x.enc (by rw [lockO_len]; exact f2)) (x.enc (by rw [lockO_len]; exact f3))
  · exact p1.elim
end
end Ev
-- EvS13
set_option Elab.async false
set_option linter.all false
set_option maxRecDepth 100000
set_option maxHeartbeats 4000000
/-! EvS13: for, comprehensions. -/
namespace Ev
open PySem PySem.Spec PyProof.Rows L2
section
variable {X : Cx} {u : Tb} {W : WX}
/-- behind the loop's lock -/
theorem lock_start {g : Gx} {S : Store} {m : Nat → Addr} {H : Hp} (st : StRel g S m H) (o : Option Nat) : Ext g (lockO S o true) m H (lockO S o true) m H ∧ StRel g (lockO S o true) m H := ⟨Ext.refl, st.lockO o true⟩
theorem ps_fo {sn : Str → Bool} (c : Ctx u sn X W) {tg iter : Expr} {t : Tg} {weak : Bool} {body : List Stmt} {I : Env → Store → R (List D × Option Nat)} {f : Env → Store → SR} {pos : Pos} (ht : cG X.N sn tg = some t) (hw : weak = true → t.isTup = true)
    (hi : PI X tg iter (RdI (gof u X) W weak I)) (hb : PSs X body (RdS (gof u X) W f)) (hs : ∀ x, foldedSetIterable iter X.env x = pure x) :
    PS X (.For tg iter body [] pos) (RdS (gof u X) W fun ρ S => thenS (I ρ S) ρ fun w S1 => unlockS w.2 (loopS (fun x ρ1 S2 => match asg t x ρ1 with
        | some ρ2 => f ρ2 S2
        | none => .bad) w.1 ρ (lockO S1 w.2 true))) := by
  refine PS.imp (ps_for c.po c.calm hi (pg_ok c tg t ht weak hw) hb hs) ?_
  rintro De σ H ⟨S, m, ρ, st, en, p⟩
  refine ⟨S, m, ρ, st, en, (PostS.thenK en p).mono fun w S1 m1 H1 x1 st1 p1 => ?_⟩
  intro lf J wk
  obtain ⟨xs, o⟩ := w
  dsimp only at p1 lf wk
  have en1 := x1.env en
  have st1' := st1.lockO o true
  refine ⟨fun i k σ2 H2 => k = xs.length - i ∧ i ≤ xs.length ∧ ∃ S2 m2 ρ2, Ext (gof u X) (lockO S1 o true) m1 H1 S2 m2 H2 ∧ StRel (gof u X) S2 m2 H2 ∧ EnvRel (gof u X) H2 m2 S2.length ρ2 σ2 ∧
    PostS (gof u X) W S m H De (unlockS o (loopS (fun x ρ1 S2 => match asg t x ρ1 with | some ρ2 => f ρ2 S2 | none => .bad) (xs.drop i) ρ2 S2)), ⟨_, rfl, Nat.zero_le _, lockO S1 o true, m1, ρ, Ext.refl, st1', by rw [lockO_len]; exact en1, p1⟩, ?_⟩
  rintro i k σ2 H2 ⟨hk, hi', S2, m2, ρ2, x2, st2, en2, p2⟩
  by_cases he : i = xs.length
  · left
    subst he
    refine ⟨wk.stop S2 m2 H2 x2 st2, ?_⟩
    rw [List.drop_length] at p2
    have x3 := x1.trans (Ext.unlockO st1 st2 lf x2)
    exact p2 m2 H2 σ2 x3 (st2.lockO o false) (by rw [lockO_len]; exact en2)
  · right
    have hlt : i < xs.length := Nat.lt_of_le_of_ne hi' he
    refine ⟨wk.go S2 m2 H2 i x2 st2 hlt, fun σ' H' => (xs.length - (i + 1)) < k ∧ ∃ S2 m2 ρ2, Ext (gof u X) (lockO S1 o true) m1 H1 S2 m2 H' ∧ StRel (gof u X) S2 m2 H' ∧ EnvRel (gof u X) H' m2 S2.length ρ2 σ' ∧
      PostS (gof u X) W S m H De (unlockS o (loopS (fun x ρ1 S2 => match asg t x ρ1 with | some ρ2 => f ρ2 S2 | none => .bad) (xs.drop (i + 1)) ρ2 S2)), fun σ' H' h => ⟨xs.length - (i + 1), h.1, rfl, hlt, h.2⟩, fun x H' hy => ?_⟩
    obtain ⟨x3, st3, ex⟩ := wk.yld S2 m2 H2 i _ x H' x2 st2 (List.getElem?_eq_getElem hlt) hy
    rw [List.drop_eq_getElem_cons hlt] at p2
    have x23 := x2.trans x3
    cases ea : asg t xs[i] ρ2 with
    | none =>
      have p3 : PostS (gof u X) W S m H De (unlockS o (match (match asg t xs[i] ρ2 with | some ρ3 => f ρ3 S2 | none => SR.bad) with | .ok .nx ρ1 S1 => loopS (fun x ρ1 S2 => match asg t x ρ1 with | some ρ2 => f ρ2 S2 | none => .bad) (xs.drop (i + 1)) ρ1 S1 | .ok .ct ρ1 S1 => loopS (fun x ρ1 S2 => match asg t x ρ1 with | some ρ2 => f ρ2 S2 | none => .bad) (xs.drop (i + 1)) ρ1 S1 | .ok .bk ρ1 S1 => .ok .nx ρ1 S1 | r => r)) := p2
      rw [ea] at p3
      exact p3.elim
    | some ρ3 =>
      have p3 : PostS (gof u X) W S m H De (unlockS o (match (match asg t xs[i] ρ2 with | some ρ3 => f ρ3 S2 | none => SR.bad) with | .ok .nx ρ1 S1 => loopS (fun x ρ1 S2 => match asg t x ρ1 with | some ρ2 => f ρ2 S2 | none => .bad) (xs.drop (i + 1)) ρ1 S1 | .ok .ct ρ1 S1 => loopS (fun x ρ1 S2 => match asg t x ρ1 with | some ρ2 => f ρ2 S2 | none => .bad) (xs.drop (i + 1)) ρ1 S1 | .ok .bk ρ1 S1 => .ok .nx ρ1 S1 | r => r)) := p2
      rw [ea] at p3
      dsimp only at p3
      refine ⟨S2, m2, ρ2, xs[i], ρ3, st3, x3.env en2, ex, ea, fun σ3 en3 _ => ⟨S2, m2, ρ3, st3, en3, ?_⟩⟩
      revert p3
      generalize f ρ3 S2 = r
      intro p3
      have less : xs.length - (i + 1) < k := by omega
      have again : ∀ {ρ4 : Env} {S4 : Store} {m4 : Nat → Addr} {H4 : Hp} {σ4 : L2.St}, Ext (gof u X) S2 m2 H' S4 m4 H4 → Ext (gof u X) S m H (lockO S4 o false) m4 H4 ∨ True := fun _ => .inr trivial
      cases r with
      | ok fl ρ4 S4 =>
        cases fl with
        | nx => exact fun m4 H4 σ4 x4 st4 en4 => ⟨less, S4, m4, ρ4, x23.trans x4, st4, en4, p3⟩
        | ct => exact fun m4 H4 σ4 x4 st4 en4 => ⟨less, S4, m4, ρ4, x23.trans x4, st4, en4, p3⟩
        | bk => exact fun m4 H4 σ4 x4 st4 en4 => p3 m4 H4 σ4 (x1.trans (Ext.unlockO st1 st4 lf (x23.trans x4))) (st4.lockO o false) (by rw [lockO_len]; exact en4)
        | rt tv =>
          intro m4 H4 σ4 x4 st4 en4 v fr en5
          have z := p3 m4 H4 σ4 (x1.trans (Ext.unlockO st1 st4 lf (x23.trans x4))) (st4.lockO o false) (by rw [lockO_len]; exact en4)
          refine z v (FreT.back (x1.trans (Ext.unlockO st1 st3 lf x23)) fr) ?_
          rw [lockO_len]
          exact en5
      | exc e ρ4 S4 => exact fun m4 H4 σ4 cl x4 st4 en4 q1 q2 => p3 m4 H4 σ4 cl (x1.trans (Ext.unlockO st1 st4 lf (x23.trans x4))) (st4.lockO o false) (by rw [lockO_len]; exact en4) q1 q2
      | bad => exact p3.elim

/-! ### comprehensions -/
abbrev WF : WX := fun _ _ _ _ => False
/-- the names that a block may store to -/
def blkSt (scope sc : Scope) (x : Str) : Bool := decide ((relS scope sc).names.lookup x = some .local) || decide (scope.names.lookup x = some .cell)
theorem blk_ctx {sn : Str → Bool} (c : Ctx u sn X W) (s : Shared) (H : Hp) (scope : Scope) (C : Addr) (cl : List (Str × Addr)) (fp : List Addr) : Ctx u (blkSt scope X.env.scope) (X.blk s H scope (compEnvC scope cl C X.env) fp) WF where
  nd := c.nd
  fn := fun x h => by
    unfold blkSt at h
    rw [Bool.or_eq_true, decide_eq_true_eq, decide_eq_true_eq] at h
    rcases h with h | h
    · have h' : (compEnvC scope cl C X.env).scope.names.lookup x = some .local := h
      exact ⟨.inl h', .inr h'⟩
    · have h2 : (relS scope X.env.scope).names.lookup x = some .cell := lookup_relS_keep (by simp) h
      have h' : (compEnvC scope cl C X.env).scope.names.lookup x = some .cell := h2
      refine ⟨.inr h', .inl ?_⟩
      show (scope.names.lookup x == some .cell) = true
      rw [h]
      rfl
  calm := c.calm
  tk := LamX.takes0
  po := PassesOwn.never
  un := c.un
theorem noX_bind {α β γ : Type} {r : R α} {f : α → Store → R β} {h : β → Store → R γ} {g : Gx} {S S1 : Store} {m m1 : Nat → Addr} {H H1 : Hp} {σ σ' : L2.St} {K : γ → Store → (Nat → Addr) → Hp → Prop} (p : Post g W S m H σ K ((noX (r.bind f)).bind h)) :
    Post g WF S1 m1 H1 σ' (fun a S2 _ _ => Post g W S m H σ K ((noX (f a S2)).bind h)) r := by
  cases r with
  | ok a S' => exact fun _ _ _ _ => p
  | exc e S' => exact p.elim
  | bad => exact p
theorem noX_ok {α β γ : Type} {r : R α} {k : α → β} {h : β → Store → R γ} : (noX (r.bind fun a S => .ok (k a) S)).bind h = (noX r).bind fun a S => h (k a) S := by
  cases r <;> rfl
/-- one turn of a comprehension -/
def turnC (own : List Nat) (E : Env → Store → R T) (t : Tg) (B : Env → Store → R Bool) (ρ : Env) : D → Store → R (Option D) := fun x S2 => match asg t x (wipeE ρ own) with
  | some ρ' => (B ρ' S2).bind fun k S3 => if k then (E ρ' S3).bind fun t S4 => (mat t S4).bind fun d S5 => .ok (some d) S5 else .ok none S3
  | none => .bad
def lcE (own : List Nat) (E : Env → Store → R T) (t : Tg) (I : Env → Store → R (List D × Option Nat)) (B : Env → Store → R Bool) : Env → Store → R T := fun ρ S =>
  (I ρ S).bind fun w S1 => if w.1.length ≤ lim then (noX (loopC (turnC own E t B ρ) w.1 (lockO S1 w.2 true))).bind fun ys S2 => .ok (.l ys) (lockO S2 w.2 false) else .bad
theorem lc_sub {own : List Nat} {E : Env → Store → R T} {t : Tg} {I : Env → Store → R (List D × Option Nat)} {B : Env → Store → R Bool} {weak : Bool} {σ : L2.St} {H : Hp} {Q : VK} {g : Gx} (hv : ∀ i ∈ t.vars, i ∈ own) (h : RdE g W (lcE own E t I B) σ H Q) :
    tLc (RdI g W weak I) (RdG g weak t) (RdB g WF B) (RdE g WF E) own σ H Q := by
  obtain ⟨S, m, ρ, st, en, p⟩ := h
  refine ⟨S, m, ρ, st, en, (Post.bindK Ext.refl p).mono fun w S1 m1 H1 x1 st1 p1 => ?_⟩
  intro lf J wk
  obtain ⟨xs, o⟩ := w
  dsimp only at p1 lf wk
  have hlim : xs.length ≤ lim := by
    rcases Nat.lt_or_ge lim xs.length with h | h
    · rw [if_neg (Nat.not_le.mpr h)] at p1
      exact p1.elim
    · exact h
  rw [if_pos hlim] at p1
  intro Dd hD
  have en1 := x1.env en
  have st1' := st1.lockO o true
  have hD0 : Fr H Dd := x1.free (Fr.of hD)
  obtain ⟨xa, sta⟩ := alloc_ok (o := .lst []) st1' hD
  refine ⟨fun i k H2 => k = xs.length - i ∧ i ≤ xs.length ∧ ∃ S2 m2 accD accV, Ext g (lockO S1 o true) m1 H1 S2 m2 H2 ∧ StRel g S2 m2 H2 ∧ H2 Dd = some (.lst accV) ∧ EncAll g H2 m2 S2.length accD accV ∧ accD.length ≤ i ∧ (∀ j, 0 < j → j < S2.length → m2 j ≠ Dd) ∧
    Post g W S m H σ (KE g H Q) ((noX (loopC (turnC own E t B ρ) (xs.drop i) S2)).bind fun ys S' => .ok (.l (accD ++ ys)) (lockO S' o false)),
    ⟨_, rfl, Nat.zero_le _, lockO S1 o true, m1, [], [], xa, sta, upd_same, EncAll.nil, Nat.le_refl _, st1'.apart hD, p1⟩, ?_⟩
  rintro i k H2 ⟨hk, hi', S2, m2, accD, accV, x2, st2, hacc, eacc, lacc, ap2, p2⟩
  by_cases he : i = xs.length
  · left
    subst he
    refine ⟨wk.stop S2 m2 H2 x2 st2, ?_⟩
    rw [List.drop_length] at p2
    have x3 := x1.trans (Ext.unlockO st1 st2 lf x2)
    have q := p2 m2 H2 x3 (st2.lockO o false) (.ref Dd) (fun r e => by cases e; exact hD0)
    refine q ⟨Dd, accV, rfl, hacc, by rw [List.append_nil, lockO_len]; exact eacc, fun j j0 hj => ap2 j j0 (by rw [lockO_len] at hj; exact hj)⟩
  · right
    have hlt : i < xs.length := Nat.lt_of_le_of_ne hi' he
    refine ⟨wk.go S2 m2 H2 i x2 st2 hlt, fun H' => (xs.length - (i + 1)) < k ∧ ∃ S2 m2 accD accV, Ext g (lockO S1 o true) m1 H1 S2 m2 H' ∧ StRel g S2 m2 H' ∧ H' Dd = some (.lst accV) ∧ EncAll g H' m2 S2.length accD accV ∧ accD.length ≤ i + 1 ∧ (∀ j, 0 < j → j < S2.length → m2 j ≠ Dd) ∧
      Post g W S m H σ (KE g H Q) ((noX (loopC (turnC own E t B ρ) (xs.drop (i + 1)) S2)).bind fun ys S' => .ok (.l (accD ++ ys)) (lockO S' o false)), fun H' h => ⟨xs.length - (i + 1), h.1, rfl, hlt, h.2⟩, fun x H' hy => ?_⟩
    obtain ⟨x3, st3, ex⟩ := wk.yld S2 m2 H2 i _ x H' x2 st2 (List.getElem?_eq_getElem hlt) hy
    rw [List.drop_eq_getElem_cons hlt] at p2
    have x23 := x2.trans x3
    have less : xs.length - (i + 1) < k := by omega
    have p3 : Post g W S m H σ (KE g H Q) ((noX ((turnC own E t B ρ xs[i] S2).bind fun o' S1' => (loopC (turnC own E t B ρ) (xs.drop (i + 1)) S1').bind fun ys S2' => .ok (match o' with | some y => y :: ys | none => ys) S2')).bind fun ys S' => .ok (.l (accD ++ ys)) (lockO S' o false)) := p2
    unfold turnC at p3
    cases ea : asg t xs[i] (wipeE ρ own) with
    | none =>
      rw [ea] at p3
      exact p3.elim
    | some ρ3 =>
      rw [ea] at p3
      dsimp only at p3
      have accKeep : ∀ {S4 : Store} {m4 : Nat → Addr} {H4 : Hp}, Ext g S2 m2 H' S4 m4 H4 → H4 Dd = some (.lst accV) := fun {S4 m4 H4} x4 => by
        have a1 : H' Dd = some (.lst accV) := keep_free x3 st2 hacc (fun ps z => by cases z) ap2
        exact keep_free x4 st3 a1 (fun ps z => by cases z) ap2
      have apUp : ∀ {S4 : Store} {m4 : Nat → Addr} {H4 : Hp}, Ext g S2 m2 H' S4 m4 H4 → ∀ j, 0 < j → j < S4.length → m4 j ≠ Dd := fun {S4 m4 H4} x4 =>
        apart_up x4 ⟨_, accKeep Ext.refl, fun ps z => by cases z⟩ ap2
      refine ⟨S2, m2, wipeE ρ own, xs[i], ρ3, st3, (x23.env (by rw [lockO_len]; exact wipe_env en1 own)), ex, ea, fun σ3 en3 sm => ⟨wipe_same sm hv, ?_⟩⟩
      rw [R.bind_assoc] at p3
      refine ⟨S2, m2, ρ3, st3, en3, (noX_bind p3).mono fun b S4 m4 H4 x4 st4 p4 => ?_⟩
      cases b with
      | false =>
        have p5 : Post g W S m H σ (KE g H Q) ((noX ((loopC (turnC own E t B ρ) (xs.drop (i + 1)) S4).bind fun ys S2' => .ok ys S2')).bind fun ys S' => .ok (.l (accD ++ ys)) (lockO S' o false)) := p4
        rw [R.bind_ok] at p5
        exact ⟨less, S4, m4, accD, accV, x23.trans x4, st4, accKeep x4, (x3.trans x4).encAll eacc, Nat.le_succ_of_le lacc, apUp x4, p5⟩
      | true =>
        have p5 : Post g W S m H σ (KE g H Q) ((noX (((E ρ3 S4).bind fun t S4 => (mat t S4).bind fun d S5 => .ok (some d) S5).bind fun o' S1' => (loopC (turnC own E t B ρ) (xs.drop (i + 1)) S1').bind fun ys S2' => .ok (match o' with | some y => y :: ys | none => ys) S2')).bind fun ys S' => .ok (.l (accD ++ ys)) (lockO S' o false)) := p4
        rw [R.bind_assoc] at p5
        refine ⟨S4, m4, ρ3, st4, x4.env en3, (noX_bind p5).mono fun tv S5 m5 H5 x5 st5 p6 v fv ev => ?_⟩
        obtain ⟨d, S6, e6⟩ := mat_cases tv S5
        obtain ⟨m6, x6, st6, en6⟩ := mat_ok x5 st5 ev fv e6
        have p7 : Post g W S m H σ (KE g H Q) ((noX (((mat tv S5).bind fun d S5 => .ok (some d) S5).bind fun o' S1' => (loopC (turnC own E t B ρ) (xs.drop (i + 1)) S1').bind fun ys S2' => .ok (match o' with | some y => y :: ys | none => ys) S2')).bind fun ys S' => .ok (.l (accD ++ ys)) (lockO S' o false)) := p6
        rw [e6] at p7
        have p8 : Post g W S m H σ (KE g H Q) ((noX ((loopC (turnC own E t B ρ) (xs.drop (i + 1)) S6).bind fun ys S2' => .ok (d :: ys) S2')).bind fun ys S' => .ok (.l (accD ++ ys)) (lockO S' o false)) := p7
        rw [noX_ok] at p8
        have x46 := x4.trans x6
        have a5 := accKeep x46
        have hlen : accV.length < sizeLine := by
          rw [eacc.length]
          exact Nat.lt_of_lt_of_le (Nat.lt_of_lt_of_le (Nat.lt_of_le_of_lt lacc hlt) hlim) lim_le
        refine ⟨accV, a5, hlen, less, ?_⟩
        obtain ⟨xw, stw⟩ := free_write (o := .lst (accV ++ [v])) (x23.trans x46) st6 hD a5 rfl (fun a q z => by cases z) (apUp x46)
        have tk : TK g H5 (upd H5 Dd (.lst (accV ++ [v]))) := TK.write a5 rfl
        refine ⟨S6, m6, accD ++ [d], accV ++ [v], xw, stw, upd_same, ?_, ?_, apUp x46, ?_⟩
        · exact EncAll.mono tk (Nat.le_refl _) (fun _ _ => rfl) _ _ (((x3.trans x46).encAll eacc).append (EncAll.cons en6 EncAll.nil))
        · rw [List.length_append]
          exact Nat.succ_le_succ lacc
        · have e9 : (fun (ys : List D) (S' : Store) => R.ok (T.l (accD ++ [d] ++ ys)) (lockO S' o false)) = fun ys S' => .ok (.l (accD ++ d :: ys)) (lockO S' o false) := by
            funext ys S'
            rw [List.append_assoc]
            rfl
          rw [e9]
          exact p8
/-- the conditions of a comprehension -/
theorem pts0 {X : Cx} : PTs X [] (RdB (gof u X) W (evC [])) := by
  refine ⟨fun pins s σ H Q I h => pts_nil.run pins s σ H Q I ?_⟩
  obtain ⟨S, m, ρ, st, en, p⟩ := h
  exact Post.here (a := true) st p
theorem pts1 {X : Cx} {e : Expr} {sm : Sm} (h : PT X e (RdB (gof u X) W sm.B)) : PTs X [e] (RdB (gof u X) W (evC [sm])) := by
  refine ⟨fun pins s σ H Q I hq => (pts_one h).run pins s σ H Q I ?_⟩
  obtain ⟨S, m, ρ, st, en, p⟩ := hq
  refine ⟨S, m, ρ, st, en, (Post.bind p).mono fun k S1 m1 H1 x1 st1 p1 => ?_⟩
  cases k with
  | true => exact Post.here (a := true) st1 p1
  | false => exact Post.here (a := false) st1 p1
theorem pe_lcE {sn : Str → Bool} (c : Ctx u sn X W) {elt tg iter : Expr} {ifs : List Expr} {scope : Scope} {own : List (Str × Nat)} {pos : Pos} {E : Env → Store → R T} {t : Tg} {I : Env → Store → R (List D × Option Nat)} {B : Env → Store → R Bool} {weak : Bool}
    (ht : cG X.N (blkSt scope X.env.scope) tg = some t) (hw : weak = true → t.isTup = true) (hv : ∀ i ∈ t.vars, i ∈ own.map (·.2)) (hi : PI X tg iter (RdI (gof u X) W weak I)) (ok : blkC X.N X.env.scope scope own = true)
    (hcs : ∀ X', Ctx u (blkSt scope X.env.scope) X' WF → X'.N = X.N → X'.env.scope = relS scope X.env.scope → gof u X' = gof u X → X'.stack = X.stack → X'.A = X.A → PTs X' ifs (RdB (gof u X) WF B) ∧ PE X' elt (RdE (gof u X) WF E)) (hs : ∀ x, foldedSetIterable iter X.env x = pure x) :
    PE X (.ListComp elt [⟨tg, iter, ifs, 0⟩] scope pos) (RdE (gof u X) W (lcE (own.map (·.2)) E t I B)) := by
  refine PE.imp (pe_lc (wi := RdI (gof u X) W weak I) (g := RdG (gof u X) weak t) (tt := RdB (gof u X) WF B) (te := RdE (gof u X) WF E) c.calm c.nd hi (blkOk_by ok) (fun s H C cl fp => pg_ok (blk_ctx c s H scope C cl fp) tg t ht weak hw) (fun s H C cl fp => (hcs _ (blk_ctx c s H scope C cl fp) rfl rfl rfl rfl rfl).1) (fun s H C cl fp => (hcs _ (blk_ctx c s H scope C cl fp) rfl rfl rfl rfl rfl).2) hs) ?_
  exact fun σ H Q h => lc_sub hv h
theorem ps_lcE {sn : Str → Bool} (c : Ctx u sn X W) {elt tg iter : Expr} {ifs : List Expr} {scope : Scope} {own : List (Str × Nat)} {pos spos py : Pos} {y : Str} {i : Nat} {E : Env → Store → R T} {t : Tg} {I : Env → Store → R (List D × Option Nat)} {B : Env → Store → R Bool} {weak : Bool}
    (ht : cG X.N (blkSt scope X.env.scope) tg = some t) (hw : weak = true → t.isTup = true) (hv : ∀ i ∈ t.vars, i ∈ own.map (·.2)) (hi : PI X tg iter (RdI (gof u X) W weak I)) (ok : blkC X.N X.env.scope scope own = true)
    (hcs : ∀ X', Ctx u (blkSt scope X.env.scope) X' WF → X'.N = X.N → X'.env.scope = relS scope X.env.scope → gof u X' = gof u X → X'.stack = X.stack → X'.A = X.A → PTs X' ifs (RdB (gof u X) WF B) ∧ PE X' elt (RdE (gof u X) WF E)) (hs : ∀ x, foldedSetIterable iter X.env x = pure x)
    (hy : X.N[i]? = some y) (hyl : X.env.scope.names.lookup y = some .local) (hsw : swapsWith (.ListComp elt [⟨tg, iter, ifs, 0⟩] scope pos) (some (.Name y py)) spos.line X.env = pure true) :
    PS X (.Assign [.Name y py] (.ListComp elt [⟨tg, iter, ifs, 0⟩] scope pos) spos) (RdS (gof u X) W fun ρ S => thenS ((lcE (own.map (·.2)) E t I B ρ S).bind mat) ρ fun d S1 => (match asg (.v i) d ρ with | some ρ' => .ok .nx ρ' S1 | none => .bad)) := by
  refine PS.imp (ps_setLc (wi := RdI (gof u X) W weak I) (g := RdG (gof u X) weak t) (tt := RdB (gof u X) WF B) (te := RdE (gof u X) WF E) c.calm c.nd hy hyl hsw hi (blkOk_by ok) (fun s H C cl fp => pg_ok (blk_ctx c s H scope C cl fp) tg t ht weak hw) (fun s H C cl fp => (hcs _ (blk_ctx c s H scope C cl fp) rfl rfl rfl rfl rfl).1) (fun s H C cl fp => (hcs _ (blk_ctx c s H scope C cl fp) rfl rfl rfl rfl rfl).2) hs) ?_
  rintro De σ H ⟨S, m, ρ, st, en, p⟩
  refine lc_sub hv ⟨S, m, ρ, st, en, (PostS.thenS en p).mat.mono fun t1 S1 m1 H1 x1 st1 p1 v fv ev => ?_⟩
  obtain ⟨d, S2, m2, x2, st2, ed, p2⟩ := p1 v fv ev
  have ea : asg (.v i) d ρ = if i < ρ.length then some (ρ.set i (some d)) else none := by unfold asg; rfl
  rw [ea] at p2
  split at p2
  · rename_i ρ' e1
    split at e1
    · cases e1
      exact PostS.here st2 (env_set (x2.env en) ed) p2
    · cases e1
  · exact p2.elim
end
end Ev
-- EvS14
set_option Elab.async false
set_option linter.all false
set_option maxRecDepth 100000
set_option maxHeartbeats 4000000
/-! EvS14: calls of defs, raise, try. -/
namespace Ev
open PySem PySem.Spec PyProof.Rows L2
/-- a def's promise: what the evaluator gives -/
def spF (g : Gx) (F : List Fd) (i n : Nat) : Sp := fun vs H Q E => ∃ S m ds, StRel g S m H ∧ EncAll g H m S.length ds vs ∧ Post g (fun c d _ H' => E c d H') S m H [] (KE g H Q) (callN F n i ds S)
theorem spF_len {g : Gx} {F : List Fd} {i n : Nat} {fd : Fd} (hf : F[i]? = some fd) {vs : List V} {H : Hp} {Q : VK} {E : XK} (h : spF g F i n vs H Q E) : vs.length = fd.np := by
  obtain ⟨S, m, ds, st, ed, p⟩ := h
  cases n with
  | zero => exact p.elim
  | succ n =>
    have p' : Post g (fun c d _ H' => E c d H') S m H [] (KE g H Q) (match F[i]? with | some fd => runF n (callN F n) fd ds S | none => .bad) := p
    rw [hf] at p'
    dsimp only at p'
    unfold runF at p'
    split at p'
    · rename_i hl
      rw [ed.length]
      exact hl
    · exact p'.elim
/-- what is known of the module -/
structure Fax (u : Tb) (n : Nat) (g : Gx) : Prop where
  fns : ∀ i x, u.fnm[i]? = some x → ∃ a fd ps, g.mg x = some (.ref a) ∧ PySem.W.keepIn g.K (.ref a) = true ∧ Binds g.K fd ps [] ∧ FnOk g.P g.w g.K g.mg g.base (CX g.P g.w) (3 * n) a fd ps (spF g u.F i n)
  con : ∀ x d, (x, d) ∈ u.con → ∃ v w, cV d = some v ∧ g.mg x = some w ∧ L2.RelV v w
  blt : ∀ x ∈ u.blt, g.mg x = none
  exc : ∀ x ∈ u.exc, ∃ C, g.mg x = some (.ref C)
  exm : ∀ x ∈ u.exc, ∀ y ∈ u.exc, ∀ cx cy, g.mg x = some cx → g.mg y = some cy → PySem.W.exmOne g.K cx cy = some (decide (x = y))
  exr : ∀ x ∈ u.exr, x ∈ u.exc ∧ ∃ C, g.mg x = some (.ref C) ∧ PySem.W.excIn g.K C [.type "ValueError", .type "Exception", .type "BaseException", .type "object"] "ValueError.__new__" = true ∧ PySem.W.keepIn g.K (.ref C) = true ∧
    PySem.W.subIn g.K (.ref C) (.type "BaseException") = some true ∧ PySem.W.typeIn g.K (.ref C) = some (.type "type")
  no : ∀ x e, u.no = some (x, e) → e ∈ u.exc ∧ (x == ("__debug__" : Str)) = false ∧ (e == ("__debug__" : Str)) = false ∧ ∃ (g0 : Addr) (pg : Arguments) (sg : Scope) (dV kV doc pm cdv ct oc : Value) (an od : Option Addr) (osl : Array (Option Value)) (a : Str) (Ng : List Str) (p1 p2 p3 p4 p5 p6 p7 p8 p9 p10 : Pos) (j j' : Nat),
    g.mg x = some (.ref g0) ∧ PySem.W.keepIn g.K (.ref g0) = true ∧ PySem.W.codeIn g.K cdv x = true ∧ FnScope Ng [a] sg ∧ Ng[0]? = some a ∧ Vis sg a ∧ (a == ("__debug__" : Str)) = false ∧ (a == ("__classdict__" : Str)) = false ∧ sg.names.lookup e = some .globalImplicit ∧
    (let bg : List Stmt := [.Try [.Expr (.Call (.Name a p1) [] [] p2) p3, .Return (some (.Constant (.bool false) j p4)) p5] [.ExceptHandler (some (.Name e p6)) none [.Return (some (.Constant (.bool true) j' p7)) p8] p9] [] [] p10]
     g.K.lookup g0 = some ⟨oc, od, .func (PySem.W.fnOf x x pg bg sg dV kV doc pm an cdv ct), osl⟩ ∧ Binds g.K (PySem.W.fnOf x x pg bg sg dV kV doc pm an cdv ct) [a] [])
/-- what a def's making of lambdas leans on -/
def LamF (u : Tb) (n : Nat) (X : Cx) : Prop := Room (3 * n + 2) X.A ∧ ∃ c P, LamX.TabB X.base X.mg c P ∧ X.env.code = .ref c ∧ (P, X.env.qual ++ "<lambda>") ∈ u.T ∧ ∀ p ∈ u.T, p.1 = P → p.2 = X.env.qual ++ "<lambda>"
section
variable {X : Cx} {u : Tb} {W : WX} {n : Nat}
theorem pe_cl (fx : Fax u n (gof u X)) (tk : Takes X W) (hr : Room (3 * n) X.A) {x : Str} {i : Nat} {e : Expr} {es : List Expr} {sms : List Sm} {p pos : Pos} (hi : u.fnm[i]? = some x) (hg : Gl X x) (hdb : (x == ("__debug__" : Str)) = false) (hs : (e :: es).all noStar = true)
    (ha : PA X (e :: es) (RdM (gof u X) W (evM sms))) : PE X (.Call (.Name x p) (e :: es) [] pos) (RdE (gof u X) W fun ρ S => fin S.length ((evM sms ρ S).bind fun ds S1 => callN u.F n i ds S1)) := by
  obtain ⟨a, fd, ps, h1, h2, h3, h4⟩ := fx.fns i x hi
  rw [List.all_cons, Bool.and_eq_true] at hs
  refine PE.imp (pe_callSD (E := WE W) h4 hr hg h1 h2 h3 .nil (passAt tk) ha hdb (star_ok hs.1) (nostar_any hs.2)) ?_
  rintro σ H Q ⟨S, m, ρ, st, en, p⟩
  have p' := fin_ok st.pos p
  refine ⟨S, m, ρ, st, en, p'.bind.mono fun ds S1 m1 H1 x1 st1 p1 vs hvs => ?_⟩
  refine ⟨S1, m1, ds, st1, by rw [List.append_nil]; exact hvs, ?_⟩
  revert p1
  generalize callN u.F n i ds S1 = r
  intro p1
  cases r with
  | ok t S2 => exact fun m2 H2 x2 st2 v fv ev => p1 m2 H2 x2 st2 v (FreT.back x1 fv) ev
  | exc y S2 => exact fun m2 H2 c x2 st2 q1 q2 => p1 m2 H2 c x2 st2 q1 q2
  | bad => exact p1
/-- C() of an own class of ValueError's kind -/
theorem pmk_own0 {x : Str} {p pos : Pos} {C : Addr} (q : PySem.W.excIn X.K C [.type "ValueError", .type "Exception", .type "BaseException", .type "object"] "ValueError.__new__" = true) (gC : X.mg x = some (.ref C)) (kC : PySem.W.keepIn X.K (.ref C) = true) (r : Raises X (.ref C)) (hg : Gl X x)
    (hdb : (x == ("__debug__" : Str)) = false) : PMk X (.Call (.Name x p) [] [] pos) (fun _ H Q => Q (.ref C) none H) := by
  intro pins s σ H Q I h
  refine wpAny_Call_Name_kw (ld_glob I hg gC ?_ hdb)
  refine PySem.W.callWith_K0 I.kIn kC ?_
  obtain ⟨bm, N, nm, qn, bs, hdct, sn, sub, ab, col, dd, k0, k1, k2, k3, k5, mN, hC, hN, hni, T⟩ := exc_obj I.kIn q
  refine wpAny_call_exc_subT PySem.F.excBase_ValueError T hC hN hni (fun h' e hm => ?_) (Nat.zero_le _)
  exact mk_of I hm r h (I.hok.gone hm.new)
theorem ps_ra (fx : Fax u n (gof u X)) (tk : Takes X W) (hc : X.calm = true) {x : Str} {p p2 pos : Pos} (hx : x ∈ u.exr) (hg : Gl X x) (hdb : (x == ("__debug__" : Str)) = false) :
    PS X (.Raise (some (.Call (.Name x p) [] [] p2)) none pos) (RdS (gof u X) W fun ρ S => .exc ⟨x, []⟩ ρ S) := by
  obtain ⟨h0, C, h1, h2, h3, h4, h5⟩ := fx.exr x hx
  refine PS.imp (ps_raise hc tk (pmk_own0 h2 h1 h3 (raises_own h4 h5) hg hdb)) ?_
  rintro De σ H ⟨S, m, ρ, st, en, p⟩
  exact p m H σ (.ref C) Ext.refl st en h0 h1
/-- code that the evaluator does not follow -/
theorem ps_nv {st : Stmt} : PS X st (RdS (gof u X) W fun _ _ => .bad) := by
  refine PS.imp ps_never ?_
  rintro De σ H ⟨S, m, ρ, st, en, p⟩
  exact p
/-- try: .. except x: return c -/
theorem ps_tr (fx : Fax u n (gof u X)) (tk : Takes X W) (hs : X.stack = X.env :: X.outer) (hf : X.env.frame = some X.env.locals) {x : Str} {body : List Stmt} {np p1 p2 pos : Pos} {ce : Expr} {d : D} {v : V} {f : Env → Store → SR} (hx : x ∈ u.exc) (hg : Gl X x) (hdb : (x == ("__debug__" : Str)) = false)
    (hv : cV d = some v) (hce : ∀ X' : Cx, PE X' ce (tC v))
    (hb : ∀ (W' : WX) (pn : List (Addr × Obj)) (xe : Value → Shared → Prop), Takes (X.tr pn xe) W' → PassesOwn (model X.prog X.w) X.A X.env xe → PSs (X.tr pn xe) body (RdS (gof u X) W' f)) {C' : Calls} {n' : Nat} :
    PS X (.Try body [.ExceptHandler (some (.Name x np)) none [.Return (some ce) p2] p1] [] [] pos) (RdS (gof u X) W fun ρ S => tryS (f ρ S) x (fun ρ1 S1 => svs n' C' [.ret (.c d)] ρ1 S1)) := by
  obtain ⟨C, hC⟩ := fx.exc x hx
  refine PS.imp (ps_try_only (c := .ref C) (tb := fun W' => RdS (gof u X) W' f) (ts := fun _ _ _ => tRet (tC v)) hs hf ⟨hg, hdb, .inl hC⟩ tk hb (fun a oe cls d pn _ _ => pss_one (ps_ret (hce _)))) ?_
  rintro De σ H ⟨S, m, ρ, st, en, p⟩
  refine ⟨S, m, ρ, st, en, ?_⟩
  revert p
  dsimp only
  generalize f ρ S = r
  intro p
  cases r with
  | ok fl ρ1 S1 => exact p
  | bad => exact p
  | exc y ρ1 S1 =>
    intro m1 H1 σ1 cls x1 st1 en1 q1 q2
    refine ⟨decide (y.cls = x), fx.exm _ q1 _ hx _ _ q2 hC, fun hb a ha => ?_, fun hb => ?_⟩
    · have he : y.cls = x := of_decide_eq_true hb
      have p' : PostS (gof u X) W S m H De (if y.cls = x then svs n' C' [.ret (.c d)] ρ1 S1 else .exc y ρ1 S1) := p
      rw [if_pos he] at p'
      have p2 : PostS (gof u X) W S m H De (.ok (.rt (.v d)) ρ1 S1) := by
        unfold svs sv ev at p'
        exact p'
      exact p2 m1 H1 σ1 x1 st1 en1 v trivial (cV_enc hv)
    · have he : ¬ y.cls = x := of_decide_eq_false hb
      have p' : PostS (gof u X) W S m H De (if y.cls = x then svs n' C' [.ret (.c d)] ρ1 S1 else .exc y ρ1 S1) := p
      rw [if_neg he] at p'
      exact p' m1 H1 σ1 cls x1 st1 en1 q1 q2
/-! ### a def's body -/
theorem env_start {g : Gx} {H : Hp} {m : Nat → Addr} {n : Nat} {ds : List D} {vs : List V} (h : EncAll g H m n ds vs) (N : List Str) : EnvRel g H m n (startE N.length ds) (L2.start N vs) := by
  unfold startE L2.start
  have hl := h.length
  refine ⟨by simp [hl], fun i d e => ?_⟩
  by_cases hi : i < ds.length
  · rw [List.getElem?_append_left (by rw [List.length_map]; exact hi), List.getElem?_map] at e
    cases e1 : ds[i]? with
    | none =>
      rw [e1] at e
      cases e
    | some d' =>
      rw [e1] at e
      cases e
      obtain ⟨v, h1, h2⟩ := h.get e1
      refine ⟨v, ?_, h2⟩
      rw [List.getElem?_append_left (by rw [List.length_map, hl]; exact hi), List.getElem?_map, h1]
      rfl
  · rw [List.getElem?_append_right (by rw [List.length_map]; omega)] at e
    rw [List.getElem?_replicate] at e
    split at e <;> cases e
/-- from the def's call to its body -/
theorem body_run {g : Gx} {W : WX} {F : List Fd} {i n : Nat} {fd : Fd} {N : List Str} {vs : List V} {H : Hp} {Q : VK} {E : XK} (hW : ∀ c d σ H', E c d H' → W c d σ H') (hf : F[i]? = some fd) (hn : fd.nn = N.length) (h : spF g F i (n + 1) vs H Q E) :
    RdS g W (svs n (callN F n) fd.body) { nx := fun _ H' => Q .non H', rt := Q } (L2.start N vs) H := by
  obtain ⟨S, m, ds, st, ed, p⟩ := h
  have p' : Post g (fun c d _ H' => E c d H') S m H [] (KE g H Q) (match F[i]? with | some fd => runF n (callN F n) fd ds S | none => .bad) := p
  rw [hf] at p'
  dsimp only at p'
  unfold runF at p'
  split at p'
  · rw [hn] at p'
    refine ⟨S, m, startE N.length ds, st, env_start ed N, ?_⟩
    revert p'
    generalize svs n (callN F n) fd.body (startE N.length ds) S = r
    intro p'
    cases r with
    | ok fl ρ1 S1 =>
      cases fl with
      | nx => exact fun m1 H1 σ1 x1 st1 en1 => p' m1 H1 x1 st1 .non trivial rfl
      | rt t => exact fun m1 H1 σ1 x1 st1 en1 v fv ev => p' m1 H1 x1 st1 v fv ev
      | bk => exact p'.elim
      | ct => exact p'.elim
    | exc y ρ1 S1 => exact fun m1 H1 σ1 c x1 st1 en1 q1 q2 => hW _ _ _ _ (p' m1 H1 c x1 st1 q1 q2)
    | bad => exact p'.elim
  · exact p'.elim
end
end Ev
-- EvS15
set_option Elab.async false
set_option linter.all false
set_option maxRecDepth 100000
set_option maxHeartbeats 4000000
/-! EvS15: from the text to the evaluator's expressions. -/
namespace Ev
open PySem PySem.Spec PyProof.Rows L2
/-- the names around an expression -/
structure Sc where
  N : List Str
  sc : Scope
  sn : Str → Bool
  lam : Bool
structure Cz (u : Tb) (n : Nat) (z : Sc) (X : Cx) (W : WX) : Prop where
  c : Ctx u z.sn X W
  eN : X.N = z.N
  esc : X.env.scope = z.sc
  rm : Room (3 * n) X.A
  fx : Fax u n (gof u X)
  lm : z.lam = true → LamF u n X
section
variable {X : Cx} {u : Tb} {W : WX} {n : Nat} {z : Sc}
def okB : Ex → Bool
  | .and _ => false
  | .or _ => false
  | _ => true
theorem mkB_B (B : Env → Store → R Bool) : (mk (mkB B).E).B = B := by
  funext ρ S
  show ((B ρ S).bind fun k S1 => R.ok (T.v (.bl k)) S1).bind (fun t S1 => opt (truth t S1) S1) = B ρ S
  rw [R.bind_assoc]
  cases B ρ S <;> rfl
theorem okB_ok (C : Calls) {x : Ex} (h : okB x = true) : (ev C x).B = (mk (ev C x).E).B := by
  cases x <;> first | (cases h; done) | rfl | (unfold ev; rw [mkB_B]; rfl)
/-- what is walked by its value -/
def okI : Ex → Bool
  | .me .. => false
  | .bi b _ => !isIt b
  | .not _ => false
  | .cmp .. => false
  | .chn .. => false
  | .isNo .. => false
  | _ => true
theorem okI_ok (C : Calls) {x : Ex} (h : okI x = true) : (ev C x).I = (mk (ev C x).E).I := by
  cases x with
  | bi b es =>
    have hb : isIt b = false := by simpa [okI] using h
    funext ρ S
    unfold ev
    show ((evTs (evs C es) ρ S).bind fun ts S1 => if isIt b then opt (itF b ts S1) S1 else (opt (biF b ts S1) S1).bind fun t S2 => opt (itQ t S2) S2) = ((evTs (evs C es) ρ S).bind fun ts S1 => opt (biF b ts S1) S1).bind fun t S1 => opt (itQ t S1) S1
    rw [R.bind_assoc, hb]
    rfl
  | _ => first | (cases h; done) | (unfold ev; rfl)

/-! ### names, small tests -/
def visB (sc : Scope) (x : Str) : Bool := decide (sc.names.lookup x = some .local) || decide (sc.names.lookup x = some .cell) || decide (sc.names.lookup x = some .free)
def glB (sc : Scope) (x : Str) : Bool := decide (sc.names.lookup x = some .globalImplicit)
theorem vis_ok (c : Cz u n z X W) {x : Str} (h : visB z.sc x = true) : Vis X.env.scope x := by
  unfold visB at h
  rw [Bool.or_eq_true, Bool.or_eq_true, decide_eq_true_eq, decide_eq_true_eq, decide_eq_true_eq, ← c.esc] at h
  rcases h with (h | h) | h
  · exact .inl h
  · exact .inr (.inl h)
  · exact .inr (.inr h)
theorem gl_ok (c : Cz u n z X W) {x : Str} (h : glB z.sc x = true) : Gl X x := by
  unfold glB at h
  rw [decide_eq_true_eq, ← c.esc] at h
  exact h
def dbg (x : Str) : Bool := x == ("__debug__" : Str)
def cld (x : Str) : Bool := x == ("__classdict__" : Str)
def opOf : Operator → Option Op2
  | .Add => some .add
  | .Sub => some .sub
  | .Mult => some .mul
  | .Mod => some .mod
  | .FloorDiv => some .fdiv
  | .Pow => some .pow
  | _ => none
theorem opOf_ok {o : Operator} {p : Op2} (h : opOf o = some p) : o = pyOp p := by
  cases o <;> first | (cases h; rfl) | cases h
def cmOf : CmpOp → Option Cm
  | .Eq => some .eq
  | .NotEq => some .ne
  | .Lt => some .lt
  | .LtE => some .le
  | .Gt => some .gt
  | .GtE => some .ge
  | .Is => some .isN
  | .IsNot => some .noN
  | _ => none
theorem cmOf_ok {o : CmpOp} {p : Cm} (h : cmOf o = some p) : o = pyCm p := by
  cases o <;> first | (cases h; rfl) | cases h
/-- rows of expressions -/
def cEs (r : Expr → Option Ex) : List Expr → Option (List Ex)
  | [] => some []
  | e :: es => if noStar e then (match r e, cEs r es with
    | some x, some xs => some (x :: xs)
    | _, _ => none) else none
theorem cEs_cons {r : Expr → Option Ex} {e : Expr} {es : List Expr} {xs : List Ex} (h : cEs r (e :: es) = some xs) : ∃ y ys, xs = y :: ys ∧ noStar e = true ∧ r e = some y ∧ cEs r es = some ys := by
  unfold cEs at h
  split at h
  · rename_i hn
    split at h
    · rename_i y ys h1 h2
      cases h
      exact ⟨y, ys, rfl, hn, h1, h2⟩
    · cases h
  · cases h
theorem cEs_star {r : Expr → Option Ex} : ∀ {es : List Expr} {xs : List Ex}, cEs r es = some xs → es.all noStar = true
  | [], _, _ => rfl
  | e :: es, xs, h => by
    obtain ⟨y, ys, _, h1, _, h2⟩ := cEs_cons h
    rw [List.all_cons, h1, cEs_star h2]
    rfl
theorem cEs_M {C : Calls} {r : Expr → Option Ex} (hr : ∀ e x, r e = some x → PE X e (RdE (gof u X) W (ev C x).E)) : ∀ {es : List Expr} {xs : List Ex}, cEs r es = some xs → PA X es (RdM (gof u X) W (evM (evs C xs)))
  | [], xs, h => by
    cases h
    exact pa_m0
  | e :: es, xs, h => by
    obtain ⟨y, ys, e1, h1, h2, h3⟩ := cEs_cons h
    subst e1
    exact pa_m1 h1 (hr e y h2) (cEs_M hr h3)
theorem cEs_T {C : Calls} {r : Expr → Option Ex} (hr : ∀ e x, r e = some x → PE X e (RdE (gof u X) W (ev C x).E)) : ∀ {es : List Expr} {xs : List Ex}, cEs r es = some xs → PA X es (RdTs (gof u X) W (evTs (evs C xs)))
  | [], xs, h => by
    cases h
    exact pa_t0
  | e :: es, xs, h => by
    obtain ⟨y, ys, e1, h1, h2, h3⟩ := cEs_cons h
    subst e1
    exact pa_t1 h1 (hr e y h2) (cEs_T hr h3)
theorem cEs_and {C : Calls} {r : Expr → Option Ex} (hr : ∀ e x, r e = some x → PE X e (RdE (gof u X) W (ev C x).E)) {pos : Pos} : ∀ {es : List Expr} {xs : List Ex}, es ≠ [] → cEs r es = some xs → PE X (.BoolOp .And es pos) (RdE (gof u X) W (evAnd (evs C xs)))
  | [], xs, hn, h => absurd rfl hn
  | [e], xs, hn, h => by
    obtain ⟨y, ys, e1, h1, h2, h3⟩ := cEs_cons h
    cases h3
    subst e1
    exact pe_and_one (hr e y h2)
  | e :: e2 :: es, xs, hn, h => by
    obtain ⟨y, ys, e1, h1, h2, h3⟩ := cEs_cons h
    obtain ⟨y2, ys2, e3, _, _, _⟩ := cEs_cons h3
    subst e1 e3
    exact pe_and_cons (hr e y h2) (cEs_and hr (by simp) h3)
theorem cEs_or {C : Calls} {r : Expr → Option Ex} (hr : ∀ e x, r e = some x → PE X e (RdE (gof u X) W (ev C x).E)) {pos : Pos} : ∀ {es : List Expr} {xs : List Ex}, es ≠ [] → cEs r es = some xs → PE X (.BoolOp .Or es pos) (RdE (gof u X) W (evOr (evs C xs)))
  | [], xs, hn, h => absurd rfl hn
  | [e], xs, hn, h => by
    obtain ⟨y, ys, e1, h1, h2, h3⟩ := cEs_cons h
    cases h3
    subst e1
    exact pe_or_one (hr e y h2)
  | e :: e2 :: es, xs, hn, h => by
    obtain ⟨y, ys, e1, h1, h2, h3⟩ := cEs_cons h
    obtain ⟨y2, ys2, e3, _, _, _⟩ := cEs_cons h3
    subst e1 e3
    exact pe_or_cons (hr e y h2) (cEs_or hr (by simp) h3)
theorem cEs_andB {C : Calls} {r : Expr → Option Ex} (hr : ∀ e x, r e = some x → PT X e (RdB (gof u X) W (ev C x).B)) {pos : Pos} : ∀ {es : List Expr} {xs : List Ex}, es ≠ [] → cEs r es = some xs → PW X (.BoolOp .And es pos) (RdB (gof u X) W (evC (evs C xs)))
  | [], xs, hn, h => absurd rfl hn
  | [e], xs, hn, h => by
    obtain ⟨y, ys, e1, h1, h2, h3⟩ := cEs_cons h
    cases h3
    subst e1
    exact pw_and_one (hr e y h2)
  | e :: e2 :: es, xs, hn, h => by
    obtain ⟨y, ys, e1, h1, h2, h3⟩ := cEs_cons h
    subst e1
    exact pw_and_cons (hr e y h2) (cEs_andB hr (by simp) h3)
theorem cEs_orB {C : Calls} {r : Expr → Option Ex} (hr : ∀ e x, r e = some x → PT X e (RdB (gof u X) W (ev C x).B)) {pos : Pos} : ∀ {es : List Expr} {xs : List Ex}, es ≠ [] → cEs r es = some xs → PW X (.BoolOp .Or es pos) (RdB (gof u X) W (evO (evs C xs)))
  | [], xs, hn, h => absurd rfl hn
  | [e], xs, hn, h => by
    obtain ⟨y, ys, e1, h1, h2, h3⟩ := cEs_cons h
    cases h3
    subst e1
    exact pw_or_one (hr e y h2)
  | e :: e2 :: es, xs, hn, h => by
    obtain ⟨y, ys, e1, h1, h2, h3⟩ := cEs_cons h
    subst e1
    exact pw_or_cons (hr e y h2) (cEs_orB hr (by simp) h3)

/-! ### builtins -/
def biOf (x : Str) (k : Nat) : Option Bi :=
  if x = "len" ∧ k = 1 then some .len else if x = "all" ∧ k = 1 then some .all else if x = "sum" ∧ k = 1 then some .sum else if x = "sorted" ∧ k = 1 then some .sorted else if x = "tuple" ∧ k = 1 then some .tuple else
  if x = "list" ∧ k = 1 then some .list else if x = "dict" ∧ k = 1 then some .dict else if x = "abs" ∧ k = 1 then some .abs else if x = "int" ∧ k = 1 then some .int else if x = "max" ∧ k = 2 then some .max2 else none
theorem biOf_ok (c : Ctx u z.sn X W) {x : Str} {k : Nat} {b : Bi} (h : biOf x k = some b) : ((∃ id, CallR X (.builtin id) (rBi (gof u X) b) ∧ bootBuiltins x = some (.builtin id)) ∨ (∃ T, CallR X (.type T) (rBi (gof u X) b) ∧ bootBuiltins x = some (.type T))) ∧ x ≠ "__name__" ∧ (x == ("__debug__" : Str)) = false := by
  unfold biOf at h
  split at h
  · rename_i q
    cases h
    rw [q.1]
    exact ⟨.inl ⟨_, bi_len, boot_len⟩, by decide, by decide⟩
  split at h
  · rename_i q
    cases h
    rw [q.1]
    exact ⟨.inl ⟨_, bi_all c.calm, boot_all⟩, by decide, by decide⟩
  split at h
  · rename_i q
    cases h
    rw [q.1]
    exact ⟨.inl ⟨_, bi_sum c.calm, boot_sum⟩, by decide, by decide⟩
  split at h
  · rename_i q
    cases h
    rw [q.1]
    exact ⟨.inl ⟨_, bi_sorted c.un, boot_sorted⟩, by decide, by decide⟩
  split at h
  · rename_i q
    cases h
    rw [q.1]
    exact ⟨.inr ⟨_, bi_tuple, boot_tuple⟩, by decide, by decide⟩
  split at h
  · rename_i q
    cases h
    rw [q.1]
    exact ⟨.inr ⟨_, bi_list, boot_list⟩, by decide, by decide⟩
  split at h
  · rename_i q
    cases h
    rw [q.1]
    exact ⟨.inr ⟨_, bi_dict c.calm c.un, boot_dict⟩, by decide, by decide⟩
  split at h
  · rename_i q
    cases h
    rw [q.1]
    exact ⟨.inl ⟨_, bi_abs, boot_abs⟩, by decide, by decide⟩
  split at h
  · rename_i q
    cases h
    rw [q.1]
    exact ⟨.inr ⟨_, bi_int, boot_int⟩, by decide, by decide⟩
  split at h
  · rename_i q
    cases h
    rw [q.1]
    exact ⟨.inl ⟨_, bi_max2 c.calm, boot_max⟩, by decide, by decide⟩
  · cases h
end
end Ev
-- EvS16
set_option Elab.async false
set_option linter.all false
set_option maxRecDepth 100000
set_option maxHeartbeats 4000000
/-! EvS16: the compiler and its soundness. -/
namespace Ev
open PySem PySem.Spec PyProof.Rows L2
abbrev Rc := Sc → Expr → Option Ex
abbrev Ri := Sc → Expr → Option (Ex × Bool)
def cName (u : Tb) (z : Sc) : Expr → Option Ex
  | .Name x _ => if dbg x || cld x then none else match z.N.idxOf? x with
    | some i => if visB z.sc x then some (.v i) else none
    | none => if glB z.sc x then (u.con.lookup x).map (.gc x) else none
  | .Constant (.int i) _ _ => some (.c (.int i))
  | .Constant (.bool b) _ _ => some (.c (.bl b))
  | .Constant .none _ _ => some (.c .non)
  | .Constant (.str s) _ _ => some (.c (.str s))
  | _ => none
def isCall : Expr → Bool
  | .Call .. => true
  | _ => false
/-- calls by name -/
def cCall (u : Tb) (rE : Rc) (z : Sc) : Expr → Option Ex
  | .Call (.Name x _) [] _ _ => none
  | .Call (.Name x _) [e, .Name tn p2] [] _ =>
    if x = "isinstance" ∧ (tn = "int" ∨ tn = "bool") then
      if glB z.sc x && glB z.sc tn && decide (x ∈ u.blt) && decide (tn ∈ u.blt) && noStar e then (rE z e).map fun y => .bi (if tn = "int" then .isInt else .isBool) [y] else none
    else if glB z.sc x && !dbg x then (match cEs (rE z) [e, .Name tn p2] with
      | some ys => (match u.fnm.idxOf? x with
        | some i => some (.call i ys)
        | none => if x ∈ u.blt then (biOf x 2).map fun b => .bi b ys else none)
      | none => none) else none
  | .Call (.Name x _) (e :: es) [] _ => if glB z.sc x && !dbg x then (match cEs (rE z) (e :: es) with
      | some ys => (match u.fnm.idxOf? x with
        | some i => some (.call i ys)
        | none => if x ∈ u.blt then (biOf x (e :: es).length).map fun b => .bi b ys else none)
      | none => none) else none
  | .Call (.Attribute o m apos) [a, b] [] cpos => if m = "get" ∧ (apos.endLine == cpos.line) = true ∧ isCall o = false then (match rE z o, cEs (rE z) [a, b] with
      | some y, some ys => some (.me .get2 y ys)
      | _, _ => none) else none
  | _ => none
/-- comprehensions -/
def ownOf (N : List Str) (scope : Scope) : List (Str × Nat) := scope.names.filterMap fun y => if y.2 = .local ∨ y.2 = .cell then (N.idxOf? y.1).map fun i => (y.1, i) else none
def blkSc (z : Sc) (scope : Scope) : Sc := ⟨z.N, relS scope z.sc, blkSt scope z.sc, false⟩
def isSet : Expr → Bool
  | .Set .. => true
  | _ => false
def cComp (rE rB : Rc) (rI : Ri) (z : Sc) : Expr → Option Ex
  | .ListComp elt [⟨tg, it, ifs, 0⟩] scope _ =>
    if blkC z.N z.sc scope (ownOf z.N scope) && !isSet it then (match cG z.N (blkSt scope z.sc) tg, rI z it, rE (blkSc z scope) elt with
      | some t, some (y, weak), some e => if (!weak || t.isTup) && decide (∀ i ∈ t.vars, i ∈ (ownOf z.N scope).map (·.2)) then (match ifs with
          | [] => some (.lc ((ownOf z.N scope).map (·.2)) e t y [])
          | [c] => (rB (blkSc z scope) c).map fun k => .lc ((ownOf z.N scope).map (·.2)) e t y [k]
          | _ => none) else none
      | _, _, _ => none) else none
  | _ => none
def cOp (rE rB : Rc) (z : Sc) : Expr → Option Ex
  | .Tuple es _ _ => (cEs (rE z) es).map .tup
  | .List es _ => (cEs (rE z) es).map .lst
  | .Dict [] [] _ => some .dT0
  | .Dict [some k] [v] _ => (match rE z k, rE z v with
    | some a, some b => some (.dT1 a b)
    | _, _ => none)
  | .BinOp a op b _ => (match opOf op, rE z a, rE z b with
    | some o, some x, some y => some (.bin o x y)
    | _, _, _ => none)
  | .UnaryOp .USub a _ => (rE z a).map .neg
  | .UnaryOp .Not a _ => (match rE z a with
    | some x => if okB x then some (.not x) else none
    | none => none)
  | .BoolOp .And (e :: es) _ => (cEs (rE z) (e :: es)).map .and
  | .BoolOp .Or (e :: es) _ => (cEs (rE z) (e :: es)).map .or
  | .Compare a [op] [b] _ => (match cmOf op, rE z a, rE z b with
    | some o, some x, some y => some (.cmp o x y)
    | _, _, _ => none)
  | .Compare a [op, op'] [b, c] _ => (match cmOf op, cmOf op', rE z a, rE z b, rE z c with
    | some o, some o', some x, some y, some w => some (.chn o o' x y w)
    | _, _, _, _, _ => none)
  | .IfExp t a b _ => (match rB z t, rE z a, rE z b with
    | some k, some x, some y => some (.ife k x y)
    | _, _, _ => none)
  | .Subscript a (.Slice lo hi none _) _ => (match rE z a, lo, hi with
    | some x, none, none => some (.sl false false x (.c .non) (.c .non))
    | some x, some l, none => (rE z l).map fun y => .sl true false x y (.c .non)
    | some x, none, some h => (rE z h).map fun y => .sl false true x (.c .non) y
    | some x, some l, some h => (match rE z l, rE z h with
      | some y, some w => some (.sl true true x y w)
      | _, _ => none)
    | none, _, _ => none)
  | .Subscript a i _ => if plainI i then (match rE z a, rE z i with
    | some x, some y => some (.ix x y)
    | _, _ => none) else none
  | _ => none
def orE (a b : Option Ex) : Option Ex := match a with
  | some x => some x
  | none => b
/-- lambdas: by their own rule -/
abbrev LamC := Tb → Rc → Sc → Expr → Option Ex
def cE1 (L : LamC) (u : Tb) (rE rB : Rc) (rI : Ri) : Rc := fun z e => orE (cName u z e) (orE (cOp rE rB z e) (orE (cCall u rE z e) (orE (cComp rE rB rI z e) (L u rE z e))))
def cB1 (rE rB : Rc) : Rc := fun z e => match e with
  | .UnaryOp .Not a _ => (rB z a).map .not
  | .BoolOp .And (x :: es) _ => (cEs (rB z) (x :: es)).map .and
  | .BoolOp .Or (x :: es) _ => (cEs (rB z) (x :: es)).map .or
  | .Compare a [op] [b] _ => (match cmOf op, rE z a, rE z b with
    | some o, some x, some y => some (.cmp o x y)
    | _, _, _ => none)
  | .Compare a [op, op'] [b, c] _ => (match cmOf op, cmOf op', rE z a, rE z b, rE z c with
    | some o, some o', some x, some y, some w => some (.chn o o' x y w)
    | _, _, _, _, _ => none)
  | e => if plainT e then (match rE z e with
    | some x => if okB x then some x else none
    | none => none) else none
def cI1 (u : Tb) (rE : Rc) : Ri := fun z e => match e with
  | .Call (.Name x p) [a] [] pos => if x = "range" then (if glB z.sc x && decide (x ∈ u.blt) then (cEs (rE z) [a]).map fun ys => (.bi .range ys, false) else none) else
      if x = "enumerate" then (if glB z.sc x && decide (x ∈ u.blt) then (cEs (rE z) [a]).map fun ys => (.bi .enum ys, true) else none) else
      (match rE z (.Call (.Name x p) [a] [] pos) with
        | some x => if okI x then some (x, false) else none
        | none => none)
  | .Call (.Name x p) [a, b] [] pos => if x = "range" then (if glB z.sc x && decide (x ∈ u.blt) then (cEs (rE z) [a, b]).map fun ys => (.bi .range2 ys, false) else none) else
      if x = "zip" then (if glB z.sc x && decide (x ∈ u.blt) then (cEs (rE z) [a, b]).map fun ys => (.bi .zip ys, true) else none) else
      (match rE z (.Call (.Name x p) [a, b] [] pos) with
        | some x => if okI x then some (x, false) else none
        | none => none)
  | .Call (.Attribute o m apos) [] [] cpos => if m = "items" ∧ (apos.endLine == cpos.line) = true ∧ isCall o = false then (rE z o).map fun y => (.me .items y [], true) else none
  | e => (match rE z e with
    | some x => if okI x then some (x, false) else none
    | none => none)
mutual
def cE (L : LamC) (u : Tb) : Nat → Rc
  | 0 => fun _ _ => none
  | k + 1 => cE1 L u (cE L u k) (cB L u k) (cI L u k)
def cB (L : LamC) (u : Tb) : Nat → Rc
  | 0 => fun _ _ => none
  | k + 1 => cB1 (cE L u k) (cB L u k)
def cI (L : LamC) (u : Tb) : Nat → Ri
  | 0 => fun _ _ => none
  | k + 1 => cI1 u (cE L u k)
end

/-! ### soundness -/
def SE (u : Tb) (n : Nat) (r : Rc) : Prop := ∀ z e x, r z e = some x → ∀ (X : Cx) (W : WX), Cz u n z X W → PE X e (RdE (gof u X) W (ev (callN u.F n) x).E)
def SB (u : Tb) (n : Nat) (r : Rc) : Prop := ∀ z e x, r z e = some x → ∀ (X : Cx) (W : WX), Cz u n z X W → PT X e (RdB (gof u X) W (ev (callN u.F n) x).B)
def isTupE : Expr → Bool
  | .Tuple .. => true
  | _ => false
def SI (u : Tb) (n : Nat) (r : Ri) : Prop := ∀ z e x b, r z e = some (x, b) → ∀ (X : Cx) (W : WX), Cz u n z X W → ∀ tg, (b = true → isTupE tg = true) → PI X tg e (RdI (gof u X) W b (ev (callN u.F n) x).I)
theorem orE_some {a b : Option Ex} {x : Ex} (h : orE a b = some x) : a = some x ∨ b = some x := by
  cases a with
  | none => exact .inr h
  | some y => exact .inl h
section
variable {u : Tb} {n : Nat}
theorem cName_ok : SE u n (cName u) := by
  intro z e x h X W c
  unfold cName at h
  split at h
  · rename_i y pos
    split at h
    · cases h
    · rename_i hd
      have hd' : dbg y = false ∧ cld y = false := by
        cases h1 : dbg y <;> cases h2 : cld y <;> simp [h1, h2] at hd ⊢
      split at h
      · rename_i i hi
        split at h
        · rename_i hv
          cases h
          exact pe_v (by rw [c.eN]; exact idx_some hi) (vis_ok c hv) hd'.1 hd'.2
        · cases h
      · split at h
        · rename_i hg
          cases h1 : u.con.lookup y with
          | none =>
            rw [h1] at h
            cases h
          | some d =>
            rw [h1] at h
            cases h
            obtain ⟨v, w, q1, q2, q3⟩ := c.fx.con y d (PySem.mem_of_lookup h1)
            exact pe_gc q1 (pe_glob (gl_ok c hg) q2 q3 hd'.1)
        · cases h
  · cases h
    exact pe_k rfl pe_int
  · cases h
    exact pe_k rfl pe_bl
  · cases h
    exact pe_k rfl pe_non
  · cases h
    exact pe_k rfl pe_str
  · cases h
theorem cOp_ok {rE rB : Rc} (hE : SE u n rE) (hB : SB u n rB) : SE u n (cOp rE rB) := by
  intro z e x h X W c
  have rE' : ∀ e x, rE z e = some x → PE X e (RdE (gof u X) W (ev (callN u.F n) x).E) := fun e x h => hE z e x h X W c
  unfold cOp at h
  split at h
  · -- tuple
    rename_i es k pos
    cases h1 : cEs (rE z) es with
    | none => rw [h1] at h; cases h
    | some ys =>
      rw [h1] at h
      cases h
      exact pe_tupD (cEs_M rE' h1)
  · rename_i es pos
    cases h1 : cEs (rE z) es with
    | none => rw [h1] at h; cases h
    | some ys =>
      rw [h1] at h
      cases h
      exact pe_lstD (cEs_M rE' h1)
  · cases h
    exact pe_d0
  · split at h
    · rename_i a b h1 h2
      cases h
      exact pe_d1 c.c.un (rE' _ _ h1) (rE' _ _ h2)
    · cases h
  · split at h
    · rename_i o x y h0 h1 h2
      cases h
      rw [opOf_ok h0]
      exact pe_bin2 (op_bin2 rfl o) (rE' _ _ h1) (rE' _ _ h2)
    · cases h
  · rename_i a pos
    cases h1 : rE z a with
    | none => rw [h1] at h; cases h
    | some y =>
      rw [h1] at h
      cases h
      exact pe_ng (rE' _ _ h1)
  · rename_i a pos
    split at h
    · rename_i x h1
      split at h
      · rename_i hk
        cases h
        have q := pe_nt (pos := pos) (rE' _ _ h1)
        rw [← okB_ok _ hk] at q
        exact q
      · cases h
    · cases h
  · rename_i e es pos
    cases h1 : cEs (rE z) (e :: es) with
    | none => rw [h1] at h; cases h
    | some ys =>
      rw [h1] at h
      cases h
      exact cEs_and rE' (by simp) h1
  · rename_i e es pos
    cases h1 : cEs (rE z) (e :: es) with
    | none => rw [h1] at h; cases h
    | some ys =>
      rw [h1] at h
      cases h
      exact cEs_or rE' (by simp) h1
  · split at h
    · rename_i o x y h0 h1 h2
      cases h
      rw [cmOf_ok h0]
      exact pe_cm c.c.un (rE' _ _ h1) (rE' _ _ h2)
    · cases h
  · split at h
    · rename_i o o' x y w h0 h0' h1 h2 h3
      cases h
      rw [cmOf_ok h0, cmOf_ok h0']
      exact pe_chn c.c.un (rE' _ _ h1) (rE' _ _ h2) (rE' _ _ h3)
    · cases h
  · split at h
    · rename_i k x y h0 h1 h2
      cases h
      exact pe_ife (hB z _ _ h0 X W c) (rE' _ _ h1) (rE' _ _ h2)
    · cases h
  · split at h
    · rename_i x h1
      cases h
      exact pe_slE (rE' _ _ h1) po_no po_no
    · rename_i x l h1
      cases h2 : rE z l with
      | none => rw [h2] at h; cases h
      | some y =>
        rw [h2] at h
        cases h
        exact pe_slE (rE' _ _ h1) (po_e (rE' _ _ h2)) po_no
    · rename_i x l h1
      cases h2 : rE z l with
      | none => rw [h2] at h; cases h
      | some y =>
        rw [h2] at h
        cases h
        exact pe_slE (rE' _ _ h1) po_no (po_e (rE' _ _ h2))
    · rename_i x l hh h1
      split at h
      · rename_i y w h2 h3
        cases h
        exact pe_slE (rE' _ _ h1) (po_e (rE' _ _ h2)) (po_e (rE' _ _ h3))
      · cases h
    · cases h
  · split at h
    · rename_i hp
      split at h
      · rename_i x y h1 h2
        cases h
        exact pe_ixE hp (rE' _ _ h1) (rE' _ _ h2)
      · cases h
    · cases h
  · cases h
theorem idx_mem {N : List Str} {x : Str} {i : Nat} (h : N.idxOf? x = some i) : N[i]? = some x := idx_some h
theorem obase {o : Expr} {m : Str} {env : PySem.Env} (h : isCall o = false) : attributeBase o m env (eval o env) = eval o env := by
  cases o <;> first | rfl | cases h
theorem cCall_gen {rE : Rc} (hE : SE u n rE) {z : Sc} {X : Cx} {W : WX} (c : Cz u n z X W) {x : Str} {e : Expr} {es : List Expr} {p pos : Pos} {y : Ex}
    (h : (if glB z.sc x && !dbg x then (match cEs (rE z) (e :: es) with
      | some ys => (match u.fnm.idxOf? x with
        | some i => some (Ex.call i ys)
        | none => if x ∈ u.blt then (biOf x (e :: es).length).map fun b => .bi b ys else none)
      | none => none) else none) = some y) : PE X (.Call (.Name x p) (e :: es) [] pos) (RdE (gof u X) W (ev (callN u.F n) y).E) := by
  have rE' : ∀ e x, rE z e = some x → PE X e (RdE (gof u X) W (ev (callN u.F n) x).E) := fun e x h => hE z e x h X W c
  split at h
  · rename_i hg
    rw [Bool.and_eq_true] at hg
    have hdb : (x == ("__debug__" : Str)) = false := by simpa [dbg] using hg.2
    split at h
    · rename_i ys h1
      split at h
      · rename_i i hi
        cases h
        exact pe_cl c.fx c.c.tk c.rm (idx_mem hi) (gl_ok c hg.1) hdb (cEs_star h1) (cEs_M rE' h1)
      · split at h
        · rename_i hb
          cases h2 : biOf x (e :: es).length with
          | none => rw [h2] at h; cases h
          | some b =>
            rw [h2] at h
            cases h
            obtain ⟨q, q1, q2⟩ := biOf_ok c.c h2
            have hm := c.fx.blt x hb
            rcases q with ⟨id, q3, q4⟩ | ⟨T, q3, q4⟩
            · exact pe_biB q3 (gl_ok c hg.1) hm q4 q1 q2 (cEs_star h1) (cEs_T rE' h1)
            · exact pe_biT q3 (gl_ok c hg.1) hm q4 q1 q2 (cEs_star h1) (cEs_T rE' h1)
        · cases h
    · cases h
  · cases h
theorem kit_int (K : PySem.W.Frag) : PySem.W.kitOne K (.type "int") (.type "int") = some true ∧ PySem.W.kitOne K (.type "bool") (.type "int") = some true ∧ PySem.W.kitOne K (.type "NoneType") (.type "int") = some false ∧ PySem.W.kitOne K (.type "str") (.type "int") = some false :=
  ⟨kit_ty (by kernel_rfl), kit_ty (by kernel_rfl), kit_ty (by kernel_rfl), kit_ty (by kernel_rfl)⟩
theorem kit_bool (K : PySem.W.Frag) : PySem.W.kitOne K (.type "int") (.type "bool") = some false ∧ PySem.W.kitOne K (.type "bool") (.type "bool") = some true ∧ PySem.W.kitOne K (.type "NoneType") (.type "bool") = some false ∧ PySem.W.kitOne K (.type "str") (.type "bool") = some false :=
  ⟨kit_ty (by kernel_rfl), kit_ty (by kernel_rfl), kit_ty (by kernel_rfl), kit_ty (by kernel_rfl)⟩
theorem isInt_ok (K : PySem.W.Frag) (ts : List Ev.T) (S : Store) (t : Ev.T) (h : biF .isInt ts S = some t) : ∃ d, ts = [.v d] ∧ ∃ k, t = .v (.bl k) ∧ ((∃ i, d = .int i ∧ PySem.W.kitOne K (.type "int") (.type "int") = some k) ∨ (∃ i, d = .bl i ∧ PySem.W.kitOne K (.type "bool") (.type "int") = some k) ∨
      (d = .non ∧ PySem.W.kitOne K (.type "NoneType") (.type "int") = some k) ∨ (∃ i, d = .str i ∧ PySem.W.kitOne K (.type "str") (.type "int") = some k)) := by
  obtain ⟨k1, k2, k3, k4⟩ := kit_int K
  unfold biF at h
  split at h <;> try contradiction
  · cases h
    exact ⟨_, rfl, _, rfl, .inl ⟨_, rfl, k1⟩⟩
  · cases h
    exact ⟨_, rfl, _, rfl, .inr (.inl ⟨_, rfl, k2⟩)⟩
  · cases h
    exact ⟨_, rfl, _, rfl, .inr (.inr (.inl ⟨rfl, k3⟩))⟩
  · cases h
    exact ⟨_, rfl, _, rfl, .inr (.inr (.inr ⟨_, rfl, k4⟩))⟩
theorem isBool_ok (K : PySem.W.Frag) (ts : List Ev.T) (S : Store) (t : Ev.T) (h : biF .isBool ts S = some t) : ∃ d, ts = [.v d] ∧ ∃ k, t = .v (.bl k) ∧ ((∃ i, d = .int i ∧ PySem.W.kitOne K (.type "int") (.type "bool") = some k) ∨ (∃ i, d = .bl i ∧ PySem.W.kitOne K (.type "bool") (.type "bool") = some k) ∨
      (d = .non ∧ PySem.W.kitOne K (.type "NoneType") (.type "bool") = some k) ∨ (∃ i, d = .str i ∧ PySem.W.kitOne K (.type "str") (.type "bool") = some k)) := by
  obtain ⟨k1, k2, k3, k4⟩ := kit_bool K
  unfold biF at h
  split at h <;> try contradiction
  · cases h
    exact ⟨_, rfl, _, rfl, .inr (.inl ⟨_, rfl, k2⟩)⟩
  · cases h
    exact ⟨_, rfl, _, rfl, .inl ⟨_, rfl, k1⟩⟩
  · cases h
    exact ⟨_, rfl, _, rfl, .inr (.inr (.inl ⟨rfl, k3⟩))⟩
  · cases h
    exact ⟨_, rfl, _, rfl, .inr (.inr (.inr ⟨_, rfl, k4⟩))⟩
theorem cCall_ok {rE : Rc} (hE : SE u n rE) : SE u n (cCall u rE) := by
  intro z e x h X W c
  have rE' : ∀ e x, rE z e = some x → PE X e (RdE (gof u X) W (ev (callN u.F n) x).E) := fun e x h => hE z e x h X W c
  unfold cCall at h
  split at h
  · cases h
  · rename_i f p e1 tn p2 pos
    split at h
    · rename_i hq
      obtain ⟨hf, ht⟩ := hq
      subst hf
      split at h
      · rename_i hg
        rw [Bool.and_eq_true, Bool.and_eq_true, Bool.and_eq_true, Bool.and_eq_true, decide_eq_true_eq, decide_eq_true_eq] at hg
        obtain ⟨⟨⟨⟨g1, g2⟩, g3⟩, g4⟩, g5⟩ := hg
        cases h1 : rE z e1 with
        | none => rw [h1] at h; cases h
        | some y =>
          rw [h1] at h
          cases h
          rcases ht with rfl | rfl
          · exact pe_isi (s := ev (callN u.F n) y) (rE' _ _ h1) g5 (gl_ok c g1) (c.fx.blt _ g3) (gl_ok c g2) (c.fx.blt _ g4) boot_int (by decide) (by decide) (isInt_ok X.K)
          · exact pe_isi (s := ev (callN u.F n) y) (rE' _ _ h1) g5 (gl_ok c g1) (c.fx.blt _ g3) (gl_ok c g2) (c.fx.blt _ g4) boot_bool (by decide) (by decide) (isBool_ok X.K)
      · cases h
    · exact cCall_gen hE c h
  · exact cCall_gen hE c h
  · rename_i o m apos a b cpos
    split at h
    · rename_i hq
      obtain ⟨rfl, q1, q2⟩ := hq
      split at h
      · rename_i y ys h1 h2
        cases h
        exact pe_get2 (so := ev (callN u.F n) y) c.c.un (rE' _ _ h1) (cEs_T rE' h2) (cEs_star h2) (obase q2) q1
      · cases h
    · cases h
  · cases h
theorem fold_ok {e : Expr} {env : PySem.Env} (h : isSet e = false) (x : Value) : foldedSetIterable e env x = pure x := by
  cases e <;> first | rfl | cases h
theorem tup_of {N : List Str} {st : Str → Bool} {e : Expr} {t : Tg} (h : cG N st e = some t) (ht : t.isTup = true) : isTupE e = true := by
  cases e with
  | Tuple es k pos => rfl
  | Name x pos =>
    unfold cG at h
    cases h1 : N.idxOf? x with
    | none => rw [h1] at h; cases h
    | some i =>
      rw [h1] at h
      have h' : (if st x then some (Tg.v i) else none) = some t := h
      split at h'
      · cases h'
        cases ht
      · cases h'
  | _ => unfold cG at h; cases h
theorem cz_blk {z : Sc} {X X' : Cx} {W : WX} (c : Cz u n z X W) (scope : Scope) (c' : Ctx u (blkSt scope X.env.scope) X' WF) (h1 : X'.N = X.N) (h2 : X'.env.scope = relS scope X.env.scope) (h3 : gof u X' = gof u X) (h5 : X'.A = X.A) : Cz u n (blkSc z scope) X' WF where
  c := by
    have e : blkSt scope X.env.scope = (blkSc z scope).sn := by rw [c.esc]; rfl
    rw [← e]
    exact c'
  eN := h1.trans c.eN
  esc := by rw [h2, c.esc]; rfl
  rm := by rw [h5]; exact c.rm
  fx := by rw [h3]; exact c.fx
  lm := fun h => by cases h
/-- what a comprehension's row needs -/
theorem comp_parts {rE rB : Rc} {rI : Ri} (hE : SE u n rE) (hB : SB u n rB) (hI : SI u n rI) {z : Sc} {elt tg it : Expr} {ifs : List Expr} {scope : Scope} {pos : Pos} {x : Ex} (h : cComp rE rB rI z (.ListComp elt [⟨tg, it, ifs, 0⟩] scope pos) = some x) {X : Cx} {W : WX} (c : Cz u n z X W) :
    ∃ (own : List (Str × Nat)) (E : Env → Store → R T) (t : Tg) (I : Env → Store → R (List D × Option Nat)) (B : Env → Store → R Bool) (weak : Bool), (ev (callN u.F n) x).E = lcE (own.map (·.2)) E t I B ∧ cG X.N (blkSt scope X.env.scope) tg = some t ∧ (weak = true → t.isTup = true) ∧ (∀ i ∈ t.vars, i ∈ own.map (·.2)) ∧
      PI X tg it (RdI (gof u X) W weak I) ∧ blkC X.N X.env.scope scope own = true ∧
      (∀ X', Ctx u (blkSt scope X.env.scope) X' WF → X'.N = X.N → X'.env.scope = relS scope X.env.scope → gof u X' = gof u X → X'.stack = X.stack → X'.A = X.A → PTs X' ifs (RdB (gof u X) WF B) ∧ PE X' elt (RdE (gof u X) WF E)) ∧ ∀ v, foldedSetIterable it X.env v = pure v := by
  unfold cComp at h
  split at h
  case h_2 => cases h
  rename_i heq
  injection heq with i1 i2 i3 i4
  injection i2 with i5 i6
  injection i5 with i7 i8 i9 i10
  subst i1 i3 i7 i8 i9
  split at h
  · rename_i hg
    rw [Bool.and_eq_true] at hg
    split at h
    · rename_i t y weak e2 h1 h2 h3
      split at h
      · rename_i hq
        rw [Bool.and_eq_true, decide_eq_true_eq] at hq
        have hw : weak = true → t.isTup = true := fun e => by
          have := hq.1
          rw [e] at this
          simpa using this
        have hset : isSet it = false := by simpa using hg.2
        have base : ∀ X', Ctx u (blkSt scope X.env.scope) X' WF → X'.N = X.N → X'.env.scope = relS scope X.env.scope → gof u X' = gof u X → X'.stack = X.stack → X'.A = X.A → PE X' elt (RdE (gof u X) WF (ev (callN u.F n) e2).E) := fun X' c' g1 g2 g3 g4 g5 => by
          have q := hE _ _ _ h3 X' WF (cz_blk c scope c' g1 g2 g3 g5)
          rw [g3] at q
          exact q
        have gen : ∀ (conds : List Ex) (B : Env → Store → R Bool), x = .lc ((ownOf z.N scope).map (·.2)) e2 t y conds → evC (evs (callN u.F n) conds) = B → (∀ X', Ctx u (blkSt scope X.env.scope) X' WF → X'.N = X.N → X'.env.scope = relS scope X.env.scope → gof u X' = gof u X → X'.stack = X.stack → X'.A = X.A → PTs X' ifs (RdB (gof u X) WF B)) →
            ∃ (own : List (Str × Nat)) (E : Env → Store → R T) (t : Tg) (I : Env → Store → R (List D × Option Nat)) (B : Env → Store → R Bool) (weak : Bool), (ev (callN u.F n) x).E = lcE (own.map (·.2)) E t I B ∧ cG X.N (blkSt scope X.env.scope) tg = some t ∧ (weak = true → t.isTup = true) ∧ (∀ i ∈ t.vars, i ∈ own.map (·.2)) ∧
              PI X tg it (RdI (gof u X) W weak I) ∧ blkC X.N X.env.scope scope own = true ∧
              (∀ X', Ctx u (blkSt scope X.env.scope) X' WF → X'.N = X.N → X'.env.scope = relS scope X.env.scope → gof u X' = gof u X → X'.stack = X.stack → X'.A = X.A → PTs X' ifs (RdB (gof u X) WF B) ∧ PE X' elt (RdE (gof u X) WF E)) ∧ ∀ v, foldedSetIterable it X.env v = pure v := fun conds B ex eB hB' => by
          subst eB
          refine ⟨ownOf z.N scope, (ev (callN u.F n) e2).E, t, (ev (callN u.F n) y).I, evC (evs (callN u.F n) conds), weak, ?_, ?_, hw, hq.2, ?_, ?_, fun X' c' g1 g2 g3 g4 g5 => ⟨hB' X' c' g1 g2 g3 g4 g5, base X' c' g1 g2 g3 g4 g5⟩, fold_ok hset⟩
          · rw [ex]
            rfl
          · rw [c.eN, c.esc]
            exact h1
          · exact hI z it y weak h2 X W c tg (fun e => tup_of h1 (hw e))
          · rw [c.eN, c.esc]
            exact hg.1
        split at h
        · cases h
          exact gen [] _ rfl rfl fun X' c' g1 g2 g3 g4 g5 => by
            have q := pts0 (u := u) (W := WF) (X := X')
            rw [g3] at q
            exact q
        · rename_i cd
          cases h4 : rB (blkSc z scope) cd with
          | none => rw [h4] at h; cases h
          | some k =>
            rw [h4] at h
            cases h
            exact gen [k] _ rfl rfl fun X' c' g1 g2 g3 g4 g5 => by
              have q := pts1 (u := u) (sm := ev (callN u.F n) k) (hB _ _ _ h4 X' WF (cz_blk c scope c' g1 g2 g3 g5))
              rw [g3] at q
              exact q
        · cases h
      · cases h
    · cases h
  · cases h
theorem cComp_ok {rE rB : Rc} {rI : Ri} (hE : SE u n rE) (hB : SB u n rB) (hI : SI u n rI) : SE u n (cComp rE rB rI) := by
  intro z e x h X W c
  have h' := h
  unfold cComp at h
  split at h
  · obtain ⟨own, E, t, I, B, weak, q0, q1, q2, q3, q4, q5, q6, q7⟩ := comp_parts hE hB hI h' c
    rw [q0]
    exact pe_lcE c.c q1 q2 q3 q4 q5 q6 q7
  · cases h
theorem cB1_ok {rE rB : Rc} (hE : SE u n rE) (hB : SB u n rB) : SB u n (cB1 rE rB) := by
  intro z e x h X W c
  have rE' : ∀ e x, rE z e = some x → PE X e (RdE (gof u X) W (ev (callN u.F n) x).E) := fun e x h => hE z e x h X W c
  have rB' : ∀ e x, rB z e = some x → PT X e (RdB (gof u X) W (ev (callN u.F n) x).B) := fun e x h => hB z e x h X W c
  unfold cB1 at h
  split at h
  · rename_i a pos
    cases h1 : rB z a with
    | none => rw [h1] at h; cases h
    | some y =>
      rw [h1] at h
      cases h
      exact pt_nt (rB' _ _ h1)
  · rename_i e es pos
    cases h1 : cEs (rB z) (e :: es) with
    | none => rw [h1] at h; cases h
    | some ys =>
      rw [h1] at h
      cases h
      exact (cEs_andB rB' (by simp) h1).pt
  · rename_i e es pos
    cases h1 : cEs (rB z) (e :: es) with
    | none => rw [h1] at h; cases h
    | some ys =>
      rw [h1] at h
      cases h
      exact (cEs_orB rB' (by simp) h1).pt
  · split at h
    · rename_i o x y h0 h1 h2
      cases h
      rw [cmOf_ok h0]
      exact pt_cm c.c.un (rE' _ _ h1) (rE' _ _ h2)
    · cases h
  · split at h
    · rename_i o o' x y w h0 h0' h1 h2 h3
      cases h
      rw [cmOf_ok h0, cmOf_ok h0']
      exact pt_chn c.c.un (rE' _ _ h1) (rE' _ _ h2) (rE' _ _ h3)
    · cases h
  · split at h
    · rename_i hp
      split at h
      · rename_i y h1
        split at h
        · rename_i hk
          cases h
          have q := pt_pl hp (rE' _ _ h1)
          rw [← okB_ok _ hk] at q
          exact q
        · cases h
      · cases h
    · cases h
theorem cI_val {rE : Rc} (hE : SE u n rE) {z : Sc} {X : Cx} {W : WX} (c : Cz u n z X W) {e : Expr} {x : Ex} {b : Bool} {tg : Expr}
    (h : (match rE z e with | some x => if okI x then some (x, false) else none | none => none) = some (x, b)) : PI X tg e (RdI (gof u X) W b (ev (callN u.F n) x).I) := by
  split at h
  · rename_i y h1
    split at h
    · rename_i hk
      cases h
      rw [okI_ok _ hk]
      exact pi_E (hE z _ _ h1 X W c)
    · cases h
  · cases h
theorem cI1_ok {rE : Rc} (hE : SE u n rE) : SI u n (cI1 u rE) := by
  intro z e x b h X W c tg htg
  have rE' : ∀ e x, rE z e = some x → PE X e (RdE (gof u X) W (ev (callN u.F n) x).E) := fun e x h => hE z e x h X W c
  unfold cI1 at h
  split at h
  · rename_i f p a pos
    split at h
    · rename_i hf
      subst hf
      split at h
      · rename_i hg
        rw [Bool.and_eq_true, decide_eq_true_eq] at hg
        cases h1 : cEs (rE z) [a] with
        | none => rw [h1] at h; cases h
        | some ys =>
          rw [h1] at h
          cases h
          have hs := cEs_star h1
          rw [List.all_cons, Bool.and_eq_true] at hs
          exact pi_r1 (gl_ok c hg.1) (c.fx.blt _ hg.2) hs.1 (cEs_T rE' h1)
      · cases h
    split at h
    · rename_i hf
      subst hf
      split at h
      · rename_i hg
        rw [Bool.and_eq_true, decide_eq_true_eq] at hg
        cases h1 : cEs (rE z) [a] with
        | none => rw [h1] at h; cases h
        | some ys =>
          rw [h1] at h
          cases h
          have hs := cEs_star h1
          rw [List.all_cons, Bool.and_eq_true] at hs
          have ht := htg rfl
          cases tg with
          | Tuple elts kk tpos => exact pi_en (gl_ok c hg.1) (c.fx.blt _ hg.2) hs.1 (cEs_T rE' h1)
          | _ => cases ht
      · cases h
    · exact cI_val hE c h
  · rename_i f p a a2 pos
    split at h
    · rename_i hf
      subst hf
      split at h
      · rename_i hg
        rw [Bool.and_eq_true, decide_eq_true_eq] at hg
        cases h1 : cEs (rE z) [a, a2] with
        | none => rw [h1] at h; cases h
        | some ys =>
          rw [h1] at h
          cases h
          have hs := cEs_star h1
          rw [List.all_cons, Bool.and_eq_true, List.all_cons, Bool.and_eq_true] at hs
          exact pi_r2 (gl_ok c hg.1) (c.fx.blt _ hg.2) hs.1 hs.2.1 (cEs_T rE' h1)
      · cases h
    split at h
    · rename_i hf
      subst hf
      split at h
      · rename_i hg
        rw [Bool.and_eq_true, decide_eq_true_eq] at hg
        cases h1 : cEs (rE z) [a, a2] with
        | none => rw [h1] at h; cases h
        | some ys =>
          rw [h1] at h
          cases h
          have hs := cEs_star h1
          rw [List.all_cons, Bool.and_eq_true, List.all_cons, Bool.and_eq_true] at hs
          have ht := htg rfl
          cases tg with
          | Tuple elts kk tpos => exact pi_zp (gl_ok c hg.1) (c.fx.blt _ hg.2) hs.1 hs.2.1 (cEs_T rE' h1)
          | _ => cases ht
      · cases h
    · exact cI_val hE c h
  · rename_i o m apos cpos
    split at h
    · rename_i hq
      obtain ⟨rfl, q1, q2⟩ := hq
      cases h1 : rE z o with
      | none => rw [h1] at h; cases h
      | some y =>
        rw [h1] at h
        cases h
        have ht := htg rfl
        cases tg with
        | Tuple elts kk tpos =>
          have eI : (ev (callN u.F n) (.me .items y [])).I = fun ρ S => ((ev (callN u.F n) y).E ρ S).bind fun t S1 => (match t with
              | .v (.ref k) => opt ((asT (.v (.ref k)) S1).map fun kvs => (itemD kvs, lockFor S1 k)) S1
              | _ => .bad) := by
            funext ρ S
            refine congrArg (fun k => ((ev (callN u.F n) y).E ρ S).bind k) (funext fun t => funext fun S1 => ?_)
            cases t with
            | v d => cases d <;> rfl
            | _ => rfl
          rw [eI]
          exact pi_it (rE' _ _ h1) (obase q2) q1
        | _ => cases ht
    · cases h
  · exact cI_val hE c h
/-- lambdas by a rule of their own -/
def SL (u : Tb) (n : Nat) (L : LamC) : Prop := ∀ rE, SE u n rE → SE u n (L u rE)
theorem c_ok {L : LamC} (hL : SL u n L) : ∀ k, SE u n (cE L u k) ∧ SB u n (cB L u k) ∧ SI u n (cI L u k)
  | 0 => ⟨(fun z e x h => by cases h), (fun z e x h => by cases h), (fun z e x b h => by cases h)⟩
  | k + 1 => by
    obtain ⟨h1, h2, h3⟩ := c_ok hL k
    refine ⟨fun z e x h X W c => ?_, cB1_ok h1 h2, cI1_ok h1⟩
    have h' : cE1 L u (cE L u k) (cB L u k) (cI L u k) z e = some x := h
    unfold cE1 at h'
    rcases orE_some h' with q | q
    · exact cName_ok z e x q X W c
    rcases orE_some q with q | q
    · exact cOp_ok h1 h2 z e x q X W c
    rcases orE_some q with q | q
    · exact cCall_ok h1 z e x q X W c
    rcases orE_some q with q | q
    · exact cComp_ok h1 h2 h3 z e x q X W c
    · exact hL _ h1 z e x q X W c
end
end Ev
-- EvS17
set_option Elab.async false
set_option linter.all false
set_option maxRecDepth 100000
set_option maxHeartbeats 4000000
/-! EvS17: the compiler of statements and its soundness. -/
namespace Ev
open PySem PySem.Spec PyProof.Rows L2
theorem sw_par {env : PySem.Env} {x y : Str} {px py pt pt2 : Pos} {kt k2 : Nat} {a b : Expr} (hk : env.scope.kind = .function) (hx : env.scope.names.lookup x = some .local) (hy : env.scope.names.lookup y = some .local) (hl : py.line = px.line) (hxy : x ≠ y) (ha : noStar a = true) (hb : noStar b = true)
    (hf : (foldedForSure 8 a && foldedForSure 8 b) = false) (hc : (constantsAlone 8 a && constantsAlone 8 b) = false) : swappedStores [.Tuple [.Name x px, .Name y py] kt pt] (.Tuple [a, b] k2 pt2) env = pure (some [x, y]) := by
  have kx : env.kindOf x = some .local := hx
  have ky : env.kindOf y = some .local := hy
  have hbk : env.blockKind = .function := by unfold Env.blockKind; rw [hk]; rfl
  have ed : ([x, y] : List Str).eraseDups = [x, y] := by
    have : (y == x) = false := beq_eq_false_iff_ne.mpr (Ne.symm hxy)
    simp [List.eraseDups_cons, this]
  unfold swappedStores
  simp [hbk, kx, ky, hl, ed, hf, hc, Expr.pos]
  intro h
  rcases h with h | h
  · cases a <;> first | (cases h; done) | (cases ha; done)
  · cases b <;> first | (cases h; done) | (cases hb; done)
/-- a constant that a suite returns -/
def cK : Expr → Option D
  | .Constant (.int i) _ _ => some (.int i)
  | .Constant (.bool b) _ _ => some (.bl b)
  | .Constant .none _ _ => some .non
  | .Constant (.str s) _ _ => some (.str s)
  | _ => none
theorem cK_ok {e : Expr} {d : D} (h : cK e = some d) : ∃ v, cV d = some v ∧ ∀ X : Cx, PE X e (tC v) := by
  unfold cK at h
  split at h
  · cases h
    exact ⟨_, rfl, fun X => pe_int⟩
  · cases h
    exact ⟨_, rfl, fun X => pe_bl⟩
  · cases h
    exact ⟨_, rfl, fun X => pe_non⟩
  · cases h
    exact ⟨_, rfl, fun X => pe_str⟩
  · cases h
def isLoc (sc : Scope) (x : Str) : Bool := decide (sc.names.lookup x = some .local)
section
variable (L : LamC) (u : Tb) (k : Nat) (z : Sc)
def cAsg : Stmt → Option St
  | .Assign [.Name y py] (.ListComp elt gs scope pos) spos =>
    if isLoc z.sc y && decide (z.sc.kind = .function) && (py.line == pos.line) && !(scope.names.any fun (n, k) => n == y && (k == .local || k == .cell)) then (match gs, z.N.idxOf? y with
      | [⟨tg, it, ifs, 0⟩], some i => (cComp (cE L u k) (cB L u k) (cI L u k) z (.ListComp elt [⟨tg, it, ifs, 0⟩] scope pos)).map fun e => .asg (.v i) e
      | _, _ => none) else none
  | .Assign [.Subscript o i tpos] e pos => if noComp e && plainI i then (match cE L u k z o, cE L u k z i, cE L u k z e with
      | some x, some y, some w => some (.seti x y w)
      | _, _, _ => none) else none
  | .Assign [.Tuple [.Name x px, .Name y py] kt pt] (.Tuple [a, b] k2 pt2) pos =>
    if isLoc z.sc x && isLoc z.sc y && decide (z.sc.kind = .function) && decide (py.line = px.line) && decide (x ≠ y) && noStar a && noStar b && !(foldedForSure 8 a && foldedForSure 8 b) && !(constantsAlone 8 a && constantsAlone 8 b) then
      (match z.N.idxOf? x, z.N.idxOf? y, cE L u k z a, cE L u k z b with
      | some i, some j, some v, some w => if i ≠ j then some (.par i j v w) else none
      | _, _, _, _ => none) else
    if noComp (.Tuple [a, b] k2 pt2) && someCell z.sc (.Tuple [.Name x px, .Name y py] kt pt) then (match cG z.N z.sn (.Tuple [.Name x px, .Name y py] kt pt), cE L u k z (.Tuple [a, b] k2 pt2) with
      | some t, some x => some (.asg t x)
      | _, _ => none) else none
  | .Assign [tg] e pos => if noComp e && (noTL tg || noTup e) then (match cG z.N z.sn tg, cE L u k z e with
      | some t, some x => some (.asg t x)
      | _, _ => none) else none
  | _ => none
mutual
def cS : Nat → Stmt → Option St
  | 0, _ => none
  | j + 1, st => match st with
    | .Expr (.Call (.Attribute o m apos) [e1] [] cpos) pos => if m = "append" ∧ (apos.endLine == cpos.line) = true ∧ isCall o = false ∧ noStar e1 = true then (match cE L u k z o, cE L u k z e1 with
        | some x, some y => some (.app x y)
        | _, _ => none) else none
    | .Expr e pos => if noComp e then (cE L u k z e).map .ex else none
    | .Assign ts e pos => cAsg L u k z (.Assign ts e pos)
    | .AugAssign (.Name x pos') op e pos => (match z.N.idxOf? x, opOf op, cE L u k z e with
        | some i, some o, some y => if z.sn x ∧ o ≠ .pow then some (.aug i o y) else none
        | _, _, _ => none)
    | .AugAssign (.Subscript o i tpos) op e pos => if plainI i then (match cE L u k z o, cE L u k z i, opOf op, cE L u k z e with
        | some x, some y, some p, some w => if p ≠ .pow then some (.augi x y p w) else none
        | _, _, _, _ => none) else none
    | .If t a b pos => (match cB L u k z t, cSs j a, cSs j b with
        | some x, some ys, some ws => some (.ite x ys ws)
        | _, _, _ => none)
    | .For tg it body [] pos => if !isSet it then (match cG z.N z.sn tg, cI L u k z it, cSs j body with
        | some t, some (x, weak), some ys => if !weak || t.isTup then some (.for t x ys) else none
        | _, _, _ => none) else none
    | .Return (some e) pos => (cE L u k z e).map .ret
    | .Return none pos => some .retN
    | .Raise (some (.Call (.Name x p) [] [] p2)) none pos => if x ∈ u.exr ∧ glB z.sc x ∧ dbg x = false then some (.raise0 x) else some (.raise x [])
    | .Raise e c pos => some (.raise "" [])
    | .Try body [.ExceptHandler (some (.Name x np)) none [.Return (some ce) p2] p1] [] [] pos => if x ∈ u.exc ∧ glB z.sc x ∧ dbg x = false then (match cSs j body, cK ce with
        | some ys, some d => some (.try1 ys x [.ret (.c d)])
        | _, _ => none) else none
    | .Pass pos => some .pass
    | .Break pos => some .brk
    | .Continue pos => some .cont
    | _ => none
def cSs : Nat → List Stmt → Option (List St)
  | 0, _ => none
  | j + 1, sts => match sts with
    | [] => some []
    | s :: r => (match cS j s, cSs j r with
      | some x, some xs => some (x :: xs)
      | _, _ => none)
end
end
/-- a context of a def's statements -/
structure Cs (u : Tb) (n : Nat) (z : Sc) (X : Cx) (W : WX) : Prop where
  cz : Cz u n z X W
  hs : X.stack = X.env :: X.outer
  hf : X.env.frame = some X.env.locals
section
variable {L : LamC} {u : Tb} {n k : Nat} {z : Sc}
theorem cAsg_ok (hL : SL u n L) {st : Stmt} {x : St} (h : cAsg L u k z st = some x) {X : Cx} {W : WX} (c : Cs u n z X W) {n' : Nat} : PS X st (RdS (gof u X) W (sv n' (callN u.F n) x)) := by
  obtain ⟨hE, hB, hI⟩ := c_ok hL k
  have rE' : ∀ e x, cE L u k z e = some x → PE X e (RdE (gof u X) W (ev (callN u.F n) x).E) := fun e x h => hE z e x h X W c.cz
  unfold cAsg at h
  split at h
  · rename_i y py elt gs scope pos spos
    split at h
    · rename_i hg
      rw [Bool.and_eq_true, Bool.and_eq_true, Bool.and_eq_true] at hg
      obtain ⟨⟨⟨g1, g2⟩, g3⟩, g4⟩ := hg
      unfold isLoc at g1
      rw [decide_eq_true_eq, ← c.cz.esc] at g1
      rw [decide_eq_true_eq, ← c.cz.esc] at g2
      have g4' : (scope.names.any fun (n, k) => n == y && (k == .local || k == .cell)) = false := by
        cases hq : (scope.names.any fun (n, k) => n == y && (k == .local || k == .cell)) with
        | false => rfl
        | true => rw [hq] at g4; cases g4
      split at h
      · rename_i tg it ifs i hi
        cases h1 : cComp (cE L u k) (cB L u k) (cI L u k) z (.ListComp elt [⟨tg, it, ifs, 0⟩] scope pos) with
        | none => rw [h1] at h; cases h
        | some e =>
          rw [h1] at h
          cases h
          obtain ⟨own, E, t, I, B, weak, q0, q1, q2, q3, q4, q5, q6, q7⟩ := comp_parts hE hB hI h1 c.cz
          have q := ps_lcE (spos := spos) (py := py) (y := y) (i := i) c.cz.c q1 q2 q3 q4 q5 q6 q7 (by rw [c.cz.eN]; exact idx_some hi) g1 (sw_true g2 g1 g3 g4')
          have eq : sv n' (callN u.F n) (.asg (.v i) e) = fun ρ S => thenS (((ev (callN u.F n) e).E ρ S).bind mat) ρ fun d S1 => (match asg (.v i) d ρ with | some ρ' => .ok .nx ρ' S1 | none => .bad) := by
            funext ρ S
            rfl
          rw [eq, q0]
          exact q
      · cases h
    · cases h
  · split at h
    · rename_i hg
      rw [Bool.and_eq_true] at hg
      split at h
      · rename_i a b w h1 h2 h3
        cases h
        exact ps_se c.cz.c.un hg.1 hg.2 (rE' _ _ h1) (rE' _ _ h2) (rE' _ _ h3)
      · cases h
    · cases h
  · rename_i xn px yn py kt pt a b k2 pt2 pos
    split at h
    · rename_i hg
      rw [Bool.and_eq_true, Bool.and_eq_true, Bool.and_eq_true, Bool.and_eq_true, Bool.and_eq_true, Bool.and_eq_true, Bool.and_eq_true, Bool.and_eq_true] at hg
      obtain ⟨⟨⟨⟨⟨⟨⟨⟨g1, g2⟩, g3⟩, g4⟩, g5⟩, g6⟩, g7⟩, g8⟩, g9⟩ := hg
      unfold isLoc at g1 g2
      rw [decide_eq_true_eq, ← c.cz.esc] at g1 g2 g3
      rw [decide_eq_true_eq] at g4 g5
      split at h
      · rename_i i j v w h1 h2 h3 h4
        split at h
        · rename_i hij
          cases h
          exact ps_pr c.cz.c (by rw [c.cz.eN]; exact idx_some h1) (by rw [c.cz.eN]; exact idx_some h2) hij g1 g2 g6 g7 (rE' _ _ h3) (rE' _ _ h4) (sw_par g3 g1 g2 g4 g5 g6 g7 (by rw [Bool.not_eq_true'] at g8; exact g8) (by rw [Bool.not_eq_true'] at g9; exact g9))
        · cases h
      · cases h
    · split at h
      · rename_i hg
        rw [Bool.and_eq_true] at hg
        split at h
        · rename_i t y h1 h2
          cases h
          exact ps_asT c.cz.c hg.1 (.inr (by rw [c.cz.esc]; exact hg.2)) (by rw [c.cz.eN]; exact h1) (rE' _ _ h2)
        · cases h
      · cases h
  · split at h
    · rename_i hg
      rw [Bool.and_eq_true, Bool.or_eq_true] at hg
      split at h
      · rename_i t y h1 h2
        cases h
        exact ps_asT c.cz.c hg.1 (.inl hg.2) (by rw [c.cz.eN]; exact h1) (rE' _ _ h2)
      · cases h
    · cases h
  · cases h
theorem cs_tr {X : Cx} {W : WX} (c : Cs u n z X W) {W' : WX} {pn : List (Addr × Obj)} {xe : Value → Shared → Prop} (tk : Takes (X.tr pn xe) W') (po : PassesOwn (model X.prog X.w) X.A X.env xe) : Cs u n z (X.tr pn xe) W' where
  cz := ⟨⟨c.cz.c.nd, c.cz.c.fn, c.cz.c.calm, tk, po, c.cz.c.un⟩, c.cz.eN, c.cz.esc, c.cz.rm, c.cz.fx, c.cz.lm⟩
  hs := c.hs
  hf := c.hf
theorem s_ok (hL : SL u n L) : ∀ j, (∀ st x, cS L u k z j st = some x → ∀ (X : Cx) (W : WX), Cs u n z X W → ∀ n', PS X st (RdS (gof u X) W (sv n' (callN u.F n) x))) ∧ (∀ sts xs, cSs L u k z j sts = some xs → ∀ (X : Cx) (W : WX), Cs u n z X W → ∀ n', PSs X sts (RdS (gof u X) W (svs n' (callN u.F n) xs)))
  | 0 => ⟨(fun st x h => by unfold cS at h; cases h), (fun sts xs h => by unfold cSs at h; cases h)⟩
  | j + 1 => by
    obtain ⟨ih1, ih2⟩ := s_ok hL j
    obtain ⟨hE, hB, hI⟩ := c_ok hL k
    refine ⟨fun st x h X W c n' => ?_, fun sts xs h X W c n' => ?_⟩
    · have rE' : ∀ e x, cE L u k z e = some x → PE X e (RdE (gof u X) W (ev (callN u.F n) x).E) := fun e x h => hE z e x h X W c.cz
      unfold cS at h
      split at h
      · rename_i o m apos e1 cpos pos
        split at h
        · rename_i hq
          obtain ⟨rfl, q1, q2, q3⟩ := hq
          split at h
          · rename_i a b h1 h2
            cases h
            exact ps_ap (so := ev (callN u.F n) a) (s1 := ev (callN u.F n) b) (rE' _ _ h1) (rE' _ _ h2) q3 (obase q2) q1
          · cases h
        · cases h
      · rename_i e pos _
        split at h
        · rename_i hn
          cases h1 : cE L u k z e with
          | none => rw [h1] at h; cases h
          | some y =>
            rw [h1] at h
            cases h
            exact ps_ex hn (rE' _ _ h1)
        · cases h
      · exact cAsg_ok hL h c
      · split at h
        · rename_i i o y h1 h2 h3
          split at h
          · rename_i hq
            cases h
            rw [opOf_ok h2]
            exact ps_au c.cz.c hq.2 (by rw [c.cz.eN]; exact idx_some h1) hq.1 (rE' _ _ h3)
          · cases h
        · cases h
      · split at h
        · rename_i hi
          split at h
          · rename_i a b p w h1 h2 h3 h4
            split at h
            · rename_i hq
              cases h
              rw [opOf_ok h3]
              exact ps_aui c.cz.c.un hq hi (rE' _ _ h1) (rE' _ _ h2) (rE' _ _ h4)
            · cases h
          · cases h
        · cases h
      · split at h
        · rename_i y ys ws h1 h2 h3
          cases h
          exact ps_ite (hB z _ _ h1 X W c.cz) (ih2 _ _ h2 X W c n') (ih2 _ _ h3 X W c n')
        · cases h
      · split at h
        · rename_i hset
          split at h
          · rename_i t y weak ys h1 h2 h3
            split at h
            · rename_i hq
              cases h
              have hw : weak = true → t.isTup = true := fun e => by
                rw [e] at hq
                simpa using hq
              exact ps_fo c.cz.c (by rw [c.cz.eN]; exact h1) hw (hI z _ _ _ h2 X W c.cz _ (fun e => tup_of h1 (hw e))) (ih2 _ _ h3 X W c n') (fold_ok (by simpa using hset))
            · cases h
          · cases h
        · cases h
      · rename_i e pos
        cases h1 : cE L u k z e with
        | none => rw [h1] at h; cases h
        | some y =>
          rw [h1] at h
          cases h
          exact ps_rt (rE' _ _ h1)
      · cases h
        exact ps_rn
      · split at h
        · rename_i hq
          cases h
          exact ps_ra c.cz.fx c.cz.c.tk c.cz.c.calm hq.1 (gl_ok c.cz hq.2.1) hq.2.2
        · cases h
          exact ps_nv
      · cases h
        exact ps_nv
      · split at h
        · rename_i hq
          split at h
          · rename_i ys d h1 h2
            cases h
            obtain ⟨v, v1, v2⟩ := cK_ok h2
            exact ps_tr c.cz.fx c.cz.c.tk c.hs c.hf hq.1 (gl_ok c.cz hq.2.1) hq.2.2 v1 v2 fun W' pn xe tk po => ih2 _ _ h1 _ W' (cs_tr c tk po) n'
          · cases h
        · cases h
      · cases h
        exact ps_pa
      · cases h
        exact ps_bk
      · cases h
        exact ps_ct
      · cases h
    · unfold cSs at h
      split at h
      · cases h
        exact pss_n
      · split at h
        · rename_i y ys h1 h2
          cases h
          exact pss_c (ih1 _ _ h1 X W c n') (ih2 _ _ h2 X W c n')
        · cases h
end
end Ev
-- EvS18
set_option Elab.async false
set_option linter.all false
set_option maxRecDepth 100000
set_option maxHeartbeats 4000000
/-! EvS18: lambdas handed to a def. -/
namespace Ev
open PySem PySem.Spec PyProof.Rows L2
/-- try: a(); return False / except e: return True -/
def TTno (K : PySem.W.Frag) (CS : Addr) : (XK → Hp → VK → Prop) → Hp → VK → Prop := fun tl H Q =>
  tl (fun cls _ H' => ∃ b, PySem.W.exmOne K cls (.ref CS) = some b ∧ (b = true → Q (.bl true) H') ∧ (b = false → False)) H (fun _ H' => Q (.bl false) H')
theorem no_gives {X : Cx} {Ng : List Str} {x a e q : Str} {sg : Scope} {g CS : Addr} {cdg : Value} {j j' : Nat} {p1 p2 p3 p4 p5 p6 p7 p8 p9 p10 : Pos} (hge : sg.names.lookup e = some .globalImplicit) (hme : X.mg e = some (.ref CS)) (hde : (e == ("__debug__" : Str)) = false) (h0 : ∀ f : Addr, (L2.start Ng [V.ref f])[0]? = some (some (V.ref f))) :
    LamX.GivesTo X Ng x sg g cdg [.Try [.Expr (.Call (.Name a p1) [] [] p2) p3, .Return (some (.Constant (.bool false) j p4)) p5] [.ExceptHandler (some (.Name e p6)) none [.Return (some (.Constant (.bool true) j' p7)) p8] p9] [] [] p10] a q (TTno X.K CS) := by
  intro f c' s H Q tl act hc h
  have hgl : Gl (cxOf C8.CX0 X.prog X.w X.K X.mg X.base Ng x sg g cdg X.A X.stack s H C8.E0).nox e := hge
  refine ⟨_, pss_one (ps_try_only (X := (cxOf C8.CX0 X.prog X.w X.K X.mg X.base Ng x sg g cdg X.A X.stack s H C8.E0).nox) (c := .ref CS)
      (tb := fun W D σ H => ∃ Ech : XK, (∀ cls d σ' H', Ech cls d H' → W cls d σ' H') ∧ σ[0]? = some (some (.ref f)) ∧ H c' = some (LamX.CodeO c' q) ∧ tl Ech H (fun _ H' => D.rt (.bl false) H'))
      rfl rfl ⟨hgl, hde, .inl hme⟩ LamX.takes0 (fun W pn xe tk _ => ?_) (fun a oe cls d pn _ _ => pss_one (ps_ret pe_bl))), ?_⟩
  · refine ⟨fun pins s' σ H' D I h' => ?_⟩
    obtain ⟨Ech, hW, h1, h2, h3⟩ := h'
    have hp := act W pn xe Ech p1 p2 tk hW
    have hq : PSs ((cxOf C8.CX0 X.prog X.w X.K X.mg X.base Ng x sg g cdg X.A X.stack s H C8.E0).nox.tr pn xe) [.Expr (.Call (.Name a p1) [] [] p2) p3, .Return (some (.Constant (.bool false) j p4)) p5] _ := pss_cons (ps_expr (pos := p3) hp (by rfl)) (pss_one (ps_ret (pos := p5) (pe_bl (b := false))))
    exact hq.run pins s' σ H' D I ⟨h1, h2, h3⟩
  · exact ⟨fun cls _ H' => ∃ b, PySem.W.exmOne X.K cls (.ref CS) = some b ∧ (b = true → Q (.bl true) H') ∧ (b = false → False), fun cls d σ' H' ⟨b, e1, e2, e3⟩ => ⟨b, e1, fun hb a _ => e2 hb, fun hb => e3 hb⟩, h0 f, hc, h⟩
/-- all but the tables stay -/
theorem ext_N {g : Gx} {S : Store} {m : Nat → Addr} {H H1 : Hp} (st : StRel g S m H) (x : LamX.ExtN H H1) (t : LamX.Tabs g.T H1) : Ext g S m H S m H1 ∧ StRel g S m H1 := by
  have k : ∀ b o, H b = some o → (∀ ps, o ≠ .tbl ps) → H1 b = some o := x
  refine ⟨⟨Nat.le_refl _, fun _ _ => rfl, fun _ _ => rfl, fun b o e nt _ => k b o e nt, fun b xs e => k b _ e (fun ps z => by cases z), fun b o w e => k b _ e (fun ps z => by cases z), fun b f o e => ?_, fun j h1 h2 => absurd (Nat.lt_of_le_of_lt h1 h2) (Nat.lt_irrefl _)⟩,
    ⟨st.inj, st.zero, st.own, fun j c e => CellRel.mono (fun a vs h => ?_) (Nat.le_refl _) (fun _ _ => rfl) (fun o e nt => k _ o e nt) (st.cell j c e), t⟩⟩
  · by_cases hq : ∃ ps, o = .tbl ps
    · exact hq
    · exact f o (k b o e fun ps z => hq ⟨ps, z⟩)
  · rcases h with ⟨o, h, d⟩ | h
    · exact .inl ⟨o, k a _ h (fun ps z => by cases z), d⟩
    · exact .inr h
section
variable {u : Tb} {n : Nat}
def lamSc (z : Sc) (scope : Scope) : Sc := ⟨z.N, scope, fun _ => false, false⟩
theorem cz_lam {z : Sc} {X : Cx} {W : WX} (c : Cz u n z X W) {scope : Scope} {A : Around} {outer : List PySem.Env} {s : Shared} {H : Hp} {E : XK} {f c' : Addr} (hr : Room (3 * n) (A.deeper (LamX.lamEnv X scope s.heap.objs.size f c'))) :
    Cz u n (lamSc z scope) (LamX.lamCx X A outer s H E scope f c') (fun c d _ H' => E c d H') where
  c := ⟨c.c.nd, (fun x h => by cases h), rfl, takes_of rfl rfl rfl rfl, passes_of rfl, hr.units⟩
  eN := c.eN
  esc := rfl
  rm := hr
  fx := c.fx
  lm := fun h => by cases h
def cNo (u : Tb) (rE : Rc) (z : Sc) : Expr → Option Ex
  | .Call (.Name x p) [.Lambda ⟨[], [], none, [], [], none, []⟩ body scope lpos] [] pos => (match u.no with
    | some (x0, e0) => if x = x0 ∧ z.lam = true ∧ glB z.sc x = true ∧ LamX.lamSB z.sc scope = true then (rE (lamSc z scope) body).map (.isNo e0) else none
    | none => none)
  | _ => none
theorem cNo_ok {rE : Rc} (hE : SE u n rE) : SE u n (cNo u rE) := by
  intro z e x h X W c
  unfold cNo at h
  split at h
  · rename_i xn p body scope lpos pos
    split at h
    · rename_i x0 e0 hno
      split at h
      · rename_i hq
        obtain ⟨rfl, q1, q2, q3⟩ := hq
        cases h1 : rE (lamSc z scope) body with
        | none => rw [h1] at h; cases h
        | some y =>
          rw [h1] at h
          cases h
          obtain ⟨n1, n2, n3, g0, pg, sg, dV, kV, doc, pm, cdv, ct, oc, an, od, osl, a, Ng, p1, p2, p3, p4, p5, p6, p7, p8, p9, p10, j, j', m1, m2, m3, m4, m5, m6, m7, m8, m9, m10, m11⟩ := c.fx.no _ _ hno
          obtain ⟨CS, hCS⟩ := c.fx.exc _ n1
          obtain ⟨r2, cc, P, tb1, tb2, tb3, tb4⟩ := c.lm q1
          have L : LamX.LamS X.env.scope scope := by
            rw [c.esc]
            exact LamX.lamS_by q3
          have hNe : Ng = a :: Ng.drop 1 := by
            cases Ng with
            | nil => cases m5
            | cons b r =>
              have : b = a := by simpa using m5
              rw [this]
              rfl
          have hG : LamX.GivesTo X Ng xn sg g0 cdv _ a (X.env.qual ++ "<lambda>") (TTno X.K CS) := no_gives (p1 := p1) (p2 := p2) (p3 := p3) (p4 := p4) (p5 := p5) (p6 := p6) (p7 := p7) (p8 := p8) (p9 := p9) (p10 := p10) (j := j) (j' := j') m9 hCS n3 (fun f => by rw [hNe]; rfl)
          refine PE.imp (LamX.pe_lamcall (T := u.T) (TT := TTno X.K CS) (t := fun E => RdE (gof u X) (fun c d _ H' => E c d H') (ev (callN u.F n) y).E) (gl_ok c q2) m1 m2 m10 m3 m11 m4 m5 m6 hG tb1 tb2 tb3 tb4 r2 L rfl (fun _ _ _ _ _ => rfl)
            (fun A outer s H E f c' hr => hE _ _ _ h1 _ _ (cz_lam c hr)) n2 m7 m8) ?_
          rintro σ H Q ⟨S, m, ρ, st, en, p⟩
          refine ⟨st.tabs, fun H1 eN T1 => ?_⟩
          obtain ⟨xN, stN⟩ := ext_N st eN T1
          refine ⟨S, m, ρ, stN, xN.env en, ?_⟩
          have p' : Post (gof u X) W S m H σ (KE (gof u X) H Q) (R.bind (match fin S.length ((ev (callN u.F n) y).E ρ S) with
              | .ok _ S1 => .ok false S1
              | .exc x S1 => if x.cls = e0 then .ok true S1 else .bad
              | .bad => .bad) fun k S1 => .ok (.v (.bl k)) S1) := p
          revert p'
          generalize (ev (callN u.F n) y).E ρ S = r
          intro p'
          cases r with
          | bad => exact p'
          | ok t S1 =>
            intro m1 H2 x1 st1 v fv ev
            have x2 := xN.trans x1
            have p2 : Post (gof u X) W S m H σ (KE (gof u X) H Q) (R.bind (match finish S.length t S1 with
              | .ok _ S1 => R.ok false S1
              | .exc x S1 => if x.cls = e0 then .ok true S1 else .bad
              | .bad => .bad) fun k S1 => .ok (.v (.bl k)) S1) := p'
            by_cases hk : ((fresh S.length t S1).bnd S.length && oldOk S.length S1) = true
            · have e1 : finish S.length t S1 = .ok (fresh S.length t S1) (S1.take S.length) := if_pos hk
              rw [e1] at p2
              rw [Bool.and_eq_true] at hk
              obtain ⟨y1, st2, _⟩ := take_ok st.pos x2 st1 hk.2
              exact p2 m1 H2 y1 st2 _ trivial rfl
            · have e1 : finish S.length t S1 = .ok t S1 := if_neg hk
              rw [e1] at p2
              exact p2 m1 H2 x2 st1 _ trivial rfl
          | exc ee S1 =>
            intro m1 H2 cls x1 st1 q4 q5
            have x2 := xN.trans x1
            refine ⟨decide (ee.cls = e0), c.fx.exm _ q4 _ n1 _ _ q5 hCS, fun hb => ?_, fun hb => ?_⟩
            · have he := of_decide_eq_true hb
              have p2 : Post (gof u X) W S m H σ (KE (gof u X) H Q) (R.bind (match finishX S.length ee S1 with
                | .ok _ S1 => R.ok false S1
                | .exc x S1 => if x.cls = e0 then .ok true S1 else .bad
                | .bad => .bad) fun k S1 => .ok (.v (.bl k)) S1) := p'
              by_cases hk : (D.bnds S.length ee.args && oldOk S.length S1) = true
              · have e1 : finishX S.length ee S1 = .exc ee (S1.take S.length) := if_pos hk
                rw [e1] at p2
                rw [Bool.and_eq_true] at hk
                obtain ⟨y1, st2, _⟩ := take_ok st.pos x2 st1 hk.2
                dsimp only at p2
                rw [if_pos he] at p2
                exact p2 m1 H2 y1 st2 _ trivial rfl
              · have e1 : finishX S.length ee S1 = .exc ee S1 := if_neg hk
                rw [e1] at p2
                dsimp only at p2
                rw [if_pos he] at p2
                exact p2 m1 H2 x2 st1 _ trivial rfl
            · have he := of_decide_eq_false hb
              have p2 : Post (gof u X) W S m H σ (KE (gof u X) H Q) (R.bind (match finishX S.length ee S1 with
                | .ok _ S1 => R.ok false S1
                | .exc x S1 => if x.cls = e0 then .ok true S1 else .bad
                | .bad => .bad) fun k S1 => .ok (.v (.bl k)) S1) := p'
              by_cases hk : (D.bnds S.length ee.args && oldOk S.length S1) = true
              · have e1 : finishX S.length ee S1 = .exc ee (S1.take S.length) := if_pos hk
                rw [e1] at p2
                dsimp only at p2
                rw [if_neg he] at p2
                exact p2
              · have e1 : finishX S.length ee S1 = .exc ee S1 := if_neg hk
                rw [e1] at p2
                dsimp only at p2
                rw [if_neg he] at p2
                exact p2
      · cases h
    · cases h
  · cases h
end
end Ev
-- EvS19
set_option Elab.async false
set_option linter.all false
set_option maxRecDepth 100000
set_option maxHeartbeats 4000000
/-! EvS19: max(xs, key=lambda x: ..). -/
namespace Ev
open PySem PySem.Spec PyProof.Rows L2
theorem cloFrom_nf {cells : List (Str × Addr)} : ∀ {ns : List (Str × NameKind)} {acc : List (Str × Addr)}, (∀ y ∈ ns, y.2 ≠ .free) → cloFrom cells ns acc = acc
  | [], _, _ => rfl
  | (x, k) :: r, acc, h => by
    unfold cloFrom
    rw [if_neg (by have z := h _ List.mem_cons_self; cases k <;> first | (exact absurd rfl z) | decide)]
    exact cloFrom_nf fun y hy => h y (List.mem_cons_of_mem _ hy)
def fsB (a : Str) (sc : Scope) : Bool :=
  decide (sc.kind = .function) && !sc.isCoroutine && !sc.isGenerator && (decide (sc.names.lookup a = some .local) || decide (sc.names.lookup a = some .cell)) && sc.names.all fun y => !decide (y.2 = .free)
theorem fs_by {a : Str} {sc : Scope} (h : fsB a sc = true) : FnScope [a] [a] sc := by
  unfold fsB at h
  simp only [Bool.and_eq_true, Bool.or_eq_true, Bool.not_eq_true', decide_eq_true_eq, decide_eq_false_iff_not, List.all_eq_true] at h
  obtain ⟨⟨⟨⟨h1, h2⟩, h3⟩, h4⟩, h5⟩ := h
  refine ⟨h1, h2, h3, by simp, rfl, fun x hx => ?_, h5⟩
  have e : x = a := by simpa using hx
  rw [e]
  exact h4
/-- a lambda of one parameter, called -/
theorem run_lam1 {CX : CXT} {P : Program} {w : World} {K : PySem.W.Frag} {mg : Str → Option Value} {base : Heap} {k : Nat} {f c' : Addr} {qual : Str} {params : Arguments} {body : Expr} {scope : Scope} {pm ctv : Value} {a : Str} {A : Around} {outer : List PySem.Env} {s : Shared} {H : Hp} {v : V} {x : Value} {Q : VK} {E : XK}
    (S : FnScope [a] [a] scope) (hr : Room (k + 1) A) (e0 : Env0 P w K mg base A outer s H) (of : s.heap.get? f = some (PySem.W.kla_obj "<lambda>" qual params body scope [] pm c' ctv)) (hco : H c' = some (LamX.CodeO c' qual)) (rv : RelV v x)
    (hbind : bindArgs (PySem.W.kla_fn "<lambda>" qual params body scope [] pm (.ref c') ctv) ⟨[x], []⟩ = pure [(a, x)])
    (hbody : Room k (A.deeper (envOfC qual scope s.heap.objs.size f (.ref c'))) → ∃ t, PE (cxOf CX P w K mg base [a] qual scope f (.ref c') A outer s H E) body t ∧ t (L2.start [a] [v]) H Q) :
    codeAny (model P w) A (.call (.ref f) ⟨[x], []⟩) (CR CX outer P w H s Q E) s := by
  have lim : s.heap.NoLimit := e0.mod.nolimit.keeps fun b o e => (e0.bs b o e).1
  obtain ⟨⟨oc, vs, t, hoc, hdc, hvc⟩, _, _⟩ := e0.hok c' _ hco
  refine PySem.W.kla_callFunE hr.depth of rfl S.co S.gen rfl ⟨c', oc, vs, t, rfl, hoc, hdc, hvc⟩ ?_
  rw [hbind]
  have hkind : ∀ y ∈ [a].zip [x], scope.names.lookup y.1 = some .local ∨ (scope.names.lookup y.1 = some .cell ∧ ((cellsFrom (s.heap.objs.size + 1) scope.names []).lookup y.1).isSome = true) := fun y hy => by
    have e : y = (a, x) := by simpa using hy
    subst e
    rcases S.par a (by simp) with q | q
    · exact .inl q
    · exact .inr ⟨q, PySem.W.cellsFrom_some _ _ _ (.inl q)⟩
  refine wpAny_pure (wpAny_newFunctionEnv_cells S.kind hkind fun env he s1 x1 => ?_)
  subst he
  refine ⟨lim.keeps x1.toInCall.keep, ?_⟩
  obtain ⟨t, ht, hq⟩ := hbody (hr.deeper _)
  have I : L2.Inv (cxOf CX P w K mg base [a] qual scope f (.ref c') A outer s H E) [] (L2.start [a] [v]) H s1 := inv_start S hr.hd e0 rfl (.cons rv .nil) x1
  refine PySem.W.kla_codeExpr (wpAny_mono (ht.run [] s1 _ H _ I hq) (fun u s' hs => ?_) fun e s' hs => hs)
  obtain ⟨v', H', J, rv', q⟩ := hs
  exact ⟨v', H', J.os, J.bare, J.base, J.hok, rv', q⟩
/-- code objects stay -/
theorem Ext.code {g : Gx} {S S' : Store} {m m' : Nat → Addr} {H H' : Hp} {P : Program} {w : World} {hp : Heap} (ok : HOk P w H hp) (x : Ext g S m H S' m' H') (st : StRel g S m H) {c : Addr} {q : Str} (h : H c = some (LamX.CodeO c q)) : H' c = some (LamX.CodeO c q) :=
  x.keep _ _ h LamX.codeO_ne fun k hk e => by
    obtain ⟨cl, hc⟩ : ∃ cl, S[k]? = some cl := ⟨S[k], List.getElem?_eq_getElem hk⟩
    have z := st.cell k cl hc
    rw [e] at z
    cases cl with
    | lst b xs =>
      obtain ⟨vs, z, _⟩ := z
      rw [h] at z
      unfold LamX.CodeO at z
      cases z
    | ro xs =>
      unfold lockAt
      rw [hc]
    | dT b kvs =>
      obtain ⟨o, es, ep, z, d, hd, _⟩ := z
      obtain ⟨q1, _⟩ := ok c _ z
      obtain ⟨⟨oc, us, t, e1, e2, _⟩, _⟩ := ok c _ h
      rw [show hp.get? c = some o from q1] at e1
      cases e1
      rw [hd] at e2
      cases e2
def keyEx : Ex := .tup [.bi .sum [.ix (.v 0) (.c (.int 0))], .ix (.v 0) (.c (.int 0))]
theorem key_ev (C : Calls) {d kd : D} (S : Store) (h : keyOf d = some kd) : (ev C keyEx).E [some d] S = .ok (.v kd) S := by
  unfold keyOf at h
  split at h
  · rename_i ps r
    cases e : intL ps with
    | none =>
      rw [e] at h
      cases h
    | some ns =>
      rw [e] at h
      cases h
      have e1 : (ev C (.ix (.v 0) (.c (.int 0)))).E [some (.tup (.tup ps :: r))] S = .ok (.v (.tup ps)) S := by
        show opt ((ixAt (.tup ps :: r) 0).map T.v) S = _
        rw [show ixAt (.tup ps :: r) 0 = some (.tup ps) from by simp [ixAt, L2.atI, L2.ixN]]
        rfl
      have e2 : (ev C (.bi .sum [.ix (.v 0) (.c (.int 0))])).E [some (.tup (.tup ps :: r))] S = .ok (.v (.int ns.sum)) S := by
        show (((ev C (.ix (.v 0) (.c (.int 0)))).E [some (.tup (.tup ps :: r))] S).bind fun t S1 => (R.ok [] S1).bind fun ts S2 => R.ok (t :: ts) S2).bind (fun ts S1 => opt (biF .sum ts S1) S1) = _
        rw [e1]
        show opt (((some ps).bind fun xs => (intL xs).map fun ns => T.v (.int ns.sum))) S = _
        show opt ((intL ps).map fun ns => T.v (.int ns.sum)) S = _
        rw [e]
        rfl
      have e3 : (evM [ev C (.bi .sum [.ix (.v 0) (.c (.int 0))]), ev C (.ix (.v 0) (.c (.int 0)))] [some (.tup (.tup ps :: r))] S) = .ok [.int ns.sum, .tup ps] S := by
        unfold evM
        rw [e2]
        show ((evM [ev C (.ix (.v 0) (.c (.int 0)))] [some (.tup (.tup ps :: r))] S).bind fun ds S3 => R.ok (D.int ns.sum :: ds) S3) = _
        unfold evM
        rw [e1]
        rfl
      show ((evM [ev C (.bi .sum [.ix (.v 0) (.c (.int 0))]), ev C (.ix (.v 0) (.c (.int 0)))] [some (.tup (.tup ps :: r))] S).bind fun ds S1 => if ds.length ≤ lim then R.ok (T.v (.tup ds)) S1 else .bad) = _
      rw [e3]
      rfl
  · cases h
section
variable {X : Cx} {u : Tb} {n : Nat}
/-- what the lambda f promises -/
def KeyF (X : Cx) (u : Tb) (S0 : Store) (σ : L2.St) (f c' : Addr) (obj : Obj) : Prop :=
  ∀ (pins : List (Addr × Obj)) (s : Shared) (H : Hp) (m : Nat → Addr) (d kd : D) (v : V) (x : Value) (Q : Value → Shared → Prop) (E : Value → Shared → Prop), L2.Inv X pins σ H s → s.heap.get? f = some obj → H f = none → H c' = some (LamX.CodeO c' (X.env.qual ++ "<lambda>")) →
    StRel (gof u X) S0 m H → Enc (gof u X) H m S0.length d v → RelV v x → keyOf d = some kd →
    (∀ m' H' kv ku s', L2.Inv X pins σ H' s' → s'.heap.get? f = some obj → H' f = none → H' c' = some (LamX.CodeO c' (X.env.qual ++ "<lambda>")) → Ext (gof u X) S0 m H S0 m' H' → StRel (gof u X) S0 m' H' → RelV kv ku → Enc (gof u X) H' m' S0.length kd kv → Q ku s') →
    wpAny (model X.prog X.w) X.A.in1 (call (.ref f) [x]) Q E s
theorem key_ok {rE : Rc} (hE : SE u n rE) (fx : Fax u n (gof u X)) (hr : Room (3 * n + 2) X.A) {a : Str} {params : Arguments} {body : Expr} {scope : Scope} {pm ctv : Value} {f c' : Addr} {S0 : Store} {σ : L2.St}
    (Sf : FnScope [a] [a] scope) (hfr : f ∉ frs X.stack) (hb : rE ⟨[a], scope, fun _ => false, false⟩ body = some keyEx)
    (hbind : ∀ x, bindArgs (PySem.W.kla_fn "<lambda>" (X.env.qual ++ "<lambda>") params body scope [] pm (.ref c') ctv) ⟨[x], []⟩ = pure [(a, x)]) :
    KeyF X u S0 σ f c' (PySem.W.kla_obj "<lambda>" (X.env.qual ++ "<lambda>") params body scope [] pm c' ctv) := by
  intro pins s H m d kd v x Q E I of hfn hco st ed rv hk h
  have hr1 : Room (3 * n + 1) X.A.in1 := hr.in1
  refine wpAny_call (codeAny_mono (run_lam1 (CX := C8.CX0) (E := C8.E0) (Q := fun v' H' => ∃ m', Ext (gof u X) S0 m H S0 m' H' ∧ StRel (gof u X) S0 m' H' ∧ Enc (gof u X) H' m' S0.length kd v') Sf hr1 I.env0.in1 of hco rv (hbind x) fun hr' => ?_) fun r s' hq => ?_)
  · refine ⟨_, hE _ _ _ hb _ (fun _ _ _ _ => False) ⟨⟨by simp [cxOf], (fun x h => by cases h), rfl, LamX.takes0, passes_of rfl, hr'.units⟩, rfl, rfl, hr', fx, fun h => by cases h⟩, ?_⟩
    refine ⟨S0, m, [some d], st, ⟨rfl, fun i d' e => ?_⟩, ?_⟩
    · cases i with
      | zero =>
        cases e
        exact ⟨v, rfl, ed⟩
      | succ i => cases e
    · rw [key_ev _ S0 hk]
      exact fun m' H' x' st' v' _ ev' => ⟨m', x', st', ev'⟩
  · cases r with
    | error e => exact (show False from hq).elim
    | ok fl =>
      cases fl with
      | ret ku =>
        have hq' : CE X.stack X.prog X.w H s _ ku s' := hq
        obtain ⟨kv, H', os, bare, un, hok, rk, m', x', st', ek⟩ := hq'
        have J : L2.Inv X pins σ H' s' := I.call' os un hok bare (fun b z => absurd z (by simp))
        exact h m' H' kv ku s' J (un.keep f _ of hfn hfr (by simp)) (un.free f _ of hfn (by simp)) (x'.code I.hok st hco) x' st' rk ek
      | next => exact False.elim hq
      | brk => exact False.elim hq
      | cont => exact False.elim hq
theorem pin2 {pins : List (Addr × Obj)} {σ : L2.St} {H : Hp} {s : Shared} (I : L2.Inv X pins σ H s) {S It : Addr} {oS oI : Obj} (fS : FpOk X pins H S) (fI : FpOk X pins H It) (hS : s.heap.get? S = some oS) (dS : ∀ v, oS.data ≠ .cell v) (hI : s.heap.get? It = some oI) (dI : ∀ v, oI.data ≠ .cell v) :
    L2.Inv X ((S, oS) :: (It, oI) :: pins) σ H s := I.pins_of fun p hp => by
  rcases List.mem_cons.mp hp with z | hp
  · subst z
    exact ⟨hS, fS.1, fS.2.1, fS.2.2.1, dS⟩
  rcases List.mem_cons.mp hp with z | hp
  · subst z
    exact ⟨hI, fI.1, fI.2.1, fI.2.2.1, dI⟩
  · exact I.pin p (List.mem_append_right _ hp)
theorem unpin2 {pins : List (Addr × Obj)} {σ : L2.St} {H : Hp} {s : Shared} {p q : Addr × Obj} (I : L2.Inv X (p :: q :: pins) σ H s) : L2.Inv X pins σ H s ∧ (s.heap.get? p.1 = some p.2 ∧ H p.1 = none) ∧ (s.heap.get? q.1 = some q.2 ∧ H q.1 = none) :=
  ⟨I.pins_of fun p hp => I.pin p (List.mem_append_right _ (List.mem_cons_of_mem _ (List.mem_cons_of_mem _ hp))),
    ⟨(I.pin p (List.mem_append_right _ List.mem_cons_self)).1, (I.pin p (List.mem_append_right _ List.mem_cons_self)).2.1⟩,
    ⟨(I.pin q (List.mem_append_right _ (List.mem_cons_of_mem _ List.mem_cons_self))).1, (I.pin q (List.mem_append_right _ (List.mem_cons_of_mem _ List.mem_cons_self))).2.1⟩⟩
theorem keyOf_tup {d k : D} (h : keyOf d = some k) : k.py ≠ .none := by
  unfold keyOf at h
  split at h
  · rename_i ps r
    cases e : intL ps with
    | none =>
      rw [e] at h
      cases h
    | some ns =>
      rw [e] at h
      cases h
      intro z
      cases z
  · cases h
theorem keysOf_cons {x : D} {xs ks : List D} (h : keysOf (x :: xs) = some ks) : ∃ k r, ks = k :: r ∧ keyOf x = some k ∧ keysOf xs = some r := by
  unfold keysOf at h
  split at h
  · rename_i k r e1 e2
    cases h
    exact ⟨k, r, rfl, e1, e2⟩
  · cases h
def KOk (ks : List D) : Prop := (∀ a ∈ ks, ∀ b ∈ ks, PySem.W.alike a.py b.py = true) ∧ (∀ a ∈ ks, a.dep ≤ 50) ∧ ∀ a ∈ ks, a.pure = true
theorem KOk.sub {ks ls : List D} (h : KOk ks) (hs : ∀ a ∈ ls, a ∈ ks) : KOk ls := ⟨fun a ha b hb => h.1 a (hs a ha) b (hs b hb), fun a ha => h.2.1 a (hs a ha), fun a ha => h.2.2 a (hs a ha)⟩
theorem KOk.by {ks : List D} (h : keysOk ks = true) : KOk ks := by
  unfold keysOk at h
  rw [Bool.and_eq_true, Bool.and_eq_true, decide_eq_true_eq, pures_all, List.all_eq_true, List.all_eq_true] at h
  refine ⟨fun a ha b hb => ?_, fun a ha => Nat.le_trans (deps_mem ha) h.1.2, fun a ha => h.2 a ha⟩
  have z := h.1.1 a ha
  rw [List.all_eq_true] at z
  exact z b hb
abbrev lobj (xs : Array Value) (c : Nat) : Obj := { cls := .type "list", dict := none, data := .seq xs c, slots := #[] }
theorem max_loop {S0 : Store} {σ : L2.St} {f c' : Addr} {obj : Obj} (kf : KeyF X u S0 σ f c' obj) (hc : X.calm = true) (hu : X.A.units + 64 < cLine) {S It a : Addr} {vs : List V} (hSI : S ≠ It) (hSf : S ≠ f) (hIf : It ≠ f) {kw : List (Str × Value)} {R : Result → Shared → Prop} {m0 : Nat → Addr} {H0 : Hp} {pins : List (Addr × Obj)} :
    ∀ (rest ks : List D) (j : Nat) (s : Shared) (H : Hp) (m : Nat → Addr) (xb kb : D) (xv kv : V) (xu ku : Value) (c : Nat), keysOf rest = some ks → KOk (kb :: ks) →
      L2.Inv X pins σ H s → FpOk X pins H S → FpOk X pins H It → s.heap.get? S = some (lobj #[xu, ku] c) → s.heap.IsTupleIter It a j → PlT (gof u X).K H a vs → EncAll (gof u X) H m S0.length rest (vs.drop j) →
      Enc (gof u X) H m S0.length xb xv → Enc (gof u X) H m S0.length kb kv → RelV xv xu → RelV kv ku → StRel (gof u X) S0 m H → Ext (gof u X) S0 m0 H0 S0 m H →
      s.heap.get? f = some obj → H f = none → H c' = some (LamX.CodeO c' (X.env.qual ++ "<lambda>")) →
      (∀ s' H' m' v u', L2.Inv X pins σ H' s' → Ext (gof u X) S0 m0 H0 S0 m' H' → StRel (gof u X) S0 m' H' → RelV v u' → Enc (gof u X) H' m' S0.length (maxFrom xb kb rest ks) v → R (.ok (.ret u')) s') →
      codeAny (model X.prog X.w) X.A (.builtin "max.loop" ⟨[.ref It, .ref f, .ref S], kw⟩) R s
  | [], ks, j, s, H, m, xb, kb, xv, kv, xu, ku, c, hks, hko, I, fS, fI, hS, hit, ht, ea, exb, ekb, rx, rk, st, x0, of, hfn, hco, hR => by
    cases hks
    obtain ⟨its, rv, p, hz⟩ := I.tuple ht.sq
    have hd : X.A.in1.handled = none := I.ok.hd hc
    have hl := rv.length
    have hj : vs.length ≤ j := by
      have z : vs.drop j = [] := ea
      exact List.drop_eq_nil_iff.mp z
    refine codeAny_builtin F.entry_max_loop ?_
    rw [Around.under_plainId F.plain_max_loop _]
    show wpAny _ X.A.in1 (seqItems? (.ref S) >>= _) _ _ s
    refine wpAny_bind (wpAny_seqItems hS rfl ?_)
    show wpAny _ X.A.in1 (tryCatch (pyNext (.ref It)) _ >>= _) _ _ s
    refine wpAny_bind (wpAny_tryCatch (wpAny_pyNext_tuple_end hd hit (show s.heap.IsTuple a its.toArray from p) (by simp; omega) fun h' eb => ?_))
    obtain ⟨f0, f1, f2, f3, f4, f5⟩ := fI
    have I1 : L2.Inv X pins σ H { s with heap := h' } := I.turned (t' := s.toks) (fun b o hb e => eb b o hb e) f0 f1 f3 f4 f5
    have hS' : h'.get? S = some (lobj #[xu, ku] c) := eb S _ hSI hS
    show wpAny _ X.A.in1 (updateSeq S (fun _ => #[]) >>= _) _ _ _
    refine wpAny_bind ?_
    refine wpAny_updateSeq hS' rfl (wpAny_bind (wpAny_letGo (wpAny_pure ?_)))
    obtain ⟨g0, g1, g2, g3, g4, g5⟩ := fS
    exact hR _ H m xv xu (I1.turned (t' := s.toks) (fun b o hb e => (Heap.get?_update_other _ _ (Ne.symm hb)).trans e) g0 g1 g3 g4 g5) x0 st rx exb
  | y :: rest, ks, j, s, H, m, xb, kb, xv, kv, xu, ku, c, hks, hko, I, fS, fI, hS, hit, ht, ea, exb, ekb, rx, rk, st, x0, of, hfn, hco, hR => by
    obtain ⟨ky, kr, rfl, hky, hkr⟩ := keysOf_cons hks
    obtain ⟨its, rv, p, hz⟩ := I.tuple ht.sq
    have hd : X.A.in1.handled = none := I.ok.hd hc
    have hl := rv.length
    obtain ⟨yv, r, er, ey, ea'⟩ := ea
    have hjy : vs[j]? = some yv := by
      have z : (vs.drop j)[0]? = some yv := by rw [er]; rfl
      rw [List.getElem?_drop] at z
      simpa using z
    have hdr : vs.drop (j + 1) = r := by
      have z : (vs.drop j).drop 1 = r := by rw [er]; rfl
      rw [List.drop_drop] at z
      exact z
    obtain ⟨yu, hyu, ry⟩ := rv.get hjy
    refine codeAny_builtin F.entry_max_loop ?_
    rw [Around.under_plainId F.plain_max_loop _]
    show wpAny _ X.A.in1 (seqItems? (.ref S) >>= _) _ _ s
    refine wpAny_bind (wpAny_seqItems hS rfl ?_)
    show wpAny _ X.A.in1 (tryCatch (pyNext (.ref It)) _ >>= _) _ _ s
    refine wpAny_bind (wpAny_tryCatch (wpAny_pyNext_tuple_item hit (show s.heap.IsTuple a its.toArray from p) (x := yu) (by simpa using hyu) fun h' hit' sb => ?_))
    obtain ⟨f0, f1, f2, f3, f4, f5⟩ := id fI
    have I1 : L2.Inv X pins σ H { s with heap := h' } := I.turned (t' := s.toks) (fun b o hb e => (sb.2 b hb).trans e) f0 f1 f3 f4 f5
    have hS' : h'.get? S = some (lobj #[xu, ku] c) := (sb.2 S hSI).trans hS
    obtain ⟨oI, oI1, oI2, oI3⟩ := id hit'
    have I2 := pin2 I1 fS fI hS' (fun v z => by cases z) oI1 (fun v z => by rw [oI3] at z; cases z)
    show wpAny _ X.A.in1 (tryCatch (holding [yu] (call (.ref f) [yu])) _ >>= _) _ _ _
    refine wpAny_bind (wpAny_tryCatch (wpAny_holding (kf _ _ H m y ky yv yu _ _ I2 ((sb.2 f (Ne.symm hIf)).trans of) hfn hco st ey ry hky fun m2 H2 kyv kyu s2 I3 of2 hfn2 hco2 x2 st2 rky eky => ?_)))
    obtain ⟨I4, ⟨hS2, nS2⟩, ⟨hI2, nI2⟩⟩ := unpin2 I3
    have fS2 : FpOk X pins H2 S := ⟨nS2, fS.2⟩
    have fI2 : FpOk X pins H2 It := ⟨nI2, fI.2⟩
    have hit2 : s2.heap.IsTupleIter It a (j + 1) := ⟨oI, hI2, oI2, oI3⟩
    have ht2 := x2.tk a vs ht
    have ekb2 : Enc (gof u X) H2 m2 S0.length kb kv := x2.enc ekb
    have exb2 : Enc (gof u X) H2 m2 S0.length xb xv := x2.enc exb
    have ey2 : Enc (gof u X) H2 m2 S0.length y yv := x2.enc ey
    have ea2 : EncAll (gof u X) H2 m2 S0.length rest (vs.drop (j + 1)) := by
      rw [hdr]
      exact x2.encAll ea'
    have mky : ky ∈ kb :: ky :: kr := by simp
    obtain ⟨as, ra⟩ := Dp.reads I4 ky.py kyv _ (Enc.dp ky kyv (hko.2.2 ky mky) eky) rky
    obtain ⟨bs, rb⟩ := Dp.reads I4 kb.py kv _ (Enc.dp kb kv (hko.2.2 kb (by simp)) ekb2) rk
    have hdep := hko.2.1 ky mky
    show wpAny _ X.A.in1 (tryCatch (holding [yu, kyu] (richCompare .Gt kyu ku >>= _)) _ >>= _) _ _ _
    refine wpAny_bind (wpAny_tryCatch (wpAny_holding (wpAny_bind (PySem.W.rcGt_alike ky.py kb.py X.A.in1 s2 kyu ku as bs ra rb (hko.1 ky mky kb (by simp)) (keyOf_tup hky) (by rw [py_dep]; show X.A.units + 1 + _ < _; omega) _ _ _ _ ?_))))
    refine wpAny_bind (wpAny_holding (wpAny_truthy_bool ?_))
    refine wpAny_bind (wpAny_letGo (wpAny_pure ?_))
    have hname : (toString "max" ++ toString ".loop" : String) = "max.loop" := by decide
    cases hb : PySem.W.dataLt kb.py ky.py with
    | true =>
      simp only [if_true]
      refine wpAny_bind ?_
      refine wpAny_updateSeq hS2 rfl (wpAny_bind (wpAny_letGo ?_))
      rw [hname]
      obtain ⟨g0, g1, g2, g3, g4, g5⟩ := id fS2
      have I5 : L2.Inv X pins σ H2 { s2 with heap := s2.heap.update S (Obj.mapSeq fun _ => #[yu, kyu]) } := I4.turned (t' := s2.toks) (fun b o hb e => (Heap.get?_update_other _ _ (Ne.symm hb)).trans e) g0 g1 g3 g4 g5
      refine wpAny_pure ⟨plainId_quiet F.plain_max_loop _, max_loop kf hc hu hSI hSf hIf rest kr (j + 1) _ H2 m2 y ky yv kyv yu kyu _ hkr (hko.sub (fun a ha => List.mem_cons_of_mem _ ha)) I5 fS2 fI2 (Heap.get?_update_self _ hS2 rfl) ⟨oI, (Heap.get?_update_other _ _ hSI).trans hI2, oI2, oI3⟩ ht2 ea2 ey2 eky ry rky st2 (x0.trans x2) ((Heap.get?_update_other _ _ hSf).trans of2) hfn2 hco2 fun s' H' m' v u' q1 q2 q3 q4 q5 => hR s' H' m' v u' q1 q2 q3 q4 ?_⟩
      have e : maxFrom xb kb (y :: rest) (ky :: kr) = maxFrom y ky rest kr := by
        show (if PySem.W.dataLt kb.py ky.py then _ else _) = _
        rw [hb]
        rfl
      rw [e]
      exact q5
    | false =>
      simp only [Bool.false_eq_true, if_false]
      refine wpAny_bind (wpAny_letGo ?_)
      rw [hname]
      refine wpAny_pure ⟨plainId_quiet F.plain_max_loop _, max_loop kf hc hu hSI hSf hIf rest kr (j + 1) _ H2 m2 xb kb xv kv xu ku c hkr (hko.sub (fun a ha => (List.mem_cons.mp ha).elim (fun z => by rw [z]; exact List.mem_cons_self) (fun z => List.mem_cons_of_mem _ (List.mem_cons_of_mem _ z)))) I4 fS2 fI2 hS2 hit2 ht2 ea2 exb2 ekb2 rx rk st2 (x0.trans x2) of2 hfn2 hco2 fun s' H' m' v u' q1 q2 q3 q4 q5 => hR s' H' m' v u' q1 q2 q3 q4 ?_⟩
      have e : maxFrom xb kb (y :: rest) (ky :: kr) = maxFrom xb kb rest kr := by
        show (if PySem.W.dataLt kb.py ky.py then _ else _) = _
        rw [hb]
        rfl
      rw [e]
      exact q5
end
end Ev
-- EvS20
set_option Elab.async false
set_option linter.all false
set_option maxRecDepth 100000
set_option maxHeartbeats 4000000
/-! EvS20: max(xs, key=lambda x: ..), the expression. -/
namespace Ev
open PySem PySem.Spec PyProof.Rows L2
theorem bind1 {q : Str} {body : Expr} {scope : Scope} {pm ctv : Value} {c' : Addr} {ar : Arg} (x : Value) : bindArgs (PySem.W.kla_fn "<lambda>" q ⟨[], [ar], none, [], [], none, []⟩ body scope [] pm (.ref c') ctv) ⟨[x], []⟩ = pure [(ar.arg, x)] := by
  have e : ar.arg == ar.arg := beq_self_eq_true _
  unfold bindArgs
  simp [PySem.W.kla_fn, List.lookup]
  rw [show seqItems? Value.none = (pure none : Sem _) from rfl]
  simp [List.lookup]
section
variable {X : Cx} {u : Tb} {n : Nat} {W : WX}
theorem max_first {S0 : Store} {σ : L2.St} {f c' : Addr} {obj : Obj} (kf : KeyF X u S0 σ f c' obj) (hc : X.calm = true) (hu : X.A.units + 64 < cLine) {S It a : Addr} {vs : List V} (hSI : S ≠ It) (hSf : S ≠ f) (hIf : It ≠ f) {kw : List (Str × Value)} {R : Result → Shared → Prop} {pins : List (Addr × Obj)}
    {y ky : D} {rest kr : List D} {s : Shared} {H : Hp} {m : Nat → Addr} (hky : keyOf y = some ky) (hkr : keysOf rest = some kr) (hko : KOk (ky :: kr))
      (I : L2.Inv X pins σ H s) (fS : FpOk X pins H S) (fI : FpOk X pins H It) (hS : s.heap.get? S = some (lobj #[] 0)) (hit : s.heap.IsTupleIter It a 0) (ht : PlT (gof u X).K H a vs) (ea : EncAll (gof u X) H m S0.length (y :: rest) vs)
      (st : StRel (gof u X) S0 m H) (of : s.heap.get? f = some obj) (hfn : H f = none) (hco : H c' = some (LamX.CodeO c' (X.env.qual ++ "<lambda>")))
      (hR : ∀ s' H' m' v u', L2.Inv X pins σ H' s' → Ext (gof u X) S0 m H S0 m' H' → StRel (gof u X) S0 m' H' → RelV v u' → Enc (gof u X) H' m' S0.length (maxFrom y ky rest kr) v → R (.ok (.ret u')) s') :
      codeAny (model X.prog X.w) X.A (.builtin "max.loop" ⟨[.ref It, .ref f, .ref S], kw⟩) R s := by
  obtain ⟨its, rv, p, hz⟩ := I.tuple ht.sq
  have hd : X.A.in1.handled = none := I.ok.hd hc
  have hl := rv.length
  obtain ⟨yv, r, er, ey, ea'⟩ := ea
  have hjy : vs[0]? = some yv := by rw [er]; rfl
  obtain ⟨yu, hyu, ry⟩ := rv.get hjy
  refine codeAny_builtin F.entry_max_loop ?_
  rw [Around.under_plainId F.plain_max_loop _]
  show wpAny _ X.A.in1 (seqItems? (.ref S) >>= _) _ _ s
  refine wpAny_bind (wpAny_seqItems hS rfl ?_)
  show wpAny _ X.A.in1 (tryCatch (pyNext (.ref It)) _ >>= _) _ _ s
  refine wpAny_bind (wpAny_tryCatch (wpAny_pyNext_tuple_item hit (show s.heap.IsTuple a its.toArray from p) (x := yu) (by simpa using hyu) fun h' hit' sb => ?_))
  obtain ⟨f0, f1, f2, f3, f4, f5⟩ := id fI
  have I1 : L2.Inv X pins σ H { s with heap := h' } := I.turned (t' := s.toks) (fun b o hb e => (sb.2 b hb).trans e) f0 f1 f3 f4 f5
  have hS' : h'.get? S = some (lobj #[] 0) := (sb.2 S hSI).trans hS
  obtain ⟨oI, oI1, oI2, oI3⟩ := id hit'
  have I2 := pin2 I1 fS fI hS' (fun v z => by cases z) oI1 (fun v z => by rw [oI3] at z; cases z)
  show wpAny _ X.A.in1 (tryCatch (holding [yu] (call (.ref f) [yu])) _ >>= _) _ _ _
  refine wpAny_bind (wpAny_tryCatch (wpAny_holding (kf _ _ H m y ky yv yu _ _ I2 ((sb.2 f (Ne.symm hIf)).trans of) hfn hco st ey ry hky fun m2 H2 kyv kyu s2 I3 of2 hfn2 hco2 x2 st2 rky eky => ?_)))
  obtain ⟨I4, ⟨hS2, nS2⟩, ⟨hI2, nI2⟩⟩ := unpin2 I3
  have fS2 : FpOk X pins H2 S := ⟨nS2, fS.2⟩
  have fI2 : FpOk X pins H2 It := ⟨nI2, fI.2⟩
  have ea2 : EncAll (gof u X) H2 m2 S0.length rest (vs.drop 1) := by
    rw [er]
    exact x2.encAll ea'
  have hname : (toString "max" ++ toString ".loop" : String) = "max.loop" := by decide
  show wpAny _ X.A.in1 (updateSeq S (fun _ => #[yu, kyu]) >>= _) _ _ _
  refine wpAny_bind ?_
  refine wpAny_updateSeq hS2 rfl ?_
  rw [hname]
  obtain ⟨g0, g1, g2, g3, g4, g5⟩ := id fS2
  have I5 : L2.Inv X pins σ H2 { s2 with heap := s2.heap.update S (Obj.mapSeq fun _ => #[yu, kyu]) } := I4.turned (t' := s2.toks) (fun b o hb e => (Heap.get?_update_other _ _ (Ne.symm hb)).trans e) g0 g1 g3 g4 g5
  exact wpAny_pure ⟨plainId_quiet F.plain_max_loop _, max_loop kf hc hu hSI hSf hIf rest kr 1 _ H2 m2 y ky yv kyv yu kyu _ hkr hko I5 fS2 fI2 (Heap.get?_update_self _ hS2 rfl) ⟨oI, (Heap.get?_update_other _ _ hSI).trans hI2, oI2, oI3⟩ (x2.tk a vs ht) ea2 (x2.enc ey) eky ry rky st2 x2 ((Heap.get?_update_other _ _ hSf).trans of2) hfn2 hco2 hR⟩
theorem max_run {S0 : Store} {σ : L2.St} {f c' : Addr} {obj : Obj} (kf : KeyF X u S0 σ f c' obj) (hc : X.calm = true) (hu : X.A.units + 64 < cLine) {a : Addr} {vs : List V} {pins : List (Addr × Obj)} {E : Value → Shared → Prop} {Q : Value → Shared → Prop}
    {y ky : D} {rest kr : List D} {s : Shared} {H : Hp} {m : Nat → Addr} (hky : keyOf y = some ky) (hkr : keysOf rest = some kr) (hko : KOk (ky :: kr))
      (I : L2.Inv X pins σ H s) (ht : PlT (gof u X).K H a vs) (ea : EncAll (gof u X) H m S0.length (y :: rest) vs)
      (st : StRel (gof u X) S0 m H) (of : s.heap.get? f = some obj) (hfn : H f = none) (hco : H c' = some (LamX.CodeO c' (X.env.qual ++ "<lambda>")))
      (hR : ∀ s' H' m' v u', L2.Inv X pins σ H' s' → Ext (gof u X) S0 m H S0 m' H' → StRel (gof u X) S0 m' H' → RelV v u' → Enc (gof u X) H' m' S0.length (maxFrom y ky rest kr) v → Q u' s') :
      wpAny (model X.prog X.w) X.A (call (.builtin "max") [.ref a] [(Str.ofString "key", .ref f)]) Q E s := by
  have hname : (toString "max" ++ toString ".loop" : String) = "max.loop" := by decide
  obtain ⟨its, rv, p, hz⟩ := I.tuple ht.sq
  refine PyProof.Rows.kmk_tree F.kind_max F.plain_max F.entry_max (PyProof.Rows.kmk_max_key _ _) ?_
  show wpAny _ X.A.in1 (Builtin.Builtins.bindParams "max" ["key", "default"] 0 ⟨[], [(Str.ofString "key", .ref f)]⟩ >>= _) _ _ s
  refine wpAny_bind (wpAny_of_eq (show Builtin.Builtins.bindParams "max" ["key", "default"] 0 ⟨[], [(Str.ofString "key", .ref f)]⟩ = pure [some (.ref f), none] from rfl) ?_)
  refine wpAny_bind (wpAny_pure ?_)
  refine wpAny_bind (wpAny_pyIter_tuple (show s.heap.IsTuple a its.toArray from p) ?_)
  refine wpAny_bind (wpAny_newObj_type ?_)
  rw [hname]
  have hfl : f < s.heap.objs.size := Heap.lt_size of
  have I1 : L2.Inv X pins σ H { s with heap := s.heap.push { cls := .type "tuple_iterator", data := .fields #[.ref a, .int 0 0] } } := I.kept (t' := s.toks) fun b o e => Heap.get?_push_of_some _ e
  have hsz : (s.heap.push { cls := .type "tuple_iterator", data := .fields #[.ref a, .int 0 0] }).objs.size = s.heap.objs.size + 1 := Heap.size_push ..
  have fI := I.fpOk (b := s.heap.objs.size) (Nat.le_refl _) (I.hok.fresh (Nat.le_refl _))
  have fS := I.fpOk (b := s.heap.objs.size + 1) (Nat.le_succ _) (I.hok.fresh (Nat.le_succ _))
  have h2 : ∀ b o, s.heap.get? b = some o → ((s.heap.push { cls := .type "tuple_iterator", data := .fields #[.ref a, .int 0 0] }).push (lobj #[] 0)).get? b = some o := fun b o e => Heap.get?_push_of_some _ (Heap.get?_push_of_some _ e)
  have hSo : ((s.heap.push { cls := .type "tuple_iterator", data := .fields #[.ref a, .int 0 0] }).push (lobj #[] 0)).get? (s.heap.objs.size + 1) = some (lobj #[] 0) := by
    have z := Heap.get?_push_size (s.heap.push { cls := .type "tuple_iterator", data := .fields #[.ref a, .int 0 0] }) (o := lobj #[] 0) rfl
    rw [hsz] at z
    exact z
  refine wpAny_pure ⟨plainId_quiet F.plain_max_loop _, ?_⟩
  show codeAny _ _ (.builtin "max.loop" ⟨[.ref s.heap.objs.size, .ref f, .ref (s.heap.push { cls := .type "tuple_iterator", data := .fields #[.ref a, .int 0 0] }).objs.size], []⟩) _ _
  rw [hsz]
  exact max_first kf hc hu (Nat.succ_ne_self _) (Nat.ne_of_gt (Nat.lt_succ_of_lt hfl)) (Nat.ne_of_gt hfl) hky hkr hko (I.kept (t' := s.toks) h2) fS fI hSo ⟨_, Heap.get?_push_of_some _ (Heap.get?_push_size _ rfl), rfl, rfl⟩ ht ea st (h2 _ _ of) hfn hco hR
theorem pe_max {rE : Rc} (hE : SE u n rE) {z : Sc} (c : Cz u n z X W) (hl : z.lam = true) {o body : Expr} {E : Env → Store → R T} {ar : Arg} {scope : Scope} {p pos lpos kp : Pos} (ho : PE X o (RdE (gof u X) W E)) (hn : noStar o = true) (hg : Gl X "max") (hm : X.mg "max" = none) (hf : fsB ar.arg scope = true)
    (hb : rE ⟨[ar.arg], scope, fun _ => false, false⟩ body = some keyEx) :
    PE X (.Call (.Name "max" p) [o] [⟨some "key", .Lambda ⟨[], [ar], none, [], [], none, []⟩ body scope lpos, kp⟩] pos) (RdE (gof u X) W fun ρ S => (E ρ S).bind fun t S1 => opt (maxK t) S1) := by
  refine ⟨fun pins s σ H Q I h => ?_⟩
  obtain ⟨S, m, ρ, st, en, p'⟩ := h
  obtain ⟨r2, cc, P, tb1, tb2, tb3, tb4⟩ := c.lm hl
  have Sf := fs_by hf
  refine wpAny_Call_Name_kw (ld_blt I hg hm boot_max ?_ (by decide) (by decide))
  refine PyProof.Rows.callWith_kw ?_ (by rw [star_ok hn]; rfl) (by rw [star_ok hn]; rfl) (by rfl) (by rfl)
  rw [star_ok hn]
  show wpAny _ _ (spliced ((false, eval o X.env) :: backTo pos (starEach [] X.env))) _ _ s
  refine Calls.spliced_cons (thn (ho.run pins s σ H (fun v H1 => ∃ t S1 m1, Ext (gof u X) S m H S1 m1 H1 ∧ StRel (gof u X) S1 m1 H1 ∧ EncT (gof u X) H1 m1 S1.length t v ∧ Post (gof u X) W S1 m1 H1 σ (KE (gof u X) H Q) (opt (maxK t) S1)) I ⟨S, m, ρ, st, en, p'.bind.mono fun t S1 m1 H1 x1 st1 p1 v fv ev => ⟨t, S1, m1, x1, st1, ev, p1⟩⟩) fun x s1 ⟨v, H1, I1, rv, t, S1, m1, x1, st1, et, p1⟩ => ?_)
  refine Calls.spliced_nil ?_
  obtain ⟨res, e1, k1⟩ := Post.opt p1
  unfold maxK at e1
  split at e1
  · rename_i y rest
    split at e1
    · rename_i ky kr e2
      split at e1
      · rename_i hko
        cases e1
        obtain ⟨ky', kr', e3, hky, hkr⟩ := keysOf_cons e2
        cases e3
        obtain ⟨a, vs, rfl, ht, ea⟩ := et
        obtain rfl : x = Value.ref a := rv
        refine PyProof.Rows.kwAll_cons (LamX.lam_make2 I1 tb1 tb2 tb3 tb4 st1.tabs rfl (fun y hy e => absurd e (Sf.nofree y hy)) fun f c' pm ctv H2 s2 I2 eN T2 hf hfn hfr hco => PyProof.Rows.kwAll_nil ?_)
        rw [cloFrom_nf Sf.nofree] at hf
        obtain ⟨xN, stN⟩ := ext_N st1 eN T2
        refine max_run (key_ok (σ := σ) (S0 := S1) hE c.fx r2 Sf hfr hb (fun x => bind1 x)) c.c.calm c.c.un hky hkr (KOk.by hko) I2 (xN.tk a vs ht) (xN.encAll ea) stN hf hfn hco fun s' H' m' v u' q1 q2 q3 q4 q5 => ?_
        exact ⟨v, H', q1, q4, k1 m' H' (xN.trans q2) q3 v trivial q5⟩
      · cases e1
    · cases e1
  · cases e1
def cMax (u : Tb) (rE : Rc) (z : Sc) : Expr → Option Ex
  | .Call (.Name x p) [o] [⟨some kn, .Lambda ⟨[], [ar], none, [], [], none, []⟩ body scope lpos, kp⟩] pos =>
    if x = "max" ∧ kn = "key" ∧ z.lam = true ∧ glB z.sc x = true ∧ x ∈ u.blt ∧ fsB ar.arg scope = true ∧ noStar o = true then
      (match rE z o, rE ⟨[ar.arg], scope, fun _ => false, false⟩ body with
      | some y, some (.tup [.bi .sum [.ix (.v 0) (.c (.int 0))], .ix (.v 0) (.c (.int 0))]) => some (.maxk y)
      | _, _ => none) else none
  | _ => none
theorem cMax_ok {rE : Rc} (hE : SE u n rE) : SE u n (cMax u rE) := by
  intro z e x h X W c
  unfold cMax at h
  split at h
  · rename_i xn p o kn ar body scope lpos kp pos
    split at h
    · rename_i hq
      obtain ⟨rfl, rfl, q1, q2, q3, q4, q5⟩ := hq
      split at h
      · rename_i y e1 e2
        cases h
        exact pe_max hE c q1 (hE _ _ _ e1 _ _ c) q5 (gl_ok c q2) (c.fx.blt _ q3) q4 e2
      · cases h
    · cases h
  · cases h
/-- lambdas of this program -/
def Lall : LamC := fun u rE z e => orE (cNo u rE z e) (cMax u rE z e)
theorem Lall_ok : SL u n Lall := fun rE hE z e x h X W c => by
  rcases orE_some h with h | h
  · exact cNo_ok hE _ _ _ h _ _ c
  · exact cMax_ok hE _ _ _ h _ _ c
end
end Ev
-- EvS21
set_option Elab.async false
set_option linter.all false
set_option maxRecDepth 100000
set_option maxHeartbeats 4000000
/-! EvS21: all defs of a text. -/
namespace Ev
open PySem PySem.Spec PyProof.Rows L2
def locB (sc : Scope) (x : Str) : Bool := decide (sc.names.lookup x = some .local) || decide (sc.names.lookup x = some .cell)
abbrev lamQ (x : Str) : Str := (x ++ ".<locals>.") ++ "<lambda>"
/-- one def of the text, as compiled -/
structure DefK (u : Tb) (g : Gx) (i : Nat) (x : Str) : Prop where
  ex : ∃ (a : Addr) (params : Arguments) (body : List Stmt) (scope : Scope) (fd : FuncData) (N ps : List Str) (f : Fd) (k j : Nat) (lam : Bool), g.mg x = some (.ref a) ∧ FunD g.K x x params body scope [] [] a fd ∧ L2.Binds g.K fd ps [] ∧ FnScope N ps scope ∧ u.F[i]? = some f ∧ f.np = ps.length ∧ f.nn = N.length ∧
    cSs Lall u k ⟨N, scope, locB scope, lam⟩ j body = some f.body ∧ (lam = true → ∃ c P, fd.code = .ref c ∧ LamX.TabB g.base g.mg c P ∧ (P, lamQ x) ∈ u.T ∧ ∀ p ∈ u.T, p.1 = P → p.2 = lamQ x)
/-- what is known of the module's names -/
structure Stat (u : Tb) (g : Gx) : Prop where
  con : ∀ x d, (x, d) ∈ u.con → ∃ v w, cV d = some v ∧ g.mg x = some w ∧ L2.RelV v w
  blt : ∀ x ∈ u.blt, g.mg x = none
  exc : ∀ x ∈ u.exc, ∃ C, g.mg x = some (.ref C)
  exm : ∀ x ∈ u.exc, ∀ y ∈ u.exc, ∀ cx cy, g.mg x = some cx → g.mg y = some cy → PySem.W.exmOne g.K cx cy = some (decide (x = y))
  exr : ∀ x ∈ u.exr, x ∈ u.exc ∧ ∃ C, g.mg x = some (.ref C) ∧ PySem.W.excIn g.K C [.type "ValueError", .type "Exception", .type "BaseException", .type "object"] "ValueError.__new__" = true ∧ PySem.W.keepIn g.K (.ref C) = true ∧
    PySem.W.subIn g.K (.ref C) (.type "BaseException") = some true ∧ PySem.W.typeIn g.K (.ref C) = some (.type "type")
  no : ∀ x e, u.no = some (x, e) → e ∈ u.exc ∧ (x == ("__debug__" : Str)) = false ∧ (e == ("__debug__" : Str)) = false ∧ ∃ (g0 : Addr) (pg : Arguments) (sg : Scope) (dV kV doc pm cdv ct oc : Value) (an od : Option Addr) (osl : Array (Option Value)) (a : Str) (Ng : List Str) (p1 p2 p3 p4 p5 p6 p7 p8 p9 p10 : Pos) (j j' : Nat),
    g.mg x = some (.ref g0) ∧ PySem.W.keepIn g.K (.ref g0) = true ∧ PySem.W.codeIn g.K cdv x = true ∧ FnScope Ng [a] sg ∧ Ng[0]? = some a ∧ Vis sg a ∧ (a == ("__debug__" : Str)) = false ∧ (a == ("__classdict__" : Str)) = false ∧ sg.names.lookup e = some .globalImplicit ∧
    (let bg : List Stmt := [.Try [.Expr (.Call (.Name a p1) [] [] p2) p3, .Return (some (.Constant (.bool false) j p4)) p5] [.ExceptHandler (some (.Name e p6)) none [.Return (some (.Constant (.bool true) j' p7)) p8] p9] [] [] p10]
     g.K.lookup g0 = some ⟨oc, od, .func (PySem.W.fnOf x x pg bg sg dV kV doc pm an cdv ct), osl⟩ ∧ L2.Binds g.K (PySem.W.fnOf x x pg bg sg dV kV doc pm an cdv ct) [a] [])
section
variable {u : Tb} {P : Program} {w : World} {K : PySem.W.Frag} {mg : Str → Option Value} {base : Heap}
abbrev gxOf (u : Tb) (P : Program) (w : World) (K : PySem.W.Frag) (mg : Str → Option Value) (base : Heap) : Gx := ⟨P, w, K, mg, base, u.fnm, u.T, u.exc⟩
theorem fax_all (st : Stat u (gxOf u P w K mg base)) (D : ∀ i x, u.fnm[i]? = some x → DefK u (gxOf u P w K mg base) i x) : ∀ n, Fax u n (gxOf u P w K mg base)
  | 0 => ⟨fun i x h => by
      obtain ⟨a, params, body, scope, fd, N, ps, f, k, j, lam, h1, F, hb, S, hF, hp, hn, hc, hl⟩ := (D i x h).ex
      refine ⟨a, fd, ps, h1, F.kp, hb, ⟨fun vs H Q E q => (spF_len hF q).trans hp, fun A outer s H args us vs Q E hr e0 hb r hs => ?_⟩⟩
      obtain ⟨S0, m, ds, _, _, p⟩ := hs
      exact p.elim, st.con, st.blt, st.exc, st.exm, st.exr, st.no⟩
  | n + 1 => ⟨fun i x h => by
      have fx := fax_all st D n
      obtain ⟨a, params, body, scope, fd, N, ps, f, k, j, lam, h1, F, hb, S, hF, hp, hn, hc, hl⟩ := (D i x h).ex
      obtain ⟨oc, od, dV, kV, doc, pm, an, cdv, ct, osl, rfl, lk, hcd, _, _⟩ := F.ex
      refine ⟨a, _, ps, h1, F.kp, hb, ?_⟩
      show FnOk P w K mg base (CX P w) (3 * n + 2 + 1) a _ ps (spF (gxOf u P w K mg base) u.F i (n + 1))
      refine fn_of lk hcd S (fun vs H Q E q => (spF_len hF q).trans hp) fun A outer s H vs Q E hr hs => ?_
      have hr1 : Room (3 * n) (A.deeper (envOfC x scope s.heap.objs.size a cdv)) := hr.mono (by omega)
      refine ⟨_, ((s_ok (Lall_ok) j).2 _ _ hc (cxOf (CX P w) P w K mg base N x scope a cdv A outer s H E) (fun cls d _ H' => E cls d H') ⟨⟨⟨S.nd, (fun y hy => ?_), rfl, takes_of rfl rfl rfl rfl, passes_of rfl, hr1.units⟩, rfl, rfl, hr1, fx, fun hl1 => ?_⟩, rfl, rfl⟩ n), body_run (fun _ _ _ _ q => q) hF hn hs⟩
      · refine ⟨?_, .inl rfl⟩
        have hy' : locB scope y = true := hy
        unfold locB at hy'
        rw [Bool.or_eq_true, decide_eq_true_eq, decide_eq_true_eq] at hy'
        exact hy'
      · obtain ⟨c, P', q1, q2, q3, q4⟩ := hl hl1
        exact ⟨hr, c, P', q2, q1, q3, q4⟩, st.con, st.blt, st.exc, st.exm, st.exr, st.no⟩
end
end Ev
-- EvS22
set_option Elab.async false
set_option linter.all false
set_option maxRecDepth 100000
set_option maxHeartbeats 4000000
/-! EvS22: the end of a law, by what the evaluator gives. -/
namespace Ev
open PySem PySem.Spec PyProof.Rows L2
section
variable {u : Tb} {P : Program} {w : World} {K : PySem.W.Frag} {mg : Str → Option Value} {base : Heap}
theorem encInts {g : Gx} {H : Hp} {m : Nat → Addr} {n : Nat} : ∀ ns : List Int, EncAll g H m n (ns.map D.int) (ns.map V.int)
  | [] => EncAll.nil
  | i :: r => EncAll.cons rfl (encInts r)
/-- what the evaluator gives of a law at a script -/
def LawEv (F : List Fd) (n i : Nat) : Prop := ∀ ns : List Int, ns.length ≤ 63 → (∀ z ∈ ns, Builtin.Int.intBits z ≤ 1048576) → ∃ S', callN F n i [.ref 0] [.ro (ns.map D.int)] = .ok (.v (.bl true)) S'
def spX (K : PySem.W.Frag) (cs : List (Addr × Addr)) : Sp := fun vs H Q E => ∃ (a : Addr) (ns : List Int), vs = [V.ref a] ∧ ns.length ≤ 63 ∧ (∀ z ∈ ns, Builtin.Int.intBits z ≤ 1048576) ∧ SqL K H a (ns.map V.int) ∧ (∀ p ∈ cs, H p.2 = some (.tbl #[])) ∧ ∀ H', Q (.bl true) H'
theorem spF_law {n i : Nat} (hL : LawEv u.F n i) {cs : List (Addr × Addr)} (hc : ∀ q ∈ u.T, ∃ p ∈ cs, p.2 = q.1) {a : Addr} {ns : List Int} {H : Hp} (h1 : ns.length ≤ 63) (h2 : ∀ z ∈ ns, Builtin.Int.intBits z ≤ 1048576)
    (hS : (∃ o, H a = some (.frz o (.lst (ns.map V.int)))) ∨ SqL K (fun _ => none) a (ns.map V.int)) (hT : ∀ p ∈ cs, H p.2 = some (.tbl #[])) :
    spF (gxOf u P w K mg base) u.F i n [.ref a] H (fun v _ => v = .bl true) (fun _ _ _ => False) := by
  obtain ⟨S', e⟩ := hL ns h1 h2
  refine ⟨[.ro (ns.map D.int)], fun _ => a, [.ref 0], ⟨fun i j hi hj li lj _ => ?_, ⟨_, rfl⟩, fun k xs e => ?_, fun k c e => ?_, fun q hq => ?_⟩, EncAll.cons ⟨Nat.one_pos, rfl⟩ EncAll.nil, ?_⟩
  · have : i < 1 := li
    omega
  · cases k with
    | zero => rfl
    | succ k => cases e
  · cases k with
    | zero =>
      cases e
      exact ⟨_, hS, encInts ns⟩
    | succ k => cases e
  · obtain ⟨p, hp, e1⟩ := hc q hq
    have z := hT p hp
    rw [e1] at z
    exact LamX.TabS.nil z
  · rw [e]
    exact fun m' H' x st v fv ev => ev
theorem law_run {n i k : Nat} {fa : Addr} {fd : FuncData} {x : Str} (hL : LawEv u.F n i) {cs : List (Addr × Addr)} (hc : ∀ q ∈ u.T, ∃ p ∈ cs, p.2 = q.1) (Fn : FnOk P w K mg base (L2.CX P w) k fa fd [x] (spF (gxOf u P w K mg base) u.F i n)) :
    FnOk P w K mg base (L2.CX P w) k fa fd [x] (spX K cs) := by
  refine ⟨fun vs H Q E ⟨a, ns, e, _⟩ => by rw [e]; rfl, fun A outer s H args us vs Q E hr e0 hb r ⟨a, ns, e, h1, h2, hS, hT, hQ⟩ => ?_⟩
  subst e
  have core : ∀ H2 : Hp, Env0 P w K mg base A outer s H2 → ((∃ o, H2 a = some (.frz o (.lst (ns.map V.int)))) ∨ SqL K (fun _ => none) a (ns.map V.int)) → (∀ p ∈ cs, H2 p.2 = some (.tbl #[])) →
      codeAny (model P w) A (.call (.ref fa) args) (CR (L2.CX P w) outer P w H2 s (fun v _ => v = .bl true) (fun _ _ _ => False)) s := fun H2 e2 q1 q2 => Fn.run A outer s H2 args us [.ref a] _ _ hr e2 hb r (spF_law hL hc h1 h2 q1 q2)
  have fin : ∀ H2 : Hp, (∀ H' s', Un (frs outer) [] H2 H' s.heap s' → Un (frs outer) [] H H' s.heap s') → ∀ r s', CR (L2.CX P w) outer P w H2 s (fun v _ => v = .bl true) (fun _ _ _ => False) r s' → CR (L2.CX P w) outer P w H s Q E r s' := fun H2 hu r s' h => by
    cases r with
    | error e =>
      obtain ⟨_, _, _, _, _, _, _, _, _, _, _, _, z⟩ := (show L2.CX P w outer H2 s (fun _ _ _ => False) e s' from h)
      exact z.elim
    | ok fl =>
      cases fl with
      | ret u =>
        obtain ⟨v, H', os, bare, un, hok, rv, q⟩ := (show CE outer P w H2 s (fun v _ => v = .bl true) u s' from h)
        subst q
        exact ⟨_, H', os, bare, hu H' s'.heap un, hok, rv, hQ H'⟩
      | next => exact False.elim h
      | brk => exact False.elim h
      | cont => exact False.elim h
  rcases hS with (hl | hl) | hl
  · obtain ⟨z, its, c0, rv, ho⟩ : ObjOk P w H s.heap a (.lst (ns.map V.int)) := e0.hok a _ hl
    have ne : ∀ {b u}, H b = some u → u ≠ .lst (ns.map V.int) → b ≠ a := fun {b u} e hn z => by
      rw [z, hl] at e
      exact hn (Option.some.inj e).symm
    have nn : ∀ {b}, H b = none → b ≠ a := fun {b} e z => by
      rw [z, hl] at e
      cases e
    have he : Env0 P w K mg base A outer s (upd H a (.frz { cls := .type "list", data := .seq its.toArray c0 } (.lst (ns.map V.int)))) := by
      refine ⟨e0.frames, e0.mod, fun b o e => ?_, e0.bsz, e0.funs, fun b hb => ?_, fun b u e => ?_, e0.bare⟩
      · obtain ⟨q1, q2⟩ := e0.bs b o e
        exact ⟨q1, by rw [upd_ne (nn q2)]; exact q2⟩
      · have q := e0.frf b hb
        rw [upd_ne (nn q)]
        exact q
      · have ow : ∀ c d, H c = some (.own d) → upd H a (.frz { cls := .type "list", data := .seq its.toArray c0 } (.lst (ns.map V.int))) c = some (.own d) := fun c d q => by
          rw [upd_ne (ne q (fun z => by cases z))]
          exact q
        have tp : ∀ c xs, H c = some (.tup xs) → upd H a (.frz { cls := .type "list", data := .seq its.toArray c0 } (.lst (ns.map V.int))) c = some (.tup xs) := fun c d q => by
          rw [upd_ne (ne q (fun z => by cases z))]
          exact q
        by_cases hb : b = a
        · rw [hb, upd_same] at e
          cases e
          rw [hb]
          exact ⟨ho, z, its, c0, rv, ho⟩
        · rw [upd_ne hb] at e
          exact (e0.hok b u e).stay (fun _ _ _ q => q) (fun c q => ow c b q) tp
    refine codeAny_mono (core _ he (.inl ⟨_, upd_same⟩) fun p hp => ?_) (fin _ fun H' s' un => ?_)
    · rw [upd_ne (ne (hT p hp) (fun z => by cases z))]
      exact hT p hp
    · have k0 : ∀ {b}, H b = none → upd H a (.frz { cls := .type "list", data := .seq its.toArray c0 } (.lst (ns.map V.int))) b = none := fun {b} q => by
        rw [upd_ne (nn q)]
        exact q
      refine ⟨fun b o e n => un.keep b o e (k0 n), fun b o e n => un.slot b o e (k0 n), fun b o e n => un.free b o e (k0 n), un.there, fun b xs e => un.tups b xs ?_, fun b o u e => un.frzs b o u ?_, fun b ps e => un.tbls b ps ?_⟩
      · rw [upd_ne (ne e (fun z => by cases z))]
        exact e
      · rw [upd_ne (ne e (fun z => by cases z))]
        exact e
      · rw [upd_ne (ne e (fun z => by cases z))]
        exact e
  · exact codeAny_mono (core H e0 (.inl hl) hT) (fin H fun _ _ q => q)
  · exact codeAny_mono (core H e0 (.inr (.inr hl)) hT) (fin H fun _ _ q => q)
end
end Ev
-- EvS23
set_option Elab.async false
set_option linter.all false
set_option maxRecDepth 100000
set_option maxHeartbeats 4000000
/-! EvS23: one def, by its own function object. -/
namespace Ev
open PySem PySem.Spec PyProof.Rows L2
theorem def_fn {u : Tb} {P : Program} {w : World} {K : PySem.W.Frag} {mg : Str → Option Value} {base : Heap} {n i : Nat} {x : Str} (fx : Fax u n (gxOf u P w K mg base)) {a : Addr} {params : Arguments} {body : List Stmt} {scope : Scope} {fd : FuncData} {N ps : List Str} {f : Fd} {k j : Nat} {lam : Bool}
    (F : FunD K x x params body scope [] [] a fd) (S : FnScope N ps scope) (hF : u.F[i]? = some f) (hp : f.np = ps.length) (hn : f.nn = N.length) (hc : cSs Lall u k ⟨N, scope, locB scope, lam⟩ j body = some f.body)
    (hl : lam = true → ∃ c P, fd.code = .ref c ∧ LamX.TabB base mg c P ∧ (P, lamQ x) ∈ u.T ∧ ∀ p ∈ u.T, p.1 = P → p.2 = lamQ x) : FnOk P w K mg base (L2.CX P w) (3 * n + 2 + 1) a fd ps (spF (gxOf u P w K mg base) u.F i (n + 1)) := by
  obtain ⟨oc, od, dV, kV, doc, pm, an, cdv, ct, osl, rfl, lk, hcd, _, _⟩ := F.ex
  refine fn_of lk hcd S (fun vs H Q E q => (spF_len hF q).trans hp) fun A outer s H vs Q E hr hs => ?_
  have hr1 : Room (3 * n) (A.deeper (envOfC x scope s.heap.objs.size a cdv)) := hr.mono (by omega)
  refine ⟨_, ((s_ok (Lall_ok) j).2 _ _ hc (cxOf (L2.CX P w) P w K mg base N x scope a cdv A outer s H E) (fun cls d _ H' => E cls d H') ⟨⟨⟨S.nd, (fun y hy => ?_), rfl, takes_of rfl rfl rfl rfl, passes_of rfl, hr1.units⟩, rfl, rfl, hr1, fx, fun hl1 => ?_⟩, rfl, rfl⟩ n), body_run (fun _ _ _ _ q => q) hF hn hs⟩
  · refine ⟨?_, .inl rfl⟩
    have hy' : locB scope y = true := hy
    unfold locB at hy'
    rw [Bool.or_eq_true, decide_eq_true_eq, decide_eq_true_eq] at hy'
    exact hy'
  · obtain ⟨c, P', q1, q2, q3, q4⟩ := hl hl1
    exact ⟨hr, c, P', q2, q1, q3, q4⟩
end Ev
-- F64
set_option Elab.async false
set_option linter.all false
set_option maxRecDepth 100000
set_option maxHeartbeats 4000000
/-! F64: the defs of law k64, as compiled. -/
namespace K64
open PySem Ev
def f_is_integer : Fd := ⟨1, 1,
  [St.ret (Ex.and [Ex.bi Bi.isInt [Ex.v 0], (Ex.bi Bi.isBool [Ex.v 0]).not])]⟩
def f_is_count : Fd := ⟨1, 1,
  [St.ret (Ex.and [Ex.call 0 [Ex.v 0], Ex.cmp Cm.ge (Ex.v 0) (Ex.c (D.int 0))])]⟩
def f_is_small : Fd := ⟨1, 3,
  [St.asg (Tg.v 1) (Ex.bin Op2.pow (Ex.c (D.int 10)) (Ex.c (D.int 50))),
    St.for (Tg.v 2) (Ex.bi Bi.range [Ex.c (D.int 3)]) [St.asg (Tg.v 1) (Ex.bin Op2.mul (Ex.v 1) (Ex.v 1))],
    St.ret (Ex.chn Cm.lt Cm.lt (Ex.bin Op2.sub (Ex.c (D.int 0)) (Ex.v 1)) (Ex.v 0) (Ex.v 1))]⟩
def f_tidied : Fd := ⟨2, 5,
  [St.ite (Ex.bi Bi.all [Ex.lc [3] (Ex.cmp Cm.eq (Ex.bi Bi.len [Ex.v 3]) (Ex.v 1)) (Tg.v 3) (Ex.v 0) []]).not
      [St.raise0 "Nothing"] [],
    St.asg (Tg.v 2)
      (Ex.bi Bi.tuple
        [Ex.bi Bi.sorted
            [Ex.lc [3, 4] (Ex.tup [Ex.v 3, Ex.v 4]) (Tg.tup [Tg.v 3, Tg.v 4]) (Ex.me Me.items (Ex.v 0) [])
                [Ex.cmp Cm.ne (Ex.v 4) (Ex.c (D.int 0))]]]),
    St.ite
      (Ex.cmp Cm.gt (Ex.bi Bi.len [Ex.v 2])
        (Ex.gc "MOST_TERMS" (D.int 400)))
      [St.raise "" []] [],
    St.ite
      (Ex.bi Bi.all
          [Ex.lc [3, 4] (Ex.and [Ex.call 2 [Ex.v 4], Ex.call 2 [Ex.bi Bi.sum [Ex.v 3]]]) (Tg.tup [Tg.v 3, Tg.v 4])
              (Ex.v 2) []]).not
      [St.raise "" []] [],
    St.ret (Ex.v 2)]⟩
def f_number : Fd := ⟨2, 2,
  [St.ret (Ex.call 3 [(Ex.bin Op2.mul (Ex.tup [Ex.c (D.int 0)]) (Ex.v 1)).dT1 (Ex.v 0), Ex.v 1])]⟩
def f_count_of : Fd := ⟨2, 2,
  [St.ite (Ex.or [(Ex.call 1 [Ex.v 0]).not, Ex.cmp Cm.ge (Ex.v 0) (Ex.v 1)])
      [St.raise0 "Nothing"] [],
    St.ret
      (Ex.tup
        [Ex.tup
            [Ex.bin Op2.add
                (Ex.bin Op2.add (Ex.bin Op2.mul (Ex.tup [Ex.c (D.int 0)]) (Ex.v 0))
                  (Ex.tup [Ex.c (D.int 1)]))
                (Ex.bin Op2.mul (Ex.tup [Ex.c (D.int 0)])
                  (Ex.bin Op2.sub (Ex.bin Op2.sub (Ex.v 1) (Ex.v 0)) (Ex.c (D.int 1)))),
              Ex.c (D.int 1)]])]⟩
def f_pots_of : Fd := ⟨2, 3,
  [St.for (Tg.v 2) (Ex.tup [Ex.v 0, Ex.v 1])
      [St.ite (Ex.cmp Cm.ne (Ex.v 2) (Ex.tup []))
          [St.ret (Ex.bi Bi.len [((Ex.v 2).ix (Ex.c (D.int 0))).ix (Ex.c (D.int 0))])] []],
    St.ret (Ex.c D.non)]⟩
def f_plus : Fd := ⟨2, 5,
  [St.asg (Tg.v 2) (Ex.bi Bi.dict [Ex.v 0]),
    St.for (Tg.tup [Tg.v 3, Tg.v 4]) (Ex.v 1)
      [St.seti (Ex.v 2) (Ex.v 3)
          (Ex.bin Op2.add (Ex.me Me.get2 (Ex.v 2) [Ex.v 3, Ex.c (D.int 0)]) (Ex.v 4))],
    St.ret (Ex.call 3 [Ex.v 2, Ex.call 6 [Ex.v 0, Ex.v 1]])]⟩
def f_negative : Fd := ⟨1, 3,
  [St.ret (Ex.bi Bi.tuple [Ex.lc [1, 2] (Ex.tup [Ex.v 1, (Ex.v 2).neg]) (Tg.tup [Tg.v 1, Tg.v 2]) (Ex.v 0) []])]⟩
def f_minus : Fd := ⟨2, 2,
  [St.ret (Ex.call 7 [Ex.v 0, Ex.call 8 [Ex.v 1]])]⟩
def f_times : Fd := ⟨2, 10,
  [St.ite
      (Ex.and
        [Ex.cmp Cm.ne (Ex.v 0) (Ex.tup []), Ex.cmp Cm.ne (Ex.v 1) (Ex.tup []),
          Ex.cmp Cm.ne (Ex.bi Bi.len [((Ex.v 0).ix (Ex.c (D.int 0))).ix (Ex.c (D.int 0))])
            (Ex.bi Bi.len [((Ex.v 1).ix (Ex.c (D.int 0))).ix (Ex.c (D.int 0))])])
      [St.raise0 "Nothing"] [],
    St.asg (Tg.v 2) Ex.dT0,
    St.for (Tg.tup [Tg.v 3, Tg.v 4]) (Ex.v 0)
      [St.for (Tg.tup [Tg.v 5, Tg.v 6]) (Ex.v 1)
          [St.asg (Tg.v 7)
              (Ex.bi Bi.tuple
                [Ex.lc [8, 9] (Ex.bin Op2.add (Ex.v 8) (Ex.v 9)) (Tg.tup [Tg.v 8, Tg.v 9])
                    (Ex.bi Bi.zip [Ex.v 3, Ex.v 5]) []]),
            St.seti (Ex.v 2) (Ex.v 7)
              (Ex.bin Op2.add (Ex.me Me.get2 (Ex.v 2) [Ex.v 7, Ex.c (D.int 0)])
                (Ex.bin Op2.mul (Ex.v 4) (Ex.v 6)))]],
    St.ret (Ex.call 3 [Ex.v 2, Ex.call 6 [Ex.v 0, Ex.v 1]])]⟩
def f_falling : Fd := ⟨1, 6,
  [St.asg (Tg.v 1) (Ex.bi Bi.len [Ex.v 0]), St.asg (Tg.v 2) (Ex.call 4 [Ex.c (D.int 1), Ex.v 1]),
    St.for (Tg.tup [Tg.v 3, Tg.v 4]) (Ex.bi Bi.enum [Ex.v 0])
      [St.for (Tg.v 5) (Ex.bi Bi.range [Ex.v 4])
          [St.asg (Tg.v 2) (Ex.call 10 [Ex.v 2, Ex.call 9 [Ex.call 5 [Ex.v 3, Ex.v 1], Ex.call 4 [Ex.v 5, Ex.v 1]]])]],
    St.ret (Ex.v 2)]⟩
def f_weight_of_side : Fd := ⟨2, 2,
  [St.ret (Ex.call 10 [Ex.call 4 [Ex.v 1, Ex.bi Bi.len [Ex.v 0]], Ex.call 11 [Ex.v 0]])]⟩
def f_side_of : Fd := ⟨2, 4,
  [St.ite (Ex.cmp Cm.eq (Ex.v 0) (Ex.tup [])) [St.ret (Ex.c D.non)] [], St.asg (Tg.tup [Tg.v 2, Tg.v 3]) (Ex.v 0).maxk,
    St.ite
      (Ex.or
        [Ex.cmp Cm.lt (Ex.v 3) (Ex.c (D.int 1)), Ex.cmp Cm.ne (Ex.bi Bi.len [Ex.v 2]) (Ex.v 1),
          Ex.cmp Cm.gt (Ex.bi Bi.sum [Ex.v 2])
            (Ex.gc "MOST_TAKEN" (D.int 8))])
      [St.ret (Ex.c D.non)] [],
    St.try1 [St.ret ((Ex.cmp Cm.eq (Ex.v 0) (Ex.call 12 [Ex.v 2, Ex.v 3])).ife (Ex.tup [Ex.v 2, Ex.v 3]) (Ex.c D.non))]
      "TooLarge" [St.ret (Ex.c D.non)]]⟩
def f_shift_of : Fd := ⟨3, 4,
  [St.asg (Tg.v 3) (Ex.call 9 [Ex.v 0, Ex.call 5 [Ex.v 1, Ex.v 2]]),
    St.ite (Ex.cmp Cm.eq (Ex.v 3) (Ex.tup [])) [St.ret (Ex.c (D.int 0))] [],
    St.ret
      ((Ex.and
            [Ex.cmp Cm.eq (Ex.bi Bi.len [Ex.v 3]) (Ex.c (D.int 1)),
              Ex.cmp Cm.eq (((Ex.v 3).ix (Ex.c (D.int 0))).ix (Ex.c (D.int 0)))
                (Ex.bin Op2.mul (Ex.tup [Ex.c (D.int 0)]) (Ex.v 2))]).ife
        (((Ex.v 3).ix (Ex.c (D.int 0))).ix (Ex.c (D.int 1))) (Ex.c D.non))]⟩
def f_worth_at : Fd := ⟨2, 9,
  [St.asg (Tg.v 2) (Ex.c (D.int 0)),
    St.for (Tg.tup [Tg.v 3, Tg.v 4]) (Ex.v 0)
      [St.asg (Tg.v 5) (Ex.v 4),
        St.for (Tg.tup [Tg.v 6, Tg.v 7]) (Ex.bi Bi.zip [Ex.v 3, Ex.v 1])
          [St.for (Tg.v 8) (Ex.bi Bi.range [Ex.v 6]) [St.aug 5 Op2.mul (Ex.v 7)]],
        St.aug 2 Op2.add (Ex.v 5)],
    St.ret (Ex.v 2)]⟩
def f__law_bag : Fd := ⟨1, 2,
  [St.ret
      (Ex.lst
        [Ex.c (D.int 0), Ex.c (D.int 1234567891), Ex.c (D.int 0),
          Ex.lc [1] (Ex.bi Bi.abs [Ex.v 1]) (Tg.v 1)
            (Ex.sl false true (Ex.v 0) (Ex.c D.non) (Ex.c (D.int 63))) []])]⟩
def f__law_take : Fd := ⟨2, 7,
  [St.ite (Ex.cmp Cm.eq ((Ex.v 0).ix (Ex.c (D.int 0))) (Ex.c (D.int 0)))
      [St.asg (Tg.v 2)
          ((Ex.bin Op2.add
                (Ex.sl true false ((Ex.v 0).ix (Ex.c (D.int 3))) ((Ex.v 0).ix (Ex.c (D.int 2)))
                  (Ex.c D.non))
                (Ex.lst [Ex.c (D.int 0)])).ix
            (Ex.c (D.int 0))),
        St.augi (Ex.v 0) (Ex.c (D.int 2)) Op2.add (Ex.c (D.int 1)),
        St.ite (Ex.cmp Cm.ge (Ex.v 2) (Ex.bin Op2.pow (Ex.c (D.int 10)) (Ex.c (D.int 18))))
          [St.seti (Ex.v 0) (Ex.c (D.int 0)) (Ex.v 2)] [],
        St.asg (Tg.v 3)
          (Ex.bin Op2.add
            (Ex.bin Op2.add (Ex.bin Op2.mul ((Ex.v 0).ix (Ex.c (D.int 1))) (Ex.c (D.int 48271)))
              (Ex.bin Op2.mod (Ex.bi Bi.int [Ex.v 2]) (Ex.c (D.int 2147483647))))
            (Ex.bin Op2.mul (Ex.c (D.int 7919)) ((Ex.v 0).ix (Ex.c (D.int 2))))),
        St.seti (Ex.v 0) (Ex.c (D.int 1))
          (Ex.bin Op2.mod (Ex.bi Bi.int [Ex.v 3]) (Ex.c (D.int 2147483647)))]
      [],
    St.ite (Ex.cmp Cm.gt ((Ex.v 0).ix (Ex.c (D.int 0))) (Ex.c (D.int 0)))
      [St.asg (Tg.v 4) (Ex.bin Op2.mod (Ex.bi Bi.int [(Ex.v 0).ix (Ex.c (D.int 0))]) (Ex.v 1)),
        St.seti (Ex.v 0) (Ex.c (D.int 0))
          (Ex.bin Op2.fdiv (Ex.bi Bi.int [(Ex.v 0).ix (Ex.c (D.int 0))]) (Ex.v 1)),
        St.ret (Ex.v 4)]
      [],
    St.asg (Tg.v 5)
      (Ex.bin Op2.mod
        (Ex.bi Bi.int
          [Ex.bin Op2.mul (Ex.bin Op2.add ((Ex.v 0).ix (Ex.c (D.int 1))) (Ex.c (D.int 1)))
              (Ex.c (D.int 39373))])
        (Ex.c (D.int 1000000007))),
    St.asg (Tg.v 6)
      (Ex.bin Op2.mod
        (Ex.bi Bi.int
          [Ex.bin Op2.mul
              (Ex.bin Op2.mod (Ex.bi Bi.int [Ex.bin Op2.mul (Ex.v 5) (Ex.v 5)]) (Ex.c (D.int 998244353)))
              (Ex.c (D.int 30011))])
        (Ex.c (D.int 998244353))),
    St.ret (Ex.bin Op2.mod (Ex.bi Bi.int [Ex.bin Op2.fdiv (Ex.v 6) (Ex.c (D.int 7))]) (Ex.v 1))]⟩
def f__law_weights : Fd := ⟨2, 9,
  [St.asg (Tg.v 2) (Ex.lst []),
    St.for (Tg.tup [Tg.v 3, Tg.v 4, Tg.v 5]) (Ex.v 0)
      [St.for (Tg.tup [Tg.v 6, Tg.v 7]) (Ex.bi Bi.zip [Ex.v 3, Ex.v 1])
          [St.for (Tg.v 8) (Ex.bi Bi.range [Ex.v 6])
              [St.asg (Tg.v 5)
                  (Ex.bin Op2.mul (Ex.v 5)
                    (Ex.bi Bi.max2 [Ex.bin Op2.sub (Ex.v 7) (Ex.v 8), Ex.c (D.int 0)]))]],
        St.app (Ex.v 2) (Ex.v 5)],
    St.ret (Ex.v 2)]⟩
def f__law_poly : Fd := ⟨2, 7,
  [St.asg (Tg.v 2) Ex.dT0,
    St.for (Tg.v 3) (Ex.bi Bi.range [Ex.call 17 [Ex.v 0, Ex.c (D.int 5)]])
      [St.asg (Tg.v 4)
          (Ex.bi Bi.tuple
            [Ex.lc [5] (Ex.call 17 [Ex.v 0, Ex.c (D.int 3)]) (Tg.v 5) (Ex.bi Bi.range [Ex.v 1]) []]),
        St.seti (Ex.v 2) (Ex.v 4)
          (Ex.bin Op2.sub (Ex.call 17 [Ex.v 0, Ex.c (D.int 9)]) (Ex.c (D.int 4)))],
    St.ret
      (Ex.bi Bi.tuple
        [Ex.bi Bi.sorted
            [Ex.lc [4, 6] (Ex.tup [Ex.v 4, Ex.v 6]) (Tg.tup [Tg.v 4, Tg.v 6]) (Ex.me Me.items (Ex.v 2) [])
                [Ex.cmp Cm.ne (Ex.v 6) (Ex.c (D.int 0))]]])]⟩
def f__law_at : Fd := ⟨2, 8,
  [St.asg (Tg.v 2) (Ex.c (D.int 0)),
    St.for (Tg.tup [Tg.v 3, Tg.v 4]) (Ex.v 0)
      [St.for (Tg.tup [Tg.v 5, Tg.v 6]) (Ex.bi Bi.zip [Ex.v 3, Ex.v 1])
          [St.for (Tg.v 7) (Ex.bi Bi.range [Ex.v 5]) [St.asg (Tg.v 4) (Ex.bin Op2.mul (Ex.v 4) (Ex.v 6))]],
        St.asg (Tg.v 2) (Ex.bin Op2.add (Ex.v 2) (Ex.v 4))],
    St.ret (Ex.v 2)]⟩
def f_law : Fd := ⟨1, 20,
  [St.asg (Tg.v 1) (Ex.call 16 [Ex.v 0]),
    St.for (Tg.v 2) (Ex.bi Bi.range [Ex.c (D.int 4)])
      [St.asg (Tg.v 3) (Ex.bin Op2.add (Ex.c (D.int 1)) (Ex.call 17 [Ex.v 1, Ex.c (D.int 4)])),
        St.asg (Tg.tup [Tg.v 4, Tg.v 5]) (Ex.tup [Ex.call 19 [Ex.v 1, Ex.v 3], Ex.call 19 [Ex.v 1, Ex.v 3]]),
        St.asg (Tg.v 6)
          (Ex.lst
            [Ex.call 7 [Ex.v 4, Ex.v 5], Ex.call 9 [Ex.v 4, Ex.v 5], Ex.call 10 [Ex.v 4, Ex.v 5], Ex.call 8 [Ex.v 4]]),
        St.for (Tg.v 7) (Ex.bi Bi.range [Ex.c (D.int 4)])
          [St.asg (Tg.v 8)
              (Ex.bi Bi.tuple
                [Ex.lc [15] (Ex.call 17 [Ex.v 1, Ex.c (D.int 6)]) (Tg.v 15) (Ex.bi Bi.range [Ex.v 3]) []]),
            St.par 9 10 (Ex.call 20 [Ex.v 4, Ex.v 8]) (Ex.call 20 [Ex.v 5, Ex.v 8]),
            St.ite
              (Ex.or
                [Ex.cmp Cm.ne (Ex.lc [11] (Ex.call 15 [Ex.v 11, Ex.v 8]) (Tg.v 11) (Ex.v 6) [])
                    (Ex.lst
                      [Ex.bin Op2.add (Ex.v 9) (Ex.v 10), Ex.bin Op2.sub (Ex.v 9) (Ex.v 10),
                        Ex.bin Op2.mul (Ex.v 9) (Ex.v 10), (Ex.v 9).neg]),
                  Ex.cmp Cm.ne (Ex.call 15 [Ex.v 4, Ex.v 8]) (Ex.v 9)])
              [St.ret (Ex.c (D.bl false))] []],
        St.for (Tg.v 11) (Ex.v 6)
          [St.ite
              (Ex.or
                [Ex.cmp Cm.ne (Ex.bi Bi.list [Ex.v 11]) (Ex.bi Bi.sorted [Ex.v 11]),
                  Ex.cmp Cm.ne
                    (Ex.lc [18, 19] (Ex.c (D.int 1)) (Tg.tup [Tg.v 18, Tg.v 19]) (Ex.v 11)
                      [Ex.or
                          [Ex.cmp Cm.eq (Ex.v 19) (Ex.c (D.int 0)),
                            Ex.cmp Cm.ne (Ex.bi Bi.len [Ex.v 18]) (Ex.v 3)]])
                    (Ex.lst []),
                  Ex.cmp Cm.lt (Ex.bi Bi.len [Ex.bi Bi.dict [Ex.v 11]]) (Ex.bi Bi.len [Ex.v 11])])
              [St.ret (Ex.c (D.bl false))] []],
        St.ite
          (Ex.or
            [Ex.cmp Cm.ne (Ex.call 9 [Ex.v 4, Ex.v 4]) (Ex.tup []),
              Ex.cmp Cm.ne (Ex.call 7 [Ex.v 4, Ex.call 4 [Ex.c (D.int 0), Ex.v 3]]) (Ex.v 4),
              Ex.cmp Cm.ne (Ex.call 10 [Ex.v 4, Ex.call 4 [Ex.c (D.int 1), Ex.v 3]]) (Ex.v 4),
              Ex.cmp Cm.ne (Ex.call 8 [Ex.call 8 [Ex.v 4]]) (Ex.v 4)])
          [St.ret (Ex.c (D.bl false))] [],
        St.par 12 13
          (Ex.bi Bi.tuple
            [Ex.lc [15] (Ex.call 17 [Ex.v 1, Ex.c (D.int 3)]) (Tg.v 15) (Ex.bi Bi.range [Ex.v 3]) []])
          (Ex.bin Op2.add (Ex.c (D.int 1)) (Ex.call 17 [Ex.v 1, Ex.c (D.int 9)])),
        St.asg (Tg.v 14) (Ex.call 12 [Ex.v 12, Ex.v 13]),
        St.ite
          (Ex.or
            [Ex.cmp Cm.ne (Ex.call 13 [Ex.v 14, Ex.v 3]) (Ex.tup [Ex.v 12, Ex.v 13]),
              Ex.cmp Cm.ne (Ex.call 10 [Ex.call 11 [Ex.v 12], Ex.call 4 [Ex.v 13, Ex.v 3]]) (Ex.v 14),
              Ex.cmp Cm.noN (Ex.call 13 [Ex.tup [], Ex.v 3]) (Ex.c D.non)])
          [St.ret (Ex.c (D.bl false))] [],
        St.asg (Tg.v 8)
          (Ex.bi Bi.tuple
            [Ex.lc [15] (Ex.call 17 [Ex.v 1, Ex.c (D.int 5)]) (Tg.v 15) (Ex.bi Bi.range [Ex.v 3]) []]),
        St.ite
          (Ex.or
            [Ex.cmp Cm.ne (Ex.call 15 [Ex.v 14, Ex.v 8])
                ((Ex.call 18 [Ex.tup [Ex.tup [Ex.v 12, Ex.v 12, Ex.v 13]], Ex.v 8]).ix (Ex.c (D.int 0))),
              Ex.cmp Cm.noN (Ex.call 13 [Ex.call 8 [Ex.v 14], Ex.v 3]) (Ex.c D.non)])
          [St.ret (Ex.c (D.bl false))] [],
        St.ite
          (Ex.and
            [Ex.cmp Cm.noN (Ex.call 13 [Ex.call 7 [Ex.v 14, Ex.call 4 [Ex.c (D.int 1), Ex.v 3]], Ex.v 3])
                (Ex.c D.non),
              Ex.cmp Cm.gt (Ex.bi Bi.sum [Ex.v 12]) (Ex.c (D.int 0))])
          [St.ret (Ex.c (D.bl false))] [],
        St.par 15 16 (Ex.call 17 [Ex.v 1, Ex.v 3])
          (Ex.bin Op2.sub (Ex.call 17 [Ex.v 1, Ex.c (D.int 9)]) (Ex.c (D.int 4))),
        St.asg (Tg.v 17) (Ex.call 7 [Ex.call 5 [Ex.v 15, Ex.v 3], Ex.call 4 [Ex.v 16, Ex.v 3]]),
        St.ite
          (Ex.or
            [Ex.cmp Cm.ne (Ex.call 14 [Ex.v 17, Ex.v 15, Ex.v 3]) (Ex.v 16),
              Ex.cmp Cm.noN (Ex.call 14 [Ex.call 10 [Ex.v 17, Ex.v 17], Ex.v 15, Ex.v 3]) (Ex.c D.non)])
          [St.ret (Ex.c (D.bl false))] [],
        St.ite (Ex.isNo "Nothing" (Ex.call 5 [Ex.v 3, Ex.v 3])).not
          [St.ret (Ex.c (D.bl false))] [],
        St.ite
          (Ex.and
            [Ex.cmp Cm.ne (Ex.v 4) (Ex.tup []),
              (Ex.isNo "Nothing"
                  (Ex.call 7
                    [Ex.v 4,
                      Ex.call 4
                        [Ex.c (D.int 1), Ex.bin Op2.add (Ex.v 3) (Ex.c (D.int 1))]])).not])
          [St.ret (Ex.c (D.bl false))] []],
    St.ret (Ex.c (D.bl true))]⟩
def F : List Fd := [f_is_integer, f_is_count, f_is_small, f_tidied, f_number, f_count_of, f_pots_of, f_plus, f_negative, f_minus, f_times, f_falling, f_weight_of_side, f_side_of, f_shift_of, f_worth_at, f__law_bag, f__law_take, f__law_weights, f__law_poly, f__law_at, f_law]
def n_is_integer : List Str := ["thing"]
def n_is_count : List Str := ["thing"]
def n_is_small : List Str := ["integer", "most", "_lap"]
def n_tidied : List Str := ["terms", "pots", "found", "powers", "factor"]
def n_number : List Str := ["told", "pots"]
def n_count_of : List Str := ["pot", "pots"]
def n_pots_of : List Str := ["one", "other", "told"]
def n_plus : List Str := ["one", "other", "terms", "powers", "factor"]
def n_negative : List Str := ["one", "powers", "factor"]
def n_minus : List Str := ["one", "other"]
def n_times : List Str := ["one", "other", "terms", "powers", "factor", "more", "its", "both", "power", "its_power"]
def n_falling : List Str := ["taken", "pots", "found", "pot", "many", "back"]
def n_weight_of_side : List Str := ["taken", "rate"]
def n_side_of : List Str := ["told", "pots", "powers", "rate"]
def n_shift_of : List Str := ["told", "pot", "pots", "rest"]
def n_worth_at : List Str := ["told", "counts", "found", "powers", "factor", "term", "power", "count", "_time"]
def n__law_bag : List Str := ["script", "cell"]
def n__law_take : List Str := ["bag", "many", "cell", "stirred", "value", "first", "second"]
def n__law_weights : List Str := ["turns", "stand", "found", "first", "second", "rate", "many", "count", "k"]
def n__law_poly : List Str := ["bag", "pots", "terms", "k", "powers", "pot", "factor"]
def n__law_at : List Str := ["poly", "counts", "found", "powers", "factor", "power", "count", "k"]
def n_law : List Str := ["script", "bag", "lap", "pots", "one", "other", "told", "turn", "counts", "mine", "its", "poly", "taken", "rate", "weight", "pot", "shift", "moved", "powers", "factor"]
end K64
-- L1
set_option Elab.async false
set_option linter.all false
set_option maxRecDepth 100000
set_option maxHeartbeats 4000000
/-! L1: the evaluator's equations, for simp. -/
namespace Ev
open PySem PySem.Spec PyProof.Rows L2
section
variable {n : Nat} {C : Calls} {ρ : Env} {S : Store}
@[simp] theorem bind_ok {α β : Type} (a : α) (f : α → Store → R β) : (R.ok a S).bind f = f a S := rfl
@[simp] theorem bind_exc {α β : Type} (x : Xc) (f : α → Store → R β) : (R.exc x S).bind f = .exc x S := rfl
@[simp] theorem thenS_ok {α : Type} (a : α) (f : α → Store → SR) : thenS (.ok a S) ρ f = f a S := rfl
@[simp] theorem thenS_exc {α : Type} (x : Xc) (f : α → Store → SR) : thenS (.exc x S) ρ f = .exc x ρ S := rfl
@[simp] theorem seqS_nx (f : Env → Store → SR) : seqS (.ok .nx ρ S) f = f ρ S := rfl
@[simp] theorem seqS_rt (t : T) (f : Env → Store → SR) : seqS (.ok (.rt t) ρ S) f = .ok (.rt t) ρ S := rfl
@[simp] theorem seqS_exc (x : Xc) (f : Env → Store → SR) : seqS (.exc x ρ S) f = .exc x ρ S := rfl
@[simp] theorem opt_some {α : Type} (a : α) : opt (some a) S = .ok a S := rfl
@[simp] theorem svs_nil : svs n C [] ρ S = .ok .nx ρ S := rfl
@[simp] theorem svs_cons (s : St) (r : List St) : svs n C (s :: r) ρ S = seqS (sv n C s ρ S) (fun ρ1 S1 => svs n C r ρ1 S1) := rfl
@[simp] theorem sv_ret (e : Ex) : sv n C (.ret e) ρ S = thenS ((ev C e).E ρ S) ρ fun t S1 => .ok (.rt t) ρ S1 := rfl
@[simp] theorem sv_asg (tg : Tg) (e : Ex) : sv n C (.asg tg e) ρ S = thenS (((ev C e).E ρ S).bind mat) ρ fun d S1 => (match asg tg d ρ with
    | some ρ' => .ok .nx ρ' S1
    | none => .bad) := rfl
@[simp] theorem sv_ite (t : Ex) (a b : List St) : sv n C (.ite t a b) ρ S = thenS ((ev C t).B ρ S) ρ fun k S1 => if k then svs n C a ρ S1 else svs n C b ρ S1 := rfl
@[simp] theorem sv_for (tg : Tg) (it : Ex) (body : List St) : sv n C (.for tg it body) ρ S = thenS ((ev C it).I ρ S) ρ fun w S1 => unlockS w.2 (loopS (fun x ρ1 S2 => match asg tg x ρ1 with
        | some ρ2 => svs n C body ρ2 S2
        | none => .bad) w.1 ρ (lockO S1 w.2 true)) := rfl
@[simp] theorem sv_seti (o i e : Ex) : sv n C (.seti o i e) ρ S = thenS (((ev C e).E ρ S).bind mat) ρ fun d S1 => thenS (((ev C o).E ρ S1).bind fun to S2 => ((ev C i).E ρ S2).bind fun ti S3 => optS (setF to ti d S3)) ρ fun _ S4 => .ok .nx ρ S4 := rfl
@[simp] theorem sv_aug (i : Nat) (o : Op2) (e : Ex) : sv n C (.aug i o e) ρ S = (match ρ[i]? with
    | some (some d) => thenS (((ev C e).E ρ S).bind fun t S1 => opt (aug2 o (.v d) t) S1) ρ fun d' S1 => .ok .nx (ρ.set i (some d')) S1
    | _ => .bad) := rfl
@[simp] theorem sv_raise0 (x : Str) : sv n C (.raise0 x) ρ S = .exc ⟨x, []⟩ ρ S := rfl
@[simp] theorem sv_par (i j : Nat) (a b : Ex) : sv n C (.par i j a b) ρ S = thenS (evM [ev C a, ev C b] ρ S) ρ fun ds S1 => (match ds with
    | [x, y] => if i < ρ.length ∧ j < ρ.length then .ok .nx ((ρ.set i (some x)).set j (some y)) S1 else .bad
    | _ => .bad) := rfl
@[simp] theorem ev_c (d : D) : (ev C (.c d)).E ρ S = .ok (.v d) S := rfl
@[simp] theorem ev_gc (x : Str) (d : D) : (ev C (.gc x d)).E ρ S = .ok (.v d) S := rfl
@[simp] theorem ev_v (i : Nat) : (ev C (.v i)).E ρ S = (match ρ[i]? with
    | some (some d) => .ok (.v d) S
    | _ => .bad) := rfl
@[simp] theorem ev_tup (es : List Ex) : (ev C (.tup es)).E ρ S = (evM (evs C es) ρ S).bind fun ds S1 => if ds.length ≤ lim then .ok (.v (.tup ds)) S1 else .bad := rfl
@[simp] theorem ev_lst (es : List Ex) : (ev C (.lst es)).E ρ S = (evM (evs C es) ρ S).bind fun ds S1 => if ds.length ≤ lim then .ok (.l ds) S1 else .bad := rfl
@[simp] theorem ev_dT0 : (ev C .dT0).E ρ S = .ok (.t []) S := rfl
@[simp] theorem ev_dT1 (k v : Ex) : (ev C (.dT1 k v)).E ρ S = ((ev C k).E ρ S).bind fun tk S1 => (mat tk S1).bind fun dk S2 => ((ev C v).E ρ S2).bind fun tv S3 => (mat tv S3).bind fun dv S4 => if dk.isKey then .ok (.t [(dk, dv)]) S4 else .bad := rfl
@[simp] theorem ev_bin (o : Op2) (a b : Ex) : (ev C (.bin o a b)).E ρ S = ((ev C a).E ρ S).bind fun ta S1 => ((ev C b).E ρ S1).bind fun tb S2 => opt (bin2 o ta tb S2) S2 := rfl
@[simp] theorem ev_neg (a : Ex) : (ev C (.neg a)).E ρ S = ((ev C a).E ρ S).bind fun ta S1 => (match ta with
    | .v (.int i) => .ok (.v (.int (-i))) S1
    | _ => .bad) := rfl
@[simp] theorem ev_notB (a : Ex) : (ev C (.not a)).B ρ S = ((ev C a).B ρ S).bind fun k S1 => .ok (!k) S1 := rfl
@[simp] theorem ev_not (a : Ex) : (ev C (.not a)).E ρ S = (((ev C a).B ρ S).bind fun k S1 => .ok (!k) S1).bind fun k S1 => .ok (.v (.bl k)) S1 := rfl
@[simp] theorem ev_and (es : List Ex) : (ev C (.and es)).E ρ S = evAnd (evs C es) ρ S := rfl
@[simp] theorem ev_andB (es : List Ex) : (ev C (.and es)).B ρ S = evC (evs C es) ρ S := rfl
@[simp] theorem ev_or (es : List Ex) : (ev C (.or es)).E ρ S = evOr (evs C es) ρ S := rfl
@[simp] theorem ev_orB (es : List Ex) : (ev C (.or es)).B ρ S = evO (evs C es) ρ S := rfl
@[simp] theorem ev_cmpB (o : Cm) (a b : Ex) : (ev C (.cmp o a b)).B ρ S = ((ev C a).E ρ S).bind fun ta S1 => ((ev C b).E ρ S1).bind fun tb S2 => opt (cmp2 o ta tb S2) S2 := rfl
@[simp] theorem ev_cmp (o : Cm) (a b : Ex) : (ev C (.cmp o a b)).E ρ S = (((ev C a).E ρ S).bind fun ta S1 => ((ev C b).E ρ S1).bind fun tb S2 => opt (cmp2 o ta tb S2) S2).bind fun k S1 => .ok (.v (.bl k)) S1 := rfl
@[simp] theorem ev_chn (o o' : Cm) (a b c : Ex) : (ev C (.chn o o' a b c)).E ρ S = (((ev C a).E ρ S).bind fun ta S1 => ((ev C b).E ρ S1).bind fun tb S2 => (opt (cmp2 o ta tb S2) S2).bind fun k S3 =>
      if k then ((ev C c).E ρ S3).bind fun tc S4 => opt (cmp2 o' tb tc S4) S4 else .ok false S3).bind fun k S1 => .ok (.v (.bl k)) S1 := rfl
@[simp] theorem ev_ife (t a b : Ex) : (ev C (.ife t a b)).E ρ S = ((ev C t).B ρ S).bind fun k S1 => if k then (ev C a).E ρ S1 else (ev C b).E ρ S1 := rfl
@[simp] theorem ev_ix (a i : Ex) : (ev C (.ix a i)).E ρ S = ((ev C a).E ρ S).bind fun ta S1 => ((ev C i).E ρ S1).bind fun ti S2 => opt (getF ta ti S2) S2 := rfl
@[simp] theorem ev_sl (bl bh : Bool) (a lo hi : Ex) : (ev C (.sl bl bh a lo hi)).E ρ S = ((ev C a).E ρ S).bind fun ta S1 => (evP bl (ev C lo).E ρ S1).bind fun l S2 => (evP bh (ev C hi).E ρ S2).bind fun h S3 => opt (slice ta l h S3) S3 := rfl
@[simp] theorem ev_call (f : Nat) (es : List Ex) : (ev C (.call f es)).E ρ S = fin S.length ((evM (evs C es) ρ S).bind fun ds S1 => C f ds S1) := rfl
@[simp] theorem ev_bi (b : Bi) (es : List Ex) : (ev C (.bi b es)).E ρ S = (evTs (evs C es) ρ S).bind fun ts S1 => opt (biF b ts S1) S1 := rfl
@[simp] theorem ev_biI (b : Bi) (es : List Ex) : (ev C (.bi b es)).I ρ S = (evTs (evs C es) ρ S).bind fun ts S1 => if isIt b then opt (itF b ts S1) S1 else (opt (biF b ts S1) S1).bind fun t S2 => opt (itQ t S2) S2 := rfl
@[simp] theorem ev_me (m : Me) (o : Ex) (es : List Ex) : (ev C (.me m o es)).E ρ S = ((ev C o).E ρ S).bind fun t S1 => if rcv m t S1 then (evTs (evs C es) ρ S1).bind fun ts S2 => meF m t ts S2 else .bad := rfl
@[simp] theorem ev_lc (own : List Nat) (elt : Ex) (tg : Tg) (it : Ex) (conds : List Ex) : (ev C (.lc own elt tg it conds)).E ρ S = evL own (ev C elt) tg (ev C it) (evs C conds) ρ S := rfl
@[simp] theorem ev_maxk (o : Ex) : (ev C (.maxk o)).E ρ S = ((ev C o).E ρ S).bind fun t S1 => opt (maxK t) S1 := rfl
@[simp] theorem evs_nil : evs C [] = [] := rfl
@[simp] theorem evs_cons (e : Ex) (es : List Ex) : evs C (e :: es) = ev C e :: evs C es := rfl
@[simp] theorem evM_nil : evM [] ρ S = .ok [] S := rfl
@[simp] theorem evM_cons' (e : Sm) (es : List Sm) : evM (e :: es) ρ S = (e.E ρ S).bind fun t S1 => (mat t S1).bind fun d S2 => (evM es ρ S2).bind fun ds S3 => .ok (d :: ds) S3 := rfl
@[simp] theorem evTs_nil : evTs [] ρ S = .ok [] S := rfl
@[simp] theorem evTs_cons (e : Sm) (es : List Sm) : evTs (e :: es) ρ S = (e.E ρ S).bind fun t S1 => (evTs es ρ S1).bind fun ts S2 => .ok (t :: ts) S2 := rfl
@[simp] theorem evC_nil : evC [] ρ S = .ok true S := rfl
@[simp] theorem evC_cons (e : Sm) (es : List Sm) : evC (e :: es) ρ S = (e.B ρ S).bind fun k S1 => if k then evC es ρ S1 else .ok false S1 := rfl
@[simp] theorem evO_nil : evO [] ρ S = .ok false S := rfl
@[simp] theorem evO_cons (e : Sm) (es : List Sm) : evO (e :: es) ρ S = (e.B ρ S).bind fun k S1 => if k then .ok true S1 else evO es ρ S1 := rfl
@[simp] theorem mat_v (d : D) : mat (.v d) S = .ok d S := rfl
@[simp] theorem mat_l (xs : List D) : mat (.l xs) S = .ok (.ref S.length) (S ++ [.lst false xs]) := rfl
@[simp] theorem mat_t (kvs : List (D × D)) : mat (.t kvs) S = .ok (.ref S.length) (S ++ [.dT false kvs]) := rfl
end
/-- the end of a def's body -/
def fin0 : SR → R T
  | .ok .nx _ S1 => .ok (.v .non) S1
  | .ok (.rt t) _ S1 => .ok t S1
  | .exc x _ S1 => .exc x S1
  | _ => .bad
@[simp] theorem fin0_nx (ρ : Env) (S : Store) : fin0 (.ok .nx ρ S) = .ok (.v .non) S := rfl
@[simp] theorem fin0_rt (t : T) (ρ : Env) (S : Store) : fin0 (.ok (.rt t) ρ S) = .ok t S := rfl
@[simp] theorem fin0_exc (x : Xc) (ρ : Env) (S : Store) : fin0 (.exc x ρ S) = .exc x S := rfl
theorem callN_at {F : List Fd} {n i : Nat} {fd : Fd} {ds : List D} {S : Store} (hf : F[i]? = some fd) (hl : ds.length = fd.np) : callN F (n + 1) i ds S = fin0 (svs n (callN F n) fd.body (startE fd.nn ds) S) := by
  show (match F[i]? with | some fd => runF n (callN F n) fd ds S | none => .bad) = _
  rw [hf]
  show runF n (callN F n) fd ds S = _
  unfold runF
  rw [if_pos hl]
  cases svs n (callN F n) fd.body (startE fd.nn ds) S with
  | ok f r s => cases f <;> rfl
  | exc => rfl
  | bad => rfl
/-- a well-formed store -/
def WS (S : Store) : Prop := (S.all fun c => c.bnd S.length) = true
mutual
theorem bnd_pure (n : Nat) : ∀ d : D, d.pure = true → d.bnd n = true
  | .non, _ => rfl
  | .bl _, _ => rfl
  | .int _, _ => rfl
  | .str _, _ => rfl
  | .tup xs, h => bnds_pure n xs h
  | .ref _, h => by cases h
  | .fn _, h => by cases h
theorem bnds_pure (n : Nat) : ∀ ds : List D, D.pures ds = true → D.bnds n ds = true
  | [], _ => rfl
  | x :: xs, h => by
    have h' : (x.pure && D.pures xs) = true := h
    rw [Bool.and_eq_true] at h'
    show (x.bnd n && D.bnds n xs) = true
    rw [bnd_pure n x h'.1, bnds_pure n xs h'.2]
    rfl
end
theorem fin_v {S G : Store} {d : D} (h : WS S) (hp : d.pure = true) : fin S.length (.ok (.v d) (S ++ G)) = .ok (.v d) S := by
  have e : fresh S.length (.v d) (S ++ G) = .v d := by
    cases d <;> first | rfl | cases hp
  show (if (fresh S.length (.v d) (S ++ G)).bnd S.length && oldOk S.length (S ++ G) then R.ok (fresh S.length (.v d) (S ++ G)) ((S ++ G).take S.length) else .ok (.v d) (S ++ G)) = _
  rw [e, List.take_left]
  have o : oldOk S.length (S ++ G) = true := by
    unfold oldOk
    rw [List.take_left]
    exact h
  have b : (T.v d).bnd S.length = true := bnd_pure _ d hp
  rw [b, o]
  rfl
theorem fin_v0 {S : Store} {d : D} (h : WS S) (hp : d.pure = true) : fin S.length (.ok (.v d) S) = .ok (.v d) S := by
  have z := fin_v (G := []) h hp
  rwa [List.append_nil] at z
theorem fin_exc {S G : Store} {x : Str} (h : WS S) : fin S.length (R.exc ⟨x, []⟩ (S ++ G) : R T) = .exc ⟨x, []⟩ S := by
  have o : oldOk S.length (S ++ G) = true := by
    unfold oldOk
    rw [List.take_left]
    exact h
  show (if D.bnds S.length [] && oldOk S.length (S ++ G) then R.exc ⟨x, []⟩ ((S ++ G).take S.length) else R.exc ⟨x, []⟩ (S ++ G)) = _
  rw [o, List.take_left]
  rfl
/-- a def gives plain data, and leaves the store but for what is new -/
def Gv (F : List Fd) (n i : Nat) (ds : List D) (d : D) : Prop := ∀ S, WS S → ∃ G, callN F n i ds S = .ok (.v d) (S ++ G)
theorem Gv.call {F : List Fd} {n i : Nat} {ds : List D} {d : D} (g : Gv F n i ds d) (hp : d.pure = true) {S : Store} (h : WS S) : fin S.length (callN F n i ds S) = .ok (.v d) S := by
  obtain ⟨G, e⟩ := g S h
  rw [e, fin_v h hp]
theorem Gv.id {F : List Fd} {n i : Nat} {ds : List D} {d : D} (h : ∀ S, WS S → callN F n i ds S = .ok (.v d) S) : Gv F n i ds d := fun S w => ⟨[], by rw [List.append_nil]; exact h S w⟩
theorem WS.push {S : Store} {c : Cell} (h : WS S) (hc : c.bnd S.length = true) (hm : ∀ (c : Cell) (a b : Nat), a ≤ b → c.bnd a = true → c.bnd b = true) : WS (S ++ [c]) := by
  unfold WS
  rw [List.all_append, Bool.and_eq_true, List.length_append]
  refine ⟨List.all_eq_true.mpr fun x hx => hm x _ _ (Nat.le_add_right _ _) (List.all_eq_true.mp h x hx), ?_⟩
  rw [List.all_cons, hm c _ _ (Nat.le_add_right _ _) hc]
  rfl
end Ev
namespace K64
open PySem Ev
def big : Int := 10 ^ 400
def small (i : Int) : Bool := if -big < i then decide (i < big) else false
theorem t_small (n : Nat) (i : Int) (S : Store) : callN F (n + 1) 2 [.int i] S = .ok (.v (.bl (small i))) S := by
  rw [callN_at (fd := f_is_small) rfl rfl]
  have e1 : svs n (callN F n) f_is_small.body (startE f_is_small.nn [.int i]) S = seqS (thenS ((ev (callN F n) (Ex.chn Cm.lt Cm.lt (Ex.bin Op2.sub (Ex.c (D.int 0)) (Ex.v 1)) (Ex.v 0) (Ex.v 1))).E [some (.int i), some (.int big), some (.int 2)] S) [some (.int i), some (.int big), some (.int 2)] fun t S1 => .ok (.rt t) [some (.int i), some (.int big), some (.int 2)] S1) (fun ρ1 S1 => .ok .nx ρ1 S1) := by
    kernel_rfl
  have e2 : (ev (callN F n) (Ex.chn Cm.lt Cm.lt (Ex.bin Op2.sub (Ex.c (D.int 0)) (Ex.v 1)) (Ex.v 0) (Ex.v 1))).E [some (.int i), some (.int big), some (.int 2)] S = ((R.ok (decide (0 - big < i)) S).bind fun k S3 => if k then R.ok (decide (i < big)) S3 else .ok false S3).bind fun k S1 => R.ok (T.v (.bl k)) S1 := by
    kernel_rfl
  rw [e1, e2]
  have e3 : (0 : Int) - big = -big := by omega
  rw [e3]
  unfold small
  by_cases h : -big < i
  · rw [if_pos h, decide_eq_true h]
    rfl
  · rw [if_neg h, decide_eq_false h]
    rfl
end K64
-- L2
set_option Elab.async false
set_option linter.all false
set_option maxRecDepth 100000
set_option maxHeartbeats 4000000
/-! L2: polynomials as data; tidied. -/
namespace K64
open PySem Ev
abbrev Mon := List Nat
abbrev Trm := Mon × Int
def nD (n : Nat) : D := .int n
def mD (m : Mon) : D := .tup (m.map nD)
def tD (t : Trm) : D := .tup [mD t.1, .int t.2]
def pD (p : List Trm) : D := .tup (p.map tD)
def kD (p : List Trm) : List (D × D) := p.map fun t => (mD t.1, .int t.2)
theorem pures_map {α : Type} {f : α → D} (h : ∀ a, (f a).pure = true) : ∀ l : List α, D.pures (l.map f) = true
  | [] => rfl
  | a :: l => by
    show ((f a).pure && D.pures (l.map f)) = true
    rw [h a, pures_map h l]
    rfl
theorem mD_pure (m : Mon) : (mD m).pure = true := pures_map (f := nD) (fun _ => rfl) m
theorem tD_pure (t : Trm) : (tD t).pure = true := by
  show ((mD t.1).pure && (true && true)) = true
  rw [mD_pure]
  rfl
theorem pD_pure (p : List Trm) : (pD p).pure = true := pures_map tD_pure p
theorem deps_map {α : Type} {f : α → D} {k : Nat} (h : ∀ a, (f a).dep ≤ k) : ∀ l : List α, D.deps (l.map f) ≤ k
  | [] => Nat.zero_le _
  | a :: l => by
    show max (f a).dep (D.deps (l.map f)) ≤ k
    exact Nat.max_le.mpr ⟨h a, deps_map h l⟩
theorem mD_key (m : Mon) : (mD m).isKey = true := by
  show (D.pures (m.map nD) && decide (D.deps (m.map nD) ≤ 7)) = true
  rw [pures_map (f := nD) (fun _ => rfl) m, decide_eq_true (deps_map (f := nD) (k := 7) (fun _ => Nat.zero_le 7) m)]
  rfl
theorem mD_dep (m : Mon) : (mD m).dep ≤ 1 := Nat.succ_le_succ (deps_map (f := nD) (fun _ => Nat.le_refl 0) m)
theorem tD_dep (t : Trm) : (tD t).dep ≤ 2 := by
  have h := mD_dep t.1
  show max (mD t.1).dep (max 0 0) + 1 ≤ 2
  omega
/-! ### order -/
def leM (a b : Trm) : Bool := leD (tD a) (tD b)
def insM (x : Trm) : List Trm → List Trm
  | [] => [x]
  | y :: ys => if leM x y then x :: y :: ys else y :: insM x ys
def srt (p : List Trm) : List Trm := p.foldr insM []
theorem insM_map (x : Trm) : ∀ l : List Trm, insD (tD x) (l.map tD) = (insM x l).map tD
  | [] => rfl
  | y :: ys => by
    show (if leD (tD x) (tD y) then tD x :: tD y :: ys.map tD else tD y :: insD (tD x) (ys.map tD)) = (if leM x y then x :: y :: ys else y :: insM x ys).map tD
    rw [insM_map x ys]
    unfold leM
    split <;> rfl
theorem srt_map : ∀ l : List Trm, sortD (l.map tD) = (srt l).map tD
  | [] => rfl
  | x :: l => by
    show insD (tD x) (sortD (l.map tD)) = (insM x (srt l)).map tD
    rw [srt_map l, insM_map]
theorem leM_total (a b : Trm) : leM a b = true ∨ leM b a = true := leD_total.total _ _
theorem leM_trans (a b c : Trm) (h : leM a b = true) (h' : leM b c = true) : leM a c = true := leD_total.trans _ _ _ h h'
theorem toks_inj : ∀ (a b : Mon) (x y : List (Int ⊕ List Nat)), PySem.W.keyToksAll (D.pys (a.map nD)) ++ x = PySem.W.keyToksAll (D.pys (b.map nD)) ++ y → a = b ∧ x = y
  | [], [], x, y, h => ⟨rfl, by simpa [D.pys, PySem.W.keyToksAll] using h⟩
  | [], b :: bs, x, y, h => by simp [D.pys, PySem.W.keyToksAll] at h
  | a :: as, [], x, y, h => by simp [D.pys, PySem.W.keyToksAll] at h
  | a :: as, b :: bs, x, y, h => by
    simp [D.pys, PySem.W.keyToksAll, PySem.W.keyToks, nD, D.py] at h
    obtain ⟨h1, h2⟩ := h
    obtain ⟨h3, h4⟩ := toks_inj as bs x y h2
    exact ⟨by rw [show a = b by omega, h3], h4⟩
theorem leM_anti {a b : Trm} (h : leM a b = true) (h' : leM b a = true) : a = b := by
  have e : PySem.W.keyToks (tD a).py = PySem.W.keyToks (tD b).py := by
    refine PyProof.Rows.lex_total (O := PyProof.Rows.itemOrd) _ _ ?_ ?_
    · have z : (!PyProof.Rows.lexLt PyProof.Rows.itemOrd (PySem.W.keyToks (tD a).py) (PySem.W.keyToks (tD b).py)) = true := h'
      rwa [Bool.not_eq_true'] at z
    · have z : (!PyProof.Rows.lexLt PyProof.Rows.itemOrd (PySem.W.keyToks (tD b).py) (PySem.W.keyToks (tD a).py)) = true := h
      rwa [Bool.not_eq_true'] at z
  have e2 : PySem.W.keyToksAll (D.pys (a.1.map nD)) ++ [.inl 1, .inl a.2, .inl 0] = PySem.W.keyToksAll (D.pys (b.1.map nD)) ++ [.inl 1, .inl b.2, .inl 0] := by
    simpa [tD, mD, D.py, D.pys, PySem.W.keyToks, PySem.W.keyToksAll] using e
  obtain ⟨h1, h2⟩ := toks_inj _ _ _ _ e2
  have h3 : a.2 = b.2 := by simpa using h2
  exact Prod.ext h1 h3
theorem alike_mD : ∀ a b : Mon, PySem.W.alikeAll (D.pys (a.map nD)) (D.pys (b.map nD)) = true
  | [], _ => by simp [D.pys, PySem.W.alikeAll]
  | _ :: _, [] => by simp [D.pys, PySem.W.alikeAll]
  | a :: as, b :: bs => by
    simp [D.pys, PySem.W.alikeAll, nD, D.py, PySem.W.alike]
    exact alike_mD as bs
theorem sortable_pD (p : List Trm) (h : p.length ≤ lim) : sortable (p.map tD) = true := by
  unfold sortable
  rw [Bool.and_eq_true, Bool.and_eq_true, Bool.and_eq_true, Bool.and_eq_true]
  refine ⟨⟨⟨⟨pD_pure p, ?_⟩, ?_⟩, ?_⟩, ?_⟩
  · rw [List.all_eq_true]
    intro x hx
    rw [List.all_eq_true]
    intro y hy
    obtain ⟨a, _, rfl⟩ := List.mem_map.mp hx
    obtain ⟨b, _, rfl⟩ := List.mem_map.mp hy
    simp [tD, mD, D.py, D.pys, PySem.W.alike, PySem.W.alikeAll, alike_mD]
  · rw [decide_eq_true_eq]
    exact Nat.le_trans (deps_map (f := tD) tD_dep p) (by decide)
  · rw [decide_eq_true_eq, List.length_map]
    exact h
  · rw [Bool.or_eq_true]
    left
    rw [List.all_eq_true]
    intro x hx
    obtain ⟨a, _, rfl⟩ := List.mem_map.mp hx
    rfl
end K64
-- L3
set_option Elab.async false
set_option linter.all false
set_option maxRecDepth 100000
set_option maxHeartbeats 4000000
/-! L3: loops; tidied. -/
namespace Ev
open PySem
theorem loopC_map {f : D → Store → R (Option D)} {g : D → Option D} {S : Store} : ∀ xs : List D, (∀ x ∈ xs, f x S = .ok (g x) S) → loopC f xs S = .ok (xs.filterMap g) S
  | [], _ => rfl
  | x :: xs, h => by
    unfold loopC
    rw [h x List.mem_cons_self, bind_ok, loopC_map xs fun y hy => h y (List.mem_cons_of_mem _ hy), bind_ok, List.filterMap_cons]
    cases g x <;> rfl
/-- one turn of a comprehension -/
def stepC (own : List Nat) (elt : Sm) (tg : Tg) (conds : List Sm) (ρ : Env) : D → Store → R (Option D) := fun x S2 => match asg tg x (wipeE ρ own) with
  | some ρ' => (evC conds ρ' S2).bind fun k S3 => if k then (elt.E ρ' S3).bind fun t S4 => (mat t S4).bind fun d S5 => .ok (some d) S5 else .ok none S3
  | none => .bad
theorem evL_ok {own : List Nat} {elt : Sm} {tg : Tg} {it : Sm} {conds : List Sm} {ρ : Env} {S : Store} {xs : List D} {o : Option Nat} {g : D → Option D} (hi : it.I ρ S = .ok (xs, o) S) (hl : xs.length ≤ lim)
    (h : ∀ x ∈ xs, stepC own elt tg conds ρ x (lockO S o true) = .ok (g x) (lockO S o true)) (hk : lockO (lockO S o true) o false = S) : evL own elt tg it conds ρ S = .ok (.l (xs.filterMap g)) S := by
  unfold evL
  rw [hi, bind_ok]
  show (if xs.length ≤ lim then _ else _) = _
  rw [if_pos hl]
  show ((noX (loopC (stepC own elt tg conds ρ) xs (lockO S o true))).bind fun ys S2 => R.ok (T.l ys) (lockO S2 o false)) = _
  rw [loopC_map xs h]
  show R.ok (T.l _) (lockO (lockO S o true) o false) = _
  rw [hk]
theorem lockO_back {S : Store} {k : Nat} {kvs : List (D × D)} (h : S[k]? = some (.dT false kvs)) : lockO (lockO S (some k) true) (some k) false = S := by
  have hk : k < S.length := (List.getElem?_eq_some_iff.mp h).1
  have e1 : setLock S k true = S.set k (.dT true kvs) := by
    unfold setLock
    rw [h]
  show setLock (setLock S k true) k false = S
  rw [e1]
  unfold setLock
  rw [List.getElem?_set_self hk]
  show (S.set k (.dT true kvs)).set k (.dT false kvs) = S
  rw [List.set_set]
  apply List.ext_getElem?
  intro i
  by_cases e : k = i
  · subst e
    rw [List.getElem?_set_self hk, h]
  · rw [List.getElem?_set_ne e]
theorem lock_dict {S : Store} {k : Nat} {kvs : List (D × D)} (h : S[k]? = some (.dT false kvs)) : lockO S (some k) true = S.set k (.dT true kvs) := by
  show setLock S k true = _
  unfold setLock
  rw [h]
theorem eq_int (a b : Int) (S : Store) : cmp2 .eq (.v (.int a)) (.v (.int b)) S = some (decide (a = b)) := by
  show (if min (PyData.int a).depth (PyData.int b).depth ≤ 60 then some (PyData.eqv (.int a) (.int b)) else none) = _
  have e : PyData.eqv (.int a) (.int b) = decide (a = b) := by
    rw [PyData.eqv]
    by_cases h : a = b
    · rw [decide_eq_true h, h]
      exact beq_self_eq_true _
    · rw [decide_eq_false h]
      exact beq_eq_false_iff_ne.mpr h
  rw [e, if_pos (by simp [PyData.depth])]
theorem ne_int (a b : Int) (S : Store) : cmp2 .ne (.v (.int a)) (.v (.int b)) S = some (!decide (a = b)) := by
  show (cmp2 .eq (.v (.int a)) (.v (.int b)) S).map (fun k => !k) = _
  rw [eq_int]
  rfl
theorem bools_map {α : Type} (f : α → Bool) : ∀ l : List α, bools (l.map fun a => D.bl (f a)) = some (l.map f)
  | [] => rfl
  | a :: l => by
    show (bools (l.map fun a => D.bl (f a))).map (f a :: ·) = _
    rw [bools_map f l]
    rfl
theorem intL_map {α : Type} (f : α → Int) : ∀ l : List α, intL (l.map fun a => D.int (f a)) = some (l.map f)
  | [] => rfl
  | a :: l => by
    show (intL (l.map fun a => D.int (f a))).map (f a :: ·) = _
    rw [intL_map f l]
    rfl
end Ev
namespace K64
open PySem Ev
theorem setLocks (S : Store) (k : Nat) (hk : k < S.length) (kvs : List (D × D)) : (S.set k (.dT true kvs)).length = S.length := List.length_set
/-- all of kvs's keys have the length that is told -/
def okLen (pots : D) (p : List Trm) : Prop := ∀ t ∈ p, cmp2 .eq (.v (.int t.1.length)) (.v pots) [] = some true
theorem eqT_S {d e : D} (hd : d.pure = true) (he : e.pure = true) (S : Store) : cmp2 .eq (.v d) (.v e) S = cmp2 .eq (.v d) (.v e) [] := by
  have h : ∀ (d : D) (S : Store), d.pure = true → toPy (.v d) S = some d.py := fun d S h => by
    cases d <;> first | (cases h; done) | simp [toPy, h]
  show eqT _ _ S = eqT _ _ []
  unfold eqT
  rw [h d S hd, h d [] hd, h e S he, h e [] he]
def tidy (p : List Trm) : List Trm := srt (p.filter fun t => decide (t.2 ≠ 0))
def smallP (p : List Trm) : Prop := ∀ t ∈ p, small t.2 = true ∧ small (t.1.map fun (n : Nat) => (n : Int)).sum = true
theorem fm_some {α β : Type} (f : α → β) : ∀ l : List α, l.filterMap (fun a => some (f a)) = l.map f
  | [] => rfl
  | a :: l => by
    rw [List.filterMap_cons, List.map_cons]
    exact congrArg _ (fm_some f l)
theorem fm_if {α β γ : Type} (f : α → β) (c : α → Bool) (g : β → γ) (h : β → Bool) (hc : ∀ a, h (f a) = c a) : ∀ l : List α, (l.map f).filterMap (fun b => if h b then some (g b) else none) = (l.filter c).map fun a => g (f a)
  | [] => rfl
  | a :: l => by
    rw [List.map_cons, List.filterMap_cons, List.filter_cons, hc a, fm_if f c g h hc l]
    cases c a <;> rfl
theorem t_tidied (n : Nat) {S : Store} {k : Nat} {p : List Trm} {pots : D} (w : WS S) (hS : S[k]? = some (.dT false (kD p))) (hp : pots.pure = true) (hl : p.length ≤ 400) (hL : okLen pots p) (hs : smallP (tidy p)) (ht : (tidy p).length ≤ 400) :
    callN F (n + 2) 3 [.ref k, pots] S = .ok (.v (pD (tidy p))) S := by
  rw [callN_at (fd := f_tidied) rfl rfl]
  have hlen : (kD p).length = p.length := List.length_map _
  have hlk : lockAt S k = false := by
    unfold lockAt
    rw [hS]
  have hasT : asT (.v (.ref k)) S = some (kD p) := by
    show (match S[k]? with | some (.dT _ kvs) => some kvs | _ => none) = _
    rw [hS]
  have it1 : (ev (callN F (n + 1)) (.v 0)).I [some (.ref k), some pots, none, none, none] S = .ok ((kD p).map (·.1), some k) S := by
    show (R.ok (T.v (.ref k)) S).bind (fun t S1 => opt (itQ t S1) S1) = _
    rw [bind_ok]
    have e0 : itQ0 (.v (.ref k)) S = none := by
      show (match asL (.v (.ref k)) S with | some xs => some (xs, if lockAt S k then none else some k) | none => none) = _
      have : asL (.v (.ref k)) S = none := by
        show (match S[k]? with | some (.lst _ xs) => some xs | some (.ro xs) => some xs | _ => none) = _
        rw [hS]
      rw [this]
    have e1 : itQ (.v (.ref k)) S = some ((kD p).map (·.1), some k) := by
      unfold itQ
      rw [e0]
      show (asT (.v (.ref k)) S).map (fun kvs => (kvs.map (·.1), if lockAt S k then none else some k)) = _
      rw [hasT, hlk]
      rfl
    rw [e1]
    rfl
  have c1 : (ev (callN F (n + 1)) (.lc [3] (Ex.cmp Cm.eq (Ex.bi Bi.len [Ex.v 3]) (Ex.v 1)) (Tg.v 3) (Ex.v 0) [])).E [some (.ref k), some pots, none, none, none] S = .ok (.l (p.map fun _ => D.bl true)) S := by
    rw [ev_lc, evL_ok (g := fun _ => some (.bl true)) it1 (by rw [List.length_map, hlen]; exact Nat.le_trans hl (by decide)) (fun x hx => ?_) (lockO_back hS)]
    · rw [fm_some]
      unfold kD
      rw [List.map_map, List.map_map]
      rfl
    · obtain ⟨y, hy, rfl⟩ := List.mem_map.mp hx
      obtain ⟨t, htp, rfl⟩ := List.mem_map.mp hy
      have e2 : cmp2 .eq (.v (.int t.1.length)) (.v pots) (lockO S (some k) true) = some true := by
        rw [eqT_S rfl hp]
        exact hL t htp
      have e3 : (t.1.map nD).length = t.1.length := List.length_map _
      simp [stepC, asg, wipeE, biF, asQ, mD, e2]
  have b1 : (ev (callN F (n + 1)) (Ex.bi Bi.all [.lc [3] (Ex.cmp Cm.eq (Ex.bi Bi.len [Ex.v 3]) (Ex.v 1)) (Tg.v 3) (Ex.v 0) []]).not).B [some (.ref k), some pots, none, none, none] S = .ok false S := by
    rw [ev_notB]
    show (((ev (callN F (n + 1)) (Ex.bi Bi.all [.lc [3] (Ex.cmp Cm.eq (Ex.bi Bi.len [Ex.v 3]) (Ex.v 1)) (Tg.v 3) (Ex.v 0) []])).E [some (.ref k), some pots, none, none, none] S).bind fun t S1 => opt (truth t S1) S1).bind (fun k S1 => R.ok (!k) S1) = _
    rw [ev_bi, evs_cons, evs_nil, evTs_cons, c1, bind_ok, evTs_nil, bind_ok, bind_ok]
    have e1 : biF .all [.l (p.map fun _ => D.bl true)] S = some (.v (.bl true)) := by
      show (bools (p.map fun _ => D.bl true)).map (fun bs => T.v (.bl (bs.all id))) = _
      rw [bools_map (fun _ => true) p]
      show some (T.v (.bl ((p.map fun _ => true).all id))) = _
      rw [show (p.map fun _ => true).all id = true from List.all_eq_true.mpr fun x hx => by
        obtain ⟨_, _, rfl⟩ := List.mem_map.mp hx
        rfl]
    rw [e1]
    rfl
  have it2 : (ev (callN F (n + 1)) (Ex.me Me.items (Ex.v 0) [])).I [some (.ref k), some pots, none, none, none] S = .ok (itemD (kD p), some k) S := by
    show (R.ok (T.v (.ref k)) S).bind (fun t S1 => (match Me.items, t, ([] : List Ex) with
        | .items, .v (.ref k), [] => opt ((asT (.v (.ref k)) S1).map fun kvs => (itemD kvs, if lockAt S1 k then none else some k)) S1
        | _, _, _ => .bad)) = _
    rw [bind_ok]
    show opt ((asT (.v (.ref k)) S).map fun kvs => (itemD kvs, if lockAt S k then none else some k)) S = _
    rw [hasT, hlk]
    rfl
  have c2 : (ev (callN F (n + 1)) (Ex.lc [3, 4] (Ex.tup [Ex.v 3, Ex.v 4]) (Tg.tup [Tg.v 3, Tg.v 4]) (Ex.me Me.items (Ex.v 0) [])
                [Ex.cmp Cm.ne (Ex.v 4) (Ex.c (D.int 0))])).E [some (.ref k), some pots, none, none, none] S = .ok (.l ((p.filter fun t => decide (t.2 ≠ 0)).map tD)) S := by
    have e0 : itemD (kD p) = p.map tD := by
      unfold itemD kD
      rw [List.map_map]
      rfl
    rw [e0] at it2
    rw [ev_lc, evL_ok (g := fun x => if (match x with | .tup [_, .int f] => decide (f ≠ 0) | _ => false) then some x else none) it2 (by rw [List.length_map]; exact Nat.le_trans hl (by decide)) (fun x hx => ?_) (lockO_back hS)]
    · rw [fm_if tD (fun t => decide (t.2 ≠ 0)) (fun x => x) (fun x => match x with | .tup [_, .int f] => decide (f ≠ 0) | _ => false) (fun a => rfl)]
    · obtain ⟨t, htp, rfl⟩ := List.mem_map.mp hx
      have e2 : cmp2 .ne (.v (.int t.2)) (.v (.int 0)) (lockO S (some k) true) = some (!decide (t.2 = 0)) := ne_int _ _ _
      by_cases h0 : t.2 = 0
      · rw [decide_eq_true h0, h0] at e2
        simp [stepC, asg, asgs, wipeE, tD, e2, h0]
      · rw [decide_eq_false h0] at e2
        simp [stepC, asg, asgs, wipeE, tD, e2, h0, lim]
  have hfl : (p.filter fun t => decide (t.2 ≠ 0)).length ≤ lim := Nat.le_trans (List.length_filter_le _ _) (Nat.le_trans hl (by decide))
  have v2 : (ev (callN F (n + 1)) (Ex.bi Bi.tuple
        [Ex.bi Bi.sorted
            [Ex.lc [3, 4] (Ex.tup [Ex.v 3, Ex.v 4]) (Tg.tup [Tg.v 3, Tg.v 4]) (Ex.me Me.items (Ex.v 0) [])
                [Ex.cmp Cm.ne (Ex.v 4) (Ex.c (D.int 0))]]])).E [some (.ref k), some pots, none, none, none] S = .ok (.v (pD (tidy p))) S := by
    rw [ev_bi, evs_cons, evs_nil, evTs_cons, ev_bi, evs_cons, evs_nil, evTs_cons, c2, bind_ok, evTs_nil, bind_ok, bind_ok]
    have e1 : biF .sorted [.l ((p.filter fun t => decide (t.2 ≠ 0)).map tD)] S = some (.l ((tidy p).map tD)) := by
      show (if sortable ((p.filter fun t => decide (t.2 ≠ 0)).map tD) then some (T.l (sortD ((p.filter fun t => decide (t.2 ≠ 0)).map tD))) else none) = _
      rw [if_pos (sortable_pD _ hfl), srt_map]
      rfl
    rw [e1]
    rfl
  have c3 : (ev (callN F (n + 1)) (Ex.lc [3, 4] (Ex.and [Ex.call 2 [Ex.v 4], Ex.call 2 [Ex.bi Bi.sum [Ex.v 3]]]) (Tg.tup [Tg.v 3, Tg.v 4])
              (Ex.v 2) [])).E [some (.ref k), some pots, some (pD (tidy p)), none, none] S = .ok (.l ((tidy p).map fun _ => D.bl true)) S := by
    have it3 : (ev (callN F (n + 1)) (.v 2)).I [some (.ref k), some pots, some (pD (tidy p)), none, none] S = .ok ((tidy p).map tD, none) S := rfl
    rw [ev_lc, evL_ok (g := fun _ => some (.bl true)) it3 (by rw [List.length_map]; exact Nat.le_trans ht (by decide)) (fun x hx => ?_) rfl]
    · rw [fm_some, List.map_map]
      rfl
    · obtain ⟨t, htp, rfl⟩ := List.mem_map.mp hx
      obtain ⟨s1, s2⟩ := hs t htp
      have q1 : fin S.length (callN F (n + 1) 2 [.int t.2] S) = .ok (.v (.bl true)) S := by
        rw [t_small, s1, fin_v0 w rfl]
      have q2 : fin S.length (callN F (n + 1) 2 [.int (t.1.map fun (n : Nat) => (n : Int)).sum] S) = .ok (.v (.bl true)) S := by
        rw [t_small, s2, fin_v0 w rfl]
      have q3 : biF .sum [.v (mD t.1)] S = some (.v (.int (t.1.map fun (n : Nat) => (n : Int)).sum)) := by
        show (intL (t.1.map fun n => D.int (n : Nat))).map (fun ns => T.v (.int ns.sum)) = _
        rw [intL_map]
        rfl
      simp [stepC, asg, asgs, wipeE, tD, evAnd, lockO, q1, q2, q3, truth]
  have b4 : (ev (callN F (n + 1)) (Ex.bi Bi.all [Ex.lc [3, 4] (Ex.and [Ex.call 2 [Ex.v 4], Ex.call 2 [Ex.bi Bi.sum [Ex.v 3]]]) (Tg.tup [Tg.v 3, Tg.v 4])
              (Ex.v 2) []]).not).B [some (.ref k), some pots, some (pD (tidy p)), none, none] S = .ok false S := by
    rw [ev_notB]
    show (((ev (callN F (n + 1)) (Ex.bi Bi.all [Ex.lc [3, 4] (Ex.and [Ex.call 2 [Ex.v 4], Ex.call 2 [Ex.bi Bi.sum [Ex.v 3]]]) (Tg.tup [Tg.v 3, Tg.v 4])
              (Ex.v 2) []])).E [some (.ref k), some pots, some (pD (tidy p)), none, none] S).bind fun t S1 => opt (truth t S1) S1).bind (fun k S1 => R.ok (!k) S1) = _
    rw [ev_bi, evs_cons, evs_nil, evTs_cons, c3, bind_ok, evTs_nil, bind_ok, bind_ok]
    have e1 : biF .all [.l ((tidy p).map fun _ => D.bl true)] S = some (.v (.bl true)) := by
      show (bools ((tidy p).map fun _ => D.bl true)).map (fun bs => T.v (.bl (bs.all id))) = _
      rw [bools_map (fun _ => true) (tidy p)]
      show some (T.v (.bl (((tidy p).map fun _ => true).all id))) = _
      rw [show ((tidy p).map fun _ => true).all id = true from List.all_eq_true.mpr fun x hx => by
        obtain ⟨_, _, rfl⟩ := List.mem_map.mp hx
        rfl]
    rw [e1]
    rfl
  have b3 : (ev (callN F (n + 1)) (Ex.cmp Cm.gt (Ex.bi Bi.len [Ex.v 2]) (Ex.gc "MOST_TERMS" (D.int 400)))).B [some (.ref k), some pots, some (pD (tidy p)), none, none] S = .ok false S := by
    show opt (cmpI .gt (((tidy p).map tD).length : Nat) 400) S = _
    rw [List.length_map]
    show R.ok (decide ((400 : Int) < ((tidy p).length : Nat))) S = _
    rw [decide_eq_false (by omega)]
  show fin0 (svs (n + 1) (callN F (n + 1)) f_tidied.body [some (.ref k), some pots, none, none, none] S) = _
  unfold f_tidied
  rw [svs_cons, sv_ite, b1, thenS_ok]
  rw [if_neg Bool.false_ne_true, svs_nil, seqS_nx, svs_cons, sv_asg, v2, bind_ok, mat_v, thenS_ok]
  show fin0 (seqS (SR.ok .nx [some (.ref k), some pots, some (pD (tidy p)), none, none] S) _) = _
  rw [seqS_nx, svs_cons, sv_ite, b3, thenS_ok]
  rw [if_neg Bool.false_ne_true, svs_nil, seqS_nx, svs_cons, sv_ite, b4, thenS_ok]
  rw [if_neg Bool.false_ne_true, svs_nil, seqS_nx]
  rfl
end K64
-- L4
set_option Elab.async false
set_option linter.all false
set_option maxRecDepth 100000
set_option maxHeartbeats 4000000
/-! L4: dicts of terms; sums over them. -/
namespace K64
open PySem Ev
theorem nks_eq : ∀ a b : Mon, NestedKey.beqAll (D.nks (a.map nD)) (D.nks (b.map nD)) = decide (a = b)
  | [], [] => by simp [D.nks, NestedKey.beqAll]
  | [], b :: bs => by simp [D.nks, NestedKey.beqAll]
  | a :: as, [] => by simp [D.nks, NestedKey.beqAll]
  | a :: as, b :: bs => by
    have ih := nks_eq as bs
    show NestedKey.beqAll (.num (a : Int) :: D.nks (as.map nD)) (.num (b : Int) :: D.nks (bs.map nD)) = _
    rw [NestedKey.beqAll, ih, NestedKey.beq]
    by_cases h1 : a = b
    · by_cases h2 : as = bs
      · simp [h1, h2]
      · simp [h1, h2]
    · have : ¬ (a : Int) = b := by omega
      simp [h1, this]
theorem keq_m (a b : Mon) : keq (mD a) (mD b) = decide (a = b) := by
  show NestedKey.beq (.tup (D.nks (a.map nD))) (.tup (D.nks (b.map nD))) = _
  rw [NestedKey.beq, nks_eq]
def getM (p : List Trm) (m : Mon) : Int := ((p.find? fun t => decide (t.1 = m)).map (·.2)).getD 0
def putM (p : List Trm) (m : Mon) (v : Int) : List Trm := if p.any (fun t => decide (t.1 = m)) then p.map (fun t => if t.1 = m then (t.1, v) else t) else p ++ [(m, v)]
def addM (p : List Trm) (m : Mon) (f : Int) : List Trm := putM p m (getM p m + f)
theorem get_kD (p : List Trm) (m : Mon) : (getD (kD p) (mD m)).getD (.int 0) = .int (getM p m) := by
  unfold getD getM kD
  rw [List.find?_map]
  have e : ((fun q : D × D => keq q.1 (mD m)) ∘ fun t : Trm => (mD t.1, D.int t.2)) = fun t => decide (t.1 = m) := by
    funext t
    exact keq_m t.1 m
  rw [e]
  cases p.find? fun t => decide (t.1 = m) <;> rfl
theorem put_kD (p : List Trm) (m : Mon) (v : Int) : putD (kD p) (mD m) (.int v) = kD (putM p m v) := by
  unfold putD putM kD
  have e : ((p.map fun t => (mD t.1, D.int t.2)).any fun q => keq q.1 (mD m)) = p.any fun t => decide (t.1 = m) := by
    rw [List.any_map]
    congr 1
    funext t
    exact keq_m t.1 m
  rw [e]
  split
  · rw [List.map_map, List.map_map]
    refine List.map_congr_left fun t _ => ?_
    show (if keq (mD t.1) (mD m) then (mD t.1, D.int v) else (mD t.1, D.int t.2)) = _
    rw [keq_m]
    by_cases h : t.1 = m
    · simp [h]
    · simp [h]
  · rw [List.map_append]
    rfl
/-! ### sums -/
def L (φ : Mon → Int) : List Trm → Int
  | [] => 0
  | t :: r => t.2 * φ t.1 + L φ r
def Nd (p : List Trm) : Prop := (p.map (·.1)).Nodup
theorem L_app (φ : Mon → Int) : ∀ p q, L φ (p ++ q) = L φ p + L φ q
  | [], q => by simp [L]
  | t :: r, q => by
    show t.2 * φ t.1 + L φ (r ++ q) = t.2 * φ t.1 + L φ r + L φ q
    rw [L_app φ r q]
    omega
theorem find_none {p : List Trm} {m : Mon} (h : p.any (fun t => decide (t.1 = m)) = false) : getM p m = 0 := by
  unfold getM
  rw [List.find?_eq_none.mpr fun t ht z => ?_]
  · rfl
  · have := List.any_eq_false.mp h t ht
    exact this z
theorem L_upd (φ : Mon → Int) (m : Mon) (v : Int) : ∀ p : List Trm, Nd p → p.any (fun t => decide (t.1 = m)) = true → L φ (p.map fun t => if t.1 = m then (t.1, v) else t) = L φ p + (v - getM p m) * φ m
  | [], _, h => by cases h
  | t :: r, nd, h => by
    have nd' := List.nodup_cons.mp (show (t.1 :: r.map (·.1)).Nodup from nd)
    by_cases e : t.1 = m
    · have hr : r.map (fun t => if t.1 = m then (t.1, v) else t) = r := by
        have : r.map (fun t => if t.1 = m then (t.1, v) else t) = r.map id := List.map_congr_left fun s hs => by
          rw [if_neg]
          · rfl
          · intro z
            exact nd'.1 (List.mem_map.mpr ⟨s, hs, by rw [z, e]⟩)
        rw [this, List.map_id]
      have g : getM (t :: r) m = t.2 := by
        unfold getM
        rw [List.find?_cons_of_pos (by simpa using e)]
        rfl
      rw [g, List.map_cons, hr, if_pos e]
      show v * φ t.1 + L φ r = t.2 * φ t.1 + L φ r + (v - t.2) * φ m
      rw [e, Int.sub_mul]
      omega
    · have h' : r.any (fun t => decide (t.1 = m)) = true := by
        rw [List.any_cons, decide_eq_false e, Bool.false_or] at h
        exact h
      have g : getM (t :: r) m = getM r m := by
        unfold getM
        rw [List.find?_cons_of_neg (by simpa using e)]
      rw [g, List.map_cons, if_neg e]
      show t.2 * φ t.1 + L φ _ = t.2 * φ t.1 + L φ r + _
      rw [L_upd φ m v r nd'.2 h']
      omega
theorem L_add (φ : Mon → Int) (p : List Trm) (m : Mon) (f : Int) (nd : Nd p) : L φ (addM p m f) = L φ p + f * φ m := by
  unfold addM putM
  split
  · rename_i h
    rw [L_upd φ m _ p nd h]
    have : getM p m + f - getM p m = f := by omega
    rw [this]
  · rename_i h
    rw [L_app, find_none ((Bool.not_eq_true _).mp h)]
    show L φ p + ((0 + f) * φ m + 0) = _
    rw [Int.zero_add, Int.add_zero]
theorem keys_put (p : List Trm) (m : Mon) (v : Int) : (putM p m v).map (·.1) = if p.any (fun t => decide (t.1 = m)) then p.map (·.1) else p.map (·.1) ++ [m] := by
  unfold putM
  split
  · rw [List.map_map]
    refine List.map_congr_left fun t _ => ?_
    show (if t.1 = m then (t.1, v) else t).1 = t.1
    split <;> rfl
  · rw [List.map_append]
    rfl
theorem nd_put {p : List Trm} {m : Mon} {v : Int} (nd : Nd p) : Nd (putM p m v) := by
  unfold Nd
  rw [keys_put]
  split
  · exact nd
  · rename_i h
    rw [List.nodup_append]
    refine ⟨nd, by simp, fun a ha b hb => ?_⟩
    have e : b = m := by simpa using hb
    subst e
    intro z
    subst z
    obtain ⟨t, ht, rfl⟩ := List.mem_map.mp ha
    exact h (List.any_eq_true.mpr ⟨t, ht, by simp⟩)
theorem len_put (p : List Trm) (m : Mon) (v : Int) : (putM p m v).length ≤ p.length + 1 := by
  unfold putM
  split
  · rw [List.length_map]
    omega
  · rw [List.length_append]
    exact Nat.le_refl _
theorem mem_put {p : List Trm} {m : Mon} {v : Int} {t : Trm} (h : t ∈ putM p m v) : (∃ s ∈ p, s.1 = t.1) ∨ t.1 = m := by
  have hk : t.1 ∈ (putM p m v).map (·.1) := List.mem_map.mpr ⟨t, h, rfl⟩
  rw [keys_put] at hk
  split at hk
  · obtain ⟨s, hs, e⟩ := List.mem_map.mp hk
    exact .inl ⟨s, hs, e⟩
  · rcases List.mem_append.mp hk with z | z
    · obtain ⟨s, hs, e⟩ := List.mem_map.mp z
      exact .inl ⟨s, hs, e⟩
    · exact .inr (by simpa using z)
end K64
-- L5
set_option Elab.async false
set_option linter.all false
set_option maxRecDepth 100000
set_option maxHeartbeats 4000000
/-! L5: canonical rows of terms. -/
namespace K64
open PySem Ev
theorem mem_ins (x t : Trm) : ∀ p, t ∈ insM x p ↔ t = x ∨ t ∈ p
  | [] => by simp [insM]
  | y :: ys => by
    unfold insM
    split
    · simp
    · rw [List.mem_cons, mem_ins x t ys, List.mem_cons]
      constructor
      · rintro (h | h | h)
        · exact .inr (.inl h)
        · exact .inl h
        · exact .inr (.inr h)
      · rintro (h | h | h)
        · exact .inr (.inl h)
        · exact .inl h
        · exact .inr (.inr h)
theorem mem_srt (t : Trm) : ∀ p, t ∈ srt p ↔ t ∈ p
  | [] => Iff.rfl
  | x :: p => by
    show t ∈ insM x (srt p) ↔ _
    rw [mem_ins, mem_srt t p, List.mem_cons]
theorem L_ins (φ : Mon → Int) (x : Trm) : ∀ p, L φ (insM x p) = x.2 * φ x.1 + L φ p
  | [] => rfl
  | y :: ys => by
    unfold insM
    split
    · rfl
    · show y.2 * φ y.1 + L φ (insM x ys) = x.2 * φ x.1 + (y.2 * φ y.1 + L φ ys)
      rw [L_ins φ x ys]
      omega
theorem L_srt (φ : Mon → Int) : ∀ p, L φ (srt p) = L φ p
  | [] => rfl
  | x :: p => by
    show L φ (insM x (srt p)) = _
    rw [L_ins, L_srt φ p]
    rfl
theorem L_filter (φ : Mon → Int) : ∀ p : List Trm, L φ (p.filter fun t => decide (t.2 ≠ 0)) = L φ p
  | [] => rfl
  | t :: p => by
    rw [List.filter_cons]
    split
    · show t.2 * φ t.1 + L φ _ = t.2 * φ t.1 + L φ p
      rw [L_filter φ p]
    · rename_i h
      have h0 : t.2 = 0 := by simpa using h
      show _ = t.2 * φ t.1 + L φ p
      rw [L_filter φ p, h0]
      omega
theorem L_tidy (φ : Mon → Int) (p : List Trm) : L φ (tidy p) = L φ p := by
  unfold tidy
  rw [L_srt, L_filter]
theorem mem_tidy {t : Trm} {p : List Trm} : t ∈ tidy p ↔ t ∈ p ∧ t.2 ≠ 0 := by
  unfold tidy
  rw [mem_srt, List.mem_filter]
  simp
theorem len_ins (x : Trm) : ∀ p, (insM x p).length = p.length + 1
  | [] => rfl
  | y :: ys => by
    unfold insM
    split
    · rfl
    · rw [List.length_cons, len_ins x ys, List.length_cons]
theorem len_srt : ∀ p, (srt p).length = p.length
  | [] => rfl
  | x :: p => by
    show (insM x (srt p)).length = _
    rw [len_ins, len_srt p]
    rfl
theorem len_tidy (p : List Trm) : (tidy p).length ≤ p.length := by
  unfold tidy
  rw [len_srt]
  exact List.length_filter_le _ _
theorem nd_ins (x : Trm) : ∀ p, Nd p → (∀ t ∈ p, t.1 ≠ x.1) → Nd (insM x p)
  | [], _, _ => by simp [insM, Nd]
  | y :: ys, nd, h => by
    have nd' := List.nodup_cons.mp (show (y.1 :: ys.map (·.1)).Nodup from nd)
    unfold insM
    split
    · refine List.nodup_cons.mpr ⟨fun z => ?_, nd⟩
      obtain ⟨t, ht, e⟩ := List.mem_map.mp z
      exact h t ht e
    · refine List.nodup_cons.mpr ⟨fun z => ?_, nd_ins x ys nd'.2 fun t ht => h t (List.mem_cons_of_mem _ ht)⟩
      obtain ⟨t, ht, e⟩ := List.mem_map.mp z
      rcases (mem_ins x t ys).mp ht with q | q
      · rw [q] at e
        exact h y List.mem_cons_self e.symm
      · exact nd'.1 (List.mem_map.mpr ⟨t, q, e⟩)
theorem nd_srt : ∀ p, Nd p → Nd (srt p)
  | [], _ => List.nodup_nil
  | x :: p, nd => by
    have nd' := List.nodup_cons.mp (show (x.1 :: p.map (·.1)).Nodup from nd)
    exact nd_ins x _ (nd_srt p nd'.2) fun t ht e => nd'.1 (List.mem_map.mpr ⟨t, (mem_srt t p).mp ht, e⟩)
theorem nd_filter (f : Trm → Bool) : ∀ p, Nd p → Nd (p.filter f)
  | [], _ => List.nodup_nil
  | x :: p, nd => by
    have nd' := List.nodup_cons.mp (show (x.1 :: p.map (·.1)).Nodup from nd)
    rw [List.filter_cons]
    split
    · refine List.nodup_cons.mpr ⟨fun z => ?_, nd_filter f p nd'.2⟩
      obtain ⟨t, ht, e⟩ := List.mem_map.mp z
      exact nd'.1 (List.mem_map.mpr ⟨t, (List.mem_filter.mp ht).1, e⟩)
    · exact nd_filter f p nd'.2
def Srt (p : List Trm) : Prop := p.Pairwise fun a b => leM a b = true
theorem srt_ins (x : Trm) : ∀ p, Srt p → Srt (insM x p)
  | [], _ => List.pairwise_singleton _ _
  | y :: ys, h => by
    have h' := List.pairwise_cons.mp h
    unfold insM
    split
    · rename_i hx
      refine List.pairwise_cons.mpr ⟨fun b hb => ?_, h⟩
      rcases List.mem_cons.mp hb with z | z
      · rw [z]
        exact hx
      · exact leM_trans _ _ _ hx (h'.1 b z)
    · rename_i hx
      have hyx : leM y x = true := (leM_total x y).elim (fun z => absurd z hx) id
      refine List.pairwise_cons.mpr ⟨fun b hb => ?_, srt_ins x ys h'.2⟩
      rcases (mem_ins x b ys).mp hb with z | z
      · rw [z]
        exact hyx
      · exact h'.1 b z
theorem srt_srt : ∀ p, Srt (srt p)
  | [] => List.Pairwise.nil
  | x :: p => srt_ins x _ (srt_srt p)
/-- canonical -/
structure Can (p : List Trm) : Prop where
  nd : Nd p
  s : Srt p
  nz : ∀ t ∈ p, t.2 ≠ 0
theorem can_tidy {p : List Trm} (nd : Nd p) : Can (tidy p) := ⟨nd_srt _ (nd_filter _ p nd), srt_srt _, fun t ht => (mem_tidy.mp ht).2⟩
def ind (m : Mon) : Mon → Int := fun x => if x = m then 1 else 0
theorem L_none {φ : Mon → Int} : ∀ p : List Trm, (∀ t ∈ p, φ t.1 = 0) → L φ p = 0
  | [], _ => rfl
  | t :: p, h => by
    show t.2 * φ t.1 + L φ p = 0
    rw [h t List.mem_cons_self, L_none p fun s hs => h s (List.mem_cons_of_mem _ hs)]
    omega
theorem L_ind {m : Mon} {f : Int} : ∀ p : List Trm, Nd p → (m, f) ∈ p → L (ind m) p = f
  | [], _, h => by cases h
  | t :: p, nd, h => by
    have nd' := List.nodup_cons.mp (show (t.1 :: p.map (·.1)).Nodup from nd)
    show t.2 * ind m t.1 + L (ind m) p = f
    rcases List.mem_cons.mp h with z | z
    · subst z
      rw [L_none p fun s hs => if_neg fun e => nd'.1 (List.mem_map.mpr ⟨s, hs, e⟩)]
      show f * (if m = m then 1 else 0) + 0 = f
      rw [if_pos rfl]
      omega
    · rw [L_ind p nd'.2 z]
      have : ¬ t.1 = m := fun e => nd'.1 (List.mem_map.mpr ⟨(m, f), z, e.symm⟩)
      show t.2 * (if t.1 = m then 1 else 0) + f = f
      rw [if_neg this]
      omega
theorem mem_of_L {p q : List Trm} (hp : Can p) (hq : Can q) (h : ∀ φ, L φ p = L φ q) {t : Trm} (ht : t ∈ p) : t ∈ q := by
  have e1 : L (ind t.1) p = t.2 := L_ind p hp.nd ht
  rw [h] at e1
  by_cases hm : ∃ s ∈ q, s.1 = t.1
  · obtain ⟨s, hs, e⟩ := hm
    have e2 : L (ind s.1) q = s.2 := L_ind q hq.nd hs
    rw [e, e1] at e2
    have : s = t := Prod.ext e e2.symm
    rw [← this]
    exact hs
  · rw [L_none q fun s hs => if_neg fun e => hm ⟨s, hs, e⟩] at e1
    exact absurd e1.symm (hp.nz t ht)
theorem Can.tail {t : Trm} {p : List Trm} (h : Can (t :: p)) : Can p :=
  ⟨(List.nodup_cons.mp (show (t.1 :: p.map (·.1)).Nodup from h.nd)).2, (List.pairwise_cons.mp h.s).2, fun s hs => h.nz s (List.mem_cons_of_mem _ hs)⟩
theorem can_eq : ∀ p q : List Trm, Can p → Can q → (∀ φ, L φ p = L φ q) → p = q
  | [], [], _, _, _ => rfl
  | [], b :: q, hp, hq, h => absurd (mem_of_L hq hp (fun φ => (h φ).symm) List.mem_cons_self) (by simp)
  | a :: p, [], hp, hq, h => absurd (mem_of_L hp hq h List.mem_cons_self) (by simp)
  | a :: p, b :: q, hp, hq, h => by
    have h1 := mem_of_L hp hq h List.mem_cons_self
    have h2 := mem_of_L hq hp (fun φ => (h φ).symm) List.mem_cons_self
    have e : a = b := by
      rcases List.mem_cons.mp h1 with z | z
      · exact z
      rcases List.mem_cons.mp h2 with y | y
      · exact y.symm
      · exact leM_anti ((List.pairwise_cons.mp hp.s).1 b y) ((List.pairwise_cons.mp hq.s).1 a z)
    subst e
    rw [can_eq p q hp.tail hq.tail fun φ => ?_]
    have z := h φ
    have z' : a.2 * φ a.1 + L φ p = a.2 * φ a.1 + L φ q := z
    omega
/-! ### sizes -/
def nrm : List Trm → Nat
  | [] => 0
  | t :: r => t.2.natAbs + nrm r
theorem nrm_mem {t : Trm} : ∀ {p : List Trm}, t ∈ p → t.2.natAbs ≤ nrm p
  | s :: p, h => by
    show _ ≤ s.2.natAbs + nrm p
    rcases List.mem_cons.mp h with z | z
    · rw [z]
      omega
    · have := nrm_mem z
      omega
theorem nrm_ins (x : Trm) : ∀ p, nrm (insM x p) = x.2.natAbs + nrm p
  | [] => rfl
  | y :: ys => by
    unfold insM
    split
    · rfl
    · show y.2.natAbs + nrm (insM x ys) = x.2.natAbs + (y.2.natAbs + nrm ys)
      rw [nrm_ins x ys]
      omega
theorem nrm_srt : ∀ p, nrm (srt p) = nrm p
  | [] => rfl
  | x :: p => by
    show nrm (insM x (srt p)) = _
    rw [nrm_ins, nrm_srt p]
    rfl
theorem nrm_filter (f : Trm → Bool) : ∀ p : List Trm, nrm (p.filter f) ≤ nrm p
  | [] => Nat.le_refl _
  | t :: p => by
    have ih := nrm_filter f p
    rw [List.filter_cons]
    split
    · show t.2.natAbs + nrm _ ≤ t.2.natAbs + nrm p
      omega
    · show nrm _ ≤ t.2.natAbs + nrm p
      omega
theorem nrm_tidy (p : List Trm) : nrm (tidy p) ≤ nrm p := by
  unfold tidy
  rw [nrm_srt]
  exact nrm_filter _ p
theorem nrm_app : ∀ p q, nrm (p ++ q) = nrm p + nrm q
  | [], q => by simp [nrm]
  | t :: r, q => by
    show t.2.natAbs + nrm (r ++ q) = t.2.natAbs + nrm r + nrm q
    rw [nrm_app r q]
    omega
theorem nrm_upd (m : Mon) (f : Int) : ∀ p : List Trm, Nd p → p.any (fun t => decide (t.1 = m)) = true → nrm (p.map fun t => if t.1 = m then (t.1, getM p m + f) else t) ≤ nrm p + f.natAbs := by
  have key : ∀ (v : Int) (p : List Trm), Nd p → p.any (fun t => decide (t.1 = m)) = true → nrm (p.map fun t => if t.1 = m then (t.1, v) else t) + (getM p m).natAbs = nrm p + v.natAbs := by
    intro v p
    induction p with
    | nil => intro _ h; cases h
    | cons t r ih =>
      intro nd h
      have nd' := List.nodup_cons.mp (show (t.1 :: r.map (·.1)).Nodup from nd)
      by_cases e : t.1 = m
      · have hr : r.map (fun t => if t.1 = m then (t.1, v) else t) = r := by
          have : r.map (fun t => if t.1 = m then (t.1, v) else t) = r.map id := List.map_congr_left fun s hs => by
            rw [if_neg]
            · rfl
            · intro z
              exact nd'.1 (List.mem_map.mpr ⟨s, hs, by rw [z, e]⟩)
          rw [this, List.map_id]
        have g : getM (t :: r) m = t.2 := by
          unfold getM
          rw [List.find?_cons_of_pos (by simpa using e)]
          rfl
        rw [g, List.map_cons, hr, if_pos e]
        show v.natAbs + nrm r + t.2.natAbs = t.2.natAbs + nrm r + v.natAbs
        omega
      · have h' : r.any (fun t => decide (t.1 = m)) = true := by
          rw [List.any_cons, decide_eq_false e, Bool.false_or] at h
          exact h
        have g : getM (t :: r) m = getM r m := by
          unfold getM
          rw [List.find?_cons_of_neg (by simpa using e)]
        rw [g, List.map_cons, if_neg e]
        show t.2.natAbs + nrm _ + _ = t.2.natAbs + nrm r + _
        have := ih nd'.2 h'
        omega
  intro p nd h
  have := key (getM p m + f) p nd h
  omega
theorem nrm_add (p : List Trm) (m : Mon) (f : Int) (nd : Nd p) : nrm (addM p m f) ≤ nrm p + f.natAbs := by
  unfold addM putM
  split
  · rename_i h
    exact nrm_upd m f p nd h
  · rename_i h
    rw [nrm_app, find_none ((Bool.not_eq_true _).mp h)]
    show nrm p + ((0 + f).natAbs + 0) ≤ _
    rw [Int.zero_add]
    omega
end K64
-- L6
set_option Elab.async false
set_option linter.all false
set_option maxRecDepth 100000
set_option maxHeartbeats 400000
/-! L6: sums and products as rows; number, plus. -/
namespace K64
open PySem Ev
theorem nd_add {p : List Trm} {m : Mon} {f : Int} (nd : Nd p) : Nd (addM p m f) := nd_put nd
def addAll (acc q : List Trm) : List Trm := q.foldl (fun a t => addM a t.1 t.2) acc
theorem addAll_nd : ∀ (q acc : List Trm), Nd acc → Nd (addAll acc q)
  | [], _, h => h
  | t :: q, acc, h => addAll_nd q _ (nd_add h)
theorem addAll_L (φ : Mon → Int) : ∀ (q acc : List Trm), Nd acc → L φ (addAll acc q) = L φ acc + L φ q
  | [], acc, _ => by show L φ acc = L φ acc + 0; omega
  | t :: q, acc, h => by
    show L φ (addAll (addM acc t.1 t.2) q) = L φ acc + (t.2 * φ t.1 + L φ q)
    rw [addAll_L φ q _ (nd_add h), L_add φ acc t.1 t.2 h]
    omega
theorem addAll_len : ∀ (q acc : List Trm), (addAll acc q).length ≤ acc.length + q.length
  | [], acc => Nat.le_refl _
  | t :: q, acc => by
    have h1 := addAll_len q (addM acc t.1 t.2)
    have h2 := len_put acc t.1 (getM acc t.1 + t.2)
    show (addAll (addM acc t.1 t.2) q).length ≤ acc.length + (q.length + 1)
    unfold addM at h1 ⊢
    omega
theorem addAll_nrm : ∀ (q acc : List Trm), Nd acc → nrm (addAll acc q) ≤ nrm acc + nrm q
  | [], acc, _ => Nat.le_refl _
  | t :: q, acc, h => by
    have h1 := addAll_nrm q (addM acc t.1 t.2) (nd_add h)
    have h2 := nrm_add acc t.1 t.2 h
    show nrm (addAll (addM acc t.1 t.2) q) ≤ nrm acc + (t.2.natAbs + nrm q)
    omega
theorem addAll_keys (P : Mon → Prop) : ∀ (q acc : List Trm), (∀ t ∈ acc, P t.1) → (∀ t ∈ q, P t.1) → ∀ t ∈ addAll acc q, P t.1
  | [], acc, h, _ => h
  | s :: q, acc, h, hq => addAll_keys P q _ (fun t ht => by
      rcases mem_put ht with ⟨r, hr, e⟩ | e
      · rw [← e]
        exact h r hr
      · rw [e]
        exact hq s List.mem_cons_self) (fun t ht => hq t (List.mem_cons_of_mem _ ht))
theorem addAll_app (acc x y : List Trm) : addAll acc (x ++ y) = addAll (addAll acc x) y := List.foldl_append
def zipAdd (a b : Mon) : Mon := List.zipWith (· + ·) a b
def rowL (a : Trm) (q : List Trm) : List Trm := q.map fun b => (zipAdd a.1 b.1, a.2 * b.2)
def prodL : List Trm → List Trm → List Trm
  | [], _ => []
  | a :: p, q => rowL a q ++ prodL p q
theorem L_row (φ : Mon → Int) (a : Trm) : ∀ q, L φ (rowL a q) = a.2 * L (fun m => φ (zipAdd a.1 m)) q
  | [] => by show (0 : Int) = a.2 * 0; omega
  | b :: q => by
    show a.2 * b.2 * φ (zipAdd a.1 b.1) + L φ (rowL a q) = a.2 * (b.2 * φ (zipAdd a.1 b.1) + L _ q)
    rw [L_row φ a q, Int.mul_add, Int.mul_assoc]
theorem row_nrm (a : Trm) : ∀ q, nrm (rowL a q) = a.2.natAbs * nrm q
  | [] => rfl
  | b :: q => by
    show (a.2 * b.2).natAbs + nrm (rowL a q) = a.2.natAbs * (b.2.natAbs + nrm q)
    rw [row_nrm a q, Int.natAbs_mul, Nat.mul_add]
theorem prod_nrm : ∀ p q, nrm (prodL p q) = nrm p * nrm q
  | [], q => by show 0 = 0 * nrm q; omega
  | a :: p, q => by
    show nrm (rowL a q ++ prodL p q) = (a.2.natAbs + nrm p) * nrm q
    rw [nrm_app, row_nrm, prod_nrm p q, Nat.add_mul]
theorem prod_len : ∀ p q, (prodL p q).length = p.length * q.length
  | [], q => by show 0 = 0 * q.length; omega
  | a :: p, q => by
    show (rowL a q ++ prodL p q).length = (p.length + 1) * q.length
    rw [List.length_append, prod_len p q, Nat.add_mul]
    unfold rowL
    rw [List.length_map]
    omega
theorem prod_mem : ∀ {p q : List Trm} {t : Trm}, t ∈ prodL p q → ∃ a ∈ p, ∃ b ∈ q, t.1 = zipAdd a.1 b.1
  | a :: p, q, t, h => by
    rcases List.mem_append.mp (show t ∈ rowL a q ++ prodL p q from h) with z | z
    · obtain ⟨b, hb, rfl⟩ := List.mem_map.mp z
      exact ⟨a, List.mem_cons_self, b, hb, rfl⟩
    · obtain ⟨c, hc, r⟩ := prod_mem z
      exact ⟨c, List.mem_cons_of_mem _ hc, r⟩
theorem L_prod (φ : Mon → Int) : ∀ p q, L φ (prodL p q) = L (fun m => L (fun m' => φ (zipAdd m m')) q) p
  | [], q => rfl
  | a :: p, q => by
    show L φ (rowL a q ++ prodL p q) = a.2 * L (fun m' => φ (zipAdd a.1 m')) q + L _ p
    rw [L_app, L_row, L_prod φ p q]
/-! ### what a def is handed -/
structure Pl (pots c N d : Nat) (p : List Trm) : Prop where
  can : Can p
  len : ∀ t ∈ p, t.1.length = pots
  ct : p.length ≤ c
  nm : nrm p ≤ N
  dg : ∀ t ∈ p, t.1.sum ≤ d
theorem Pl.mono {pots c N d c' N' d' : Nat} {p : List Trm} (h : Pl pots c N d p) (h1 : c ≤ c') (h2 : N ≤ N') (h3 : d ≤ d') : Pl pots c' N' d' p :=
  ⟨h.can, h.len, Nat.le_trans h.ct h1, Nat.le_trans h.nm h2, fun t ht => Nat.le_trans (h.dg t ht) h3⟩
theorem big_gt : (2 ^ 64 : Int) < big := by decide +kernel
theorem small_of {i : Int} (h : i.natAbs < 2 ^ 64) : small i = true := by
  have hb := big_gt
  unfold small
  rw [if_pos (by omega), decide_eq_true (by omega)]
theorem sum_cast : ∀ m : Mon, (m.map fun (n : Nat) => (n : Int)).sum = (m.sum : Int)
  | [] => rfl
  | a :: m => by
    rw [List.map_cons, List.sum_cons, List.sum_cons, sum_cast m]
    omega
theorem Pl.small {pots c N d : Nat} {p : List Trm} (h : Pl pots c N d p) (hN : N < 2 ^ 64) (hd : d < 2 ^ 64) : smallP p := fun t ht => by
  refine ⟨small_of (Nat.lt_of_le_of_lt (Nat.le_trans (nrm_mem ht) h.nm) hN), ?_⟩
  rw [sum_cast]
  have := h.dg t ht
  exact small_of (by omega)
theorem okLen_of {pots : Nat} {p : List Trm} (h : ∀ t ∈ p, t.1.length = pots) : okLen (.int (pots : Nat)) p := fun t ht => by
  rw [eq_int, h t ht, decide_eq_true rfl]
theorem bnd_kD (n : Nat) (p : List Trm) (b : Bool) : (Cell.dT b (kD p)).bnd n = true := by
  show ((kD p).all fun q => q.1.bnd n && q.2.bnd n) = true
  rw [List.all_eq_true]
  intro q hq
  obtain ⟨t, _, rfl⟩ := List.mem_map.mp hq
  show ((mD t.1).bnd n && true) = true
  rw [bnd_pure n _ (mD_pure t.1)]
  rfl
mutual
theorem bnd_mono {a b : Nat} (h : a ≤ b) : ∀ d : D, d.bnd a = true → d.bnd b = true
  | .non, _ => rfl
  | .bl _, _ => rfl
  | .int _, _ => rfl
  | .str _, _ => rfl
  | .tup xs, q => bnds_mono h xs q
  | .ref k, q => by
    have q' : decide (k < a) = true := q
    rw [decide_eq_true_eq] at q'
    show decide (k < b) = true
    rw [decide_eq_true_eq]
    omega
  | .fn _, _ => rfl
theorem bnds_mono {a b : Nat} (h : a ≤ b) : ∀ ds : List D, D.bnds a ds = true → D.bnds b ds = true
  | [], _ => rfl
  | x :: xs, q => by
    have q' : (x.bnd a && D.bnds a xs) = true := q
    rw [Bool.and_eq_true] at q'
    show (x.bnd b && D.bnds b xs) = true
    rw [bnd_mono h x q'.1, bnds_mono h xs q'.2]
    rfl
end
theorem cell_mono (c : Cell) (a b : Nat) (h : a ≤ b) (q : c.bnd a = true) : c.bnd b = true := by
  cases c with
  | lst l xs => exact bnds_mono h xs q
  | ro xs => exact bnds_mono h xs q
  | dT l kvs =>
    have q' : (kvs.all fun p => p.1.bnd a && p.2.bnd a) = true := q
    show (kvs.all fun p => p.1.bnd b && p.2.bnd b) = true
    rw [List.all_eq_true] at q' ⊢
    intro p hp
    have z := q' p hp
    rw [Bool.and_eq_true] at z ⊢
    exact ⟨bnd_mono h _ z.1, bnd_mono h _ z.2⟩
theorem ws_dict {S : Store} (w : WS S) (p : List Trm) : WS (S ++ [.dT false (kD p)]) := WS.push w (bnd_kD _ p false) cell_mono
theorem at_end {S : Store} {c : Cell} : (S ++ [c])[S.length]? = some c := by
  rw [List.getElem?_append_right (Nat.le_refl _), Nat.sub_self]
  rfl
def zs (k : Nat) : Mon := List.replicate k 0
def numM (i : Int) (pots : Nat) : List Trm := tidy [(zs pots, i)]
theorem zs_D (k : Nat) : (List.replicate k [D.int 0]).flatten = (zs k).map nD := by
  induction k with
  | zero => rfl
  | succ k ih =>
    rw [List.replicate_succ, List.flatten_cons, ih]
    rfl
theorem zs_sum : ∀ k, (zs k).sum = 0
  | 0 => rfl
  | k + 1 => by
    show (0 :: zs k).sum = 0
    rw [List.sum_cons, zs_sum k]
theorem zs_len (k : Nat) : (zs k).length = k := List.length_replicate
theorem num_Pl (i : Int) (pots : Nat) : Pl pots 1 i.natAbs 0 (numM i pots) where
  can := can_tidy (by simp [Nd])
  len := fun t ht => by
    have z := (mem_tidy.mp ht).1
    rw [List.mem_singleton.mp z]
    exact zs_len pots
  ct := len_tidy _
  nm := nrm_tidy _
  dg := fun t ht => by
    have z := (mem_tidy.mp ht).1
    rw [List.mem_singleton.mp z]
    exact Nat.le_of_eq (zs_sum pots)
theorem L_num (φ : Mon → Int) (i : Int) (pots : Nat) : L φ (numM i pots) = i * φ (zs pots) := by
  unfold numM
  rw [L_tidy]
  show i * φ (zs pots) + 0 = _
  omega
theorem t_number (n : Nat) (i : Int) (pots : Nat) (hi : i.natAbs < 2 ^ 64) (hp : pots ≤ 1000) {S : Store} (w : WS S) : callN F (n + 3) 4 [.int i, .int (pots : Nat)] S = .ok (.v (pD (numM i pots))) S := by
  rw [callN_at (fd := f_number) rfl rfl]
  show fin0 (svs (n + 2) (callN F (n + 2)) f_number.body [some (.int i), some (.int (pots : Nat))] S) = _
  have e1 : bin2 .mul (.v (.tup [.int 0])) (.v (.int (pots : Nat))) S = some (.v (mD (zs pots))) := by
    show (if -(2 ^ 63) ≤ ((pots : Nat) : Int) ∧ ((pots : Nat) : Int) ≤ 1000 ∧ 1 ≤ 1000 then some (T.v (.tup (List.replicate ((pots : Nat) : Int).toNat [D.int 0]).flatten)) else none) = _
    rw [if_pos ⟨by omega, by omega, by decide⟩, Int.toNat_natCast, zs_D]
    rfl
  have e2 := t_tidied n (ws_dict w [(zs pots, i)]) (k := S.length) (p := [(zs pots, i)]) (pots := .int (pots : Nat)) at_end rfl (by show 1 ≤ 400; decide) (okLen_of fun t ht => by
    rw [List.mem_singleton.mp ht]
    exact zs_len pots) ((num_Pl i pots).small (by omega) (by decide)) (Nat.le_trans (len_tidy _) (by show 1 ≤ 400; decide))
  have e3 : fin S.length (callN F (n + 2) 3 [.ref S.length, .int (pots : Nat)] (S ++ [.dT false (kD [(zs pots, i)])])) = .ok (.v (pD (numM i pots))) S := by
    rw [e2]
    exact fin_v w (pD_pure _)
  have e4 : (mD (zs pots)).isKey = true := mD_key _
  have e5 : (ev (callN F (n + 2)) ((Ex.bin Op2.mul (Ex.tup [Ex.c (D.int 0)]) (Ex.v 1)).dT1 (Ex.v 0))).E [some (.int i), some (.int (pots : Nat))] S = .ok (.t (kD [(zs pots, i)])) S := by
    have a1 : (ev (callN F (n + 2)) (Ex.bin Op2.mul (Ex.tup [Ex.c (D.int 0)]) (Ex.v 1))).E [some (.int i), some (.int (pots : Nat))] S = .ok (.v (mD (zs pots))) S := by
      show opt (bin2 .mul (.v (.tup [.int 0])) (.v (.int (pots : Nat))) S) S = _
      rw [e1]
      rfl
    rw [ev_dT1, a1, bind_ok, mat_v, bind_ok]
    show (if (mD (zs pots)).isKey then R.ok (T.t [(mD (zs pots), D.int i)]) S else .bad) = _
    rw [if_pos e4]
    rfl
  have e6 : (ev (callN F (n + 2)) (Ex.call 3 [(Ex.bin Op2.mul (Ex.tup [Ex.c (D.int 0)]) (Ex.v 1)).dT1 (Ex.v 0), Ex.v 1])).E [some (.int i), some (.int (pots : Nat))] S = .ok (.v (pD (numM i pots))) S := by
    rw [ev_call, evs_cons, evs_cons, evs_nil, evM_cons', e5, bind_ok, mat_t, bind_ok, evM_cons', ev_v]
    exact e3
  unfold f_number
  rw [svs_cons, sv_ret, e6]
  rfl
end K64
-- L7
set_option Elab.async false
set_option linter.all false
set_option maxRecDepth 100000
set_option maxHeartbeats 400000
/-! L7: pots_of, plus, negative, minus. -/
namespace Ev
def contS (r : SR) (k : Env → Store → SR) : SR := match r with
  | .ok .nx ρ1 S1 => k ρ1 S1
  | .ok .ct ρ1 S1 => k ρ1 S1
  | .ok .bk ρ1 S1 => .ok .nx ρ1 S1
  | r => r
theorem loopS_nil {f : D → Env → Store → SR} {ρ : Env} {S : Store} : loopS f [] ρ S = .ok .nx ρ S := rfl
theorem loopS_cons {f : D → Env → Store → SR} {x : D} {xs : List D} {ρ : Env} {S : Store} : loopS f (x :: xs) ρ S = contS (f x ρ S) fun ρ1 S1 => loopS f xs ρ1 S1 := by
  conv => lhs; unfold loopS
  cases f x ρ S with
  | ok fl a b => cases fl <;> rfl
  | exc => rfl
  | bad => rfl
theorem contS_nx {ρ : Env} {S : Store} {k : Env → Store → SR} : contS (.ok .nx ρ S) k = k ρ S := rfl
theorem contS_rt {ρ : Env} {S : Store} {t : T} {k : Env → Store → SR} : contS (.ok (.rt t) ρ S) k = .ok (.rt t) ρ S := rfl
end Ev
namespace K64
open PySem Ev
theorem ne_nil (p : List Trm) (S : Store) : cmp2 .ne (.v (pD p)) (.v (.tup [])) S = some (!p.isEmpty) := by
  have h : cmp2 .eq (.v (pD p)) (.v (.tup [])) S = some p.isEmpty := by
    show eqT _ _ S = _
    unfold eqT
    have e1 : toPy (.v (pD p)) S = some (pD p).py := by
      show (if (pD p).pure then some (pD p).py else none) = _
      rw [if_pos (pD_pure p)]
    have e2 : toPy (.v (.tup [])) S = some (.tuple []) := rfl
    rw [e1, e2]
    show (if min (pD p).py.depth (PyData.tuple []).depth ≤ 60 then some (PyData.eqv (pD p).py (.tuple [])) else none) = _
    have d : (PyData.tuple []).depth ≤ 60 := by simp [PyData.depth, PyData.depthAll]
    rw [if_pos (Nat.le_trans (Nat.min_le_right _ _) d)]
    cases p with
    | nil =>
      show some (PyData.eqv (.tuple []) (.tuple [])) = _
      simp [PyData.eqv, PyData.eqvAll]
    | cons t r =>
      show some (PyData.eqv (.tuple ((tD t).py :: D.pys (r.map tD))) (.tuple [])) = _
      simp [PyData.eqv, PyData.eqvAll]
  show (cmp2 .eq (.v (pD p)) (.v (.tup [])) S).map (fun k => !k) = _
  rw [h]
  rfl
theorem atI0 {α : Type} (a : α) (r : List α) : L2.atI (a :: r) 0 = some a := by simp [L2.atI, L2.ixN]
theorem atI1 {α : Type} (a b : α) (r : List α) : L2.atI (a :: b :: r) 1 = some b := by
  have h : (1 : Int) < ((r.length : Nat) : Int) + 1 + 1 := by omega
  simp [L2.atI, L2.ixN, h]
def potsD (p q : List Trm) : D := match p with
  | t :: _ => .int (t.1.length : Nat)
  | [] => (match q with
    | t :: _ => .int (t.1.length : Nat)
    | [] => .non)
theorem potsD_pure (p q : List Trm) : (potsD p q).pure = true := by
  unfold potsD
  split
  · rfl
  · split <;> rfl
abbrev potsBody : List St := [St.ite (Ex.cmp Cm.ne (Ex.v 2) (Ex.tup []))
          [St.ret (Ex.bi Bi.len [((Ex.v 2).ix (Ex.c (D.int 0))).ix (Ex.c (D.int 0))])] []]
theorem pots_turn {n : Nat} {C : Calls} (a b : Option D) (t : Trm) (r : List Trm) (S : Store) : svs n C potsBody [a, b, some (pD (t :: r))] S = .ok (.rt (.v (.int (t.1.length : Nat)))) [a, b, some (pD (t :: r))] S := by
  have h1 : (ev C (Ex.cmp Cm.ne (Ex.v 2) (Ex.tup []))).B [a, b, some (pD (t :: r))] S = .ok true S := by
    show opt (cmp2 .ne (.v (pD (t :: r))) (.v (.tup [])) S) S = _
    rw [ne_nil]
    rfl
  have h2 : (ev C (Ex.bi Bi.len [((Ex.v 2).ix (Ex.c (D.int 0))).ix (Ex.c (D.int 0))])).E [a, b, some (pD (t :: r))] S = .ok (.v (.int (t.1.length : Nat))) S := by
    have g1 : (ev C ((Ex.v 2).ix (Ex.c (D.int 0)))).E [a, b, some (pD (t :: r))] S = .ok (.v (tD t)) S := by
      show opt ((ixAt (tD t :: r.map tD) 0).map T.v) S = _
      rw [show ixAt (tD t :: r.map tD) 0 = some (tD t) from atI0 _ _]
      rfl
    have g2 : (ev C (((Ex.v 2).ix (Ex.c (D.int 0))).ix (Ex.c (D.int 0)))).E [a, b, some (pD (t :: r))] S = .ok (.v (mD t.1)) S := by
      rw [ev_ix, g1, bind_ok, ev_c, bind_ok]
      show opt ((ixAt [mD t.1, .int t.2] 0).map T.v) S = _
      rw [show ixAt [mD t.1, D.int t.2] 0 = some (mD t.1) from atI0 _ _]
      rfl
    rw [ev_bi, evs_cons, evs_nil, evTs_cons, g2, bind_ok, evTs_nil, bind_ok, bind_ok]
    show R.ok (T.v (.int ((t.1.map nD).length : Nat))) S = _
    rw [List.length_map]
  rw [svs_cons, sv_ite, h1, thenS_ok, if_pos rfl, svs_cons, sv_ret, h2]
  rfl
theorem pots_skip {n : Nat} {C : Calls} (a b : Option D) (S : Store) : svs n C potsBody [a, b, some (pD [])] S = .ok .nx [a, b, some (pD [])] S := by
  have h1 : (ev C (Ex.cmp Cm.ne (Ex.v 2) (Ex.tup []))).B [a, b, some (pD [])] S = .ok false S := by
    show opt (cmp2 .ne (.v (pD [])) (.v (.tup [])) S) S = _
    rw [ne_nil]
    rfl
  rw [svs_cons, sv_ite, h1]
  rfl
theorem t_pots (n : Nat) (p q : List Trm) (S : Store) : callN F (n + 1) 6 [pD p, pD q] S = .ok (.v (potsD p q)) S := by
  rw [callN_at (fd := f_pots_of) rfl rfl]
  have it : (ev (callN F n) (Ex.tup [Ex.v 0, Ex.v 1])).I [some (pD p), some (pD q), none] S = .ok ([pD p, pD q], none) S := rfl
  have e : ∀ x : SR, loopS (fun x ρ1 S2 => match asg (.v 2) x ρ1 with | some ρ2 => svs n (callN F n) potsBody ρ2 S2 | none => .bad) [pD p, pD q] [some (pD p), some (pD q), none] S = x →
      fin0 (seqS x fun ρ1 S1 => svs n (callN F n) [St.ret (Ex.c D.non)] ρ1 S1) = .ok (.v (potsD p q)) S → fin0 (svs n (callN F n) f_pots_of.body (startE f_pots_of.nn [pD p, pD q]) S) = .ok (.v (potsD p q)) S := by
    intro x hx h
    unfold f_pots_of
    show fin0 (svs n (callN F n) [St.for (Tg.v 2) (Ex.tup [Ex.v 0, Ex.v 1]) potsBody, St.ret (Ex.c D.non)] [some (pD p), some (pD q), none] S) = _
    rw [svs_cons, sv_for, it, thenS_ok]
    show fin0 (seqS (unlockS none (loopS (fun x ρ1 S2 => match asg (.v 2) x ρ1 with | some ρ2 => svs n (callN F n) potsBody ρ2 S2 | none => .bad) [pD p, pD q] [some (pD p), some (pD q), none] S)) _) = _
    rw [hx]
    rw [show unlockS none x = x by cases x <;> rfl]
    exact h
  cases p with
  | cons t r =>
    refine e (.ok (.rt (.v (.int (t.1.length : Nat)))) [some (pD (t :: r)), some (pD q), some (pD (t :: r))] S) ?_ rfl
    rw [loopS_cons]
    show contS (svs n (callN F n) potsBody [some (pD (t :: r)), some (pD q), some (pD (t :: r))] S) _ = _
    rw [pots_turn, contS_rt]
  | nil =>
    cases q with
    | cons t r =>
      refine e (.ok (.rt (.v (.int (t.1.length : Nat)))) [some (pD []), some (pD (t :: r)), some (pD (t :: r))] S) ?_ rfl
      rw [loopS_cons]
      show contS (svs n (callN F n) potsBody [some (pD []), some (pD (t :: r)), some (pD [])] S) _ = _
      rw [pots_skip, contS_nx, loopS_cons]
      show contS (svs n (callN F n) potsBody [some (pD []), some (pD (t :: r)), some (pD (t :: r))] S) _ = _
      rw [pots_turn, contS_rt]
    | nil =>
      refine e (.ok .nx [some (pD []), some (pD []), some (pD [])] S) ?_ rfl
      rw [loopS_cons]
      show contS (svs n (callN F n) potsBody [some (pD []), some (pD []), some (pD [])] S) _ = _
      rw [pots_skip, contS_nx, loopS_cons]
      show contS (svs n (callN F n) potsBody [some (pD []), some (pD []), some (pD [])] S) _ = _
      rw [pots_skip, contS_nx]
      rfl
/-! ### plus -/
theorem putM_nd_app : ∀ (p acc : List Trm), Nd (acc ++ p) → p.foldl (fun a t => putM a t.1 t.2) acc = acc ++ p
  | [], acc, _ => by rw [List.append_nil]; rfl
  | t :: p, acc, h => by
    have e : putM acc t.1 t.2 = acc ++ [t] := by
      unfold putM
      rw [if_neg]
      intro z
      obtain ⟨s, hs, e⟩ := List.any_eq_true.mp z
      have e' : s.1 = t.1 := by simpa using e
      unfold Nd at h
      rw [List.map_append, List.nodup_append] at h
      exact h.2.2 s.1 (List.mem_map.mpr ⟨s, hs, rfl⟩) t.1 List.mem_cons_self e'
    show p.foldl _ (putM acc t.1 t.2) = _
    rw [e, putM_nd_app p (acc ++ [t]) (by rw [List.append_assoc]; exact h), List.append_assoc]
    rfl
theorem fold_kD : ∀ (p acc : List Trm), (kD p).foldl (fun a q => putD a q.1 q.2) (kD acc) = kD (p.foldl (fun a t => putM a t.1 t.2) acc)
  | [], _ => rfl
  | t :: p, acc => by
    show (kD p).foldl _ (putD (kD acc) (mD t.1) (.int t.2)) = _
    rw [put_kD, fold_kD p]
    rfl
theorem pairs_pD : ∀ p : List Trm, pairs (p.map tD) = some (kD p)
  | [] => rfl
  | t :: p => by
    show (if (mD t.1).isKey then (pairs (p.map tD)).map ((mD t.1, D.int t.2) :: ·) else none) = _
    rw [if_pos (mD_key _), pairs_pD p]
    rfl
theorem dict_pD {p : List Trm} (nd : Nd p) (hl : p.length ≤ lim) (S : Store) : biF .dict [.v (pD p)] S = some (.t (kD p)) := by
  show (if (p.map tD).length ≤ lim then (pairs (p.map tD)).map (fun kvs => T.t (kvs.foldl (fun acc q => putD acc q.1 q.2) [])) else none) = _
  rw [List.length_map, if_pos hl, pairs_pD]
  show some (T.t ((kD p).foldl (fun acc q => putD acc q.1 q.2) (kD []))) = _
  rw [fold_kD, putM_nd_app p [] nd]
  rfl
/-- terms[m] = terms.get(m, 0) + f, at the store's end -/
theorem set_end {S : Store} {p : List Trm} {m : Mon} {v : Int} (hl : p.length < lim) : setF (.v (.ref S.length)) (.v (mD m)) (.int v) (S ++ [Cell.dT false (kD p)]) = some (S ++ [Cell.dT false (kD (putM p m v))]) := by
  show (match (S ++ [Cell.dT false (kD p)])[S.length]?, mD m with
    | some (.lst false xs), .int j => (match L2.ixN xs.length j with
      | some q => some ((S ++ [Cell.dT false (kD p)]).set S.length (.lst false (xs.set q (.int v))))
      | none => none)
    | some (.dT false kvs), k' => if k'.isKey ∧ kvs.length < lim then some ((S ++ [Cell.dT false (kD p)]).set S.length (Cell.dT false (putD kvs k' (.int v)))) else none
    | _, _ => none) = _
  rw [at_end]
  show (if (mD m).isKey ∧ (kD p).length < lim then some ((S ++ [Cell.dT false (kD p)]).set S.length (Cell.dT false (putD (kD p) (mD m) (.int v)))) else none) = _
  have hlen : (kD p).length = p.length := List.length_map _
  rw [hlen, if_pos ⟨mD_key m, hl⟩, put_kD, List.set_append_right _ _ (Nat.le_refl _), Nat.sub_self]
  rfl
theorem get_end {S : Store} {p : List Trm} {m : Mon} : meF .get2 (.v (.ref S.length)) [.v (mD m), .v (.int 0)] (S ++ [Cell.dT false (kD p)]) = .ok (.v (.int (getM p m))) (S ++ [Cell.dT false (kD p)]) := by
  have ha : asT (.v (.ref S.length)) (S ++ [Cell.dT false (kD p)]) = some (kD p) := by
    show (match (S ++ [Cell.dT false (kD p)])[S.length]? with | some (.dT _ kvs) => some kvs | _ => none) = _
    rw [at_end]
  show (match asT (.v (.ref S.length)) (S ++ [Cell.dT false (kD p)]) with
    | some kvs => if (mD m).isKey then R.ok (T.v ((getD kvs (mD m)).getD (.int 0))) (S ++ [Cell.dT false (kD p)]) else .bad
    | none => .bad) = _
  rw [ha]
  show (if (mD m).isKey then R.ok (T.v ((getD (kD p) (mD m)).getD (.int 0))) (S ++ [Cell.dT false (kD p)]) else .bad) = _
  rw [if_pos (mD_key m), get_kD]
theorem rcv_end {S : Store} {p : List Trm} : rcv .get2 (.v (.ref S.length)) (S ++ [Cell.dT false (kD p)]) = true := by
  show (asT (.v (.ref S.length)) (S ++ [Cell.dT false (kD p)])).isSome = true
  have ha : asT (.v (.ref S.length)) (S ++ [Cell.dT false (kD p)]) = some (kD p) := by
    show (match (S ++ [Cell.dT false (kD p)])[S.length]? with | some (.dT _ kvs) => some kvs | _ => none) = _
    rw [at_end]
  rw [ha]
  rfl
end K64
-- L8
set_option Elab.async false
set_option linter.all false
set_option maxRecDepth 100000
set_option maxHeartbeats 400000
/-! L8: plus, negative, minus. -/
namespace K64
open PySem Ev
abbrev plusBody : List St := [St.seti (Ex.v 2) (Ex.v 3) (Ex.bin Op2.add (Ex.me Me.get2 (Ex.v 2) [Ex.v 3, Ex.c (D.int 0)]) (Ex.v 4))]
theorem plus_turn {n : Nat} {C : Calls} (a b : Option D) (S : Store) (acc : List Trm) (t : Trm) (hl : acc.length < lim) :
    svs n C plusBody [a, b, some (.ref S.length), some (mD t.1), some (.int t.2)] (S ++ [Cell.dT false (kD acc)]) = .ok .nx [a, b, some (.ref S.length), some (mD t.1), some (.int t.2)] (S ++ [Cell.dT false (kD (addM acc t.1 t.2))]) := by
  have g : (ev C (Ex.me Me.get2 (Ex.v 2) [Ex.v 3, Ex.c (D.int 0)])).E [a, b, some (.ref S.length), some (mD t.1), some (.int t.2)] (S ++ [Cell.dT false (kD acc)]) = .ok (.v (.int (getM acc t.1))) (S ++ [Cell.dT false (kD acc)]) := by
    show (if rcv .get2 (.v (.ref S.length)) (S ++ [Cell.dT false (kD acc)]) then meF .get2 (.v (.ref S.length)) [.v (mD t.1), .v (.int 0)] (S ++ [Cell.dT false (kD acc)]) else .bad) = _
    rw [rcv_end, if_pos rfl, get_end]
  have g2 : (ev C (Ex.bin Op2.add (Ex.me Me.get2 (Ex.v 2) [Ex.v 3, Ex.c (D.int 0)]) (Ex.v 4))).E [a, b, some (.ref S.length), some (mD t.1), some (.int t.2)] (S ++ [Cell.dT false (kD acc)]) = .ok (.v (.int (getM acc t.1 + t.2))) (S ++ [Cell.dT false (kD acc)]) := by
    rw [ev_bin, g, bind_ok]
    rfl
  rw [svs_cons, sv_seti, g2, bind_ok, mat_v, thenS_ok]
  show seqS (thenS (optS (setF (.v (.ref S.length)) (.v (mD t.1)) (.int (getM acc t.1 + t.2)) (S ++ [Cell.dT false (kD acc)]))) _ _) _ = _
  rw [set_end hl]
  rfl
theorem plus_loop {n : Nat} {C : Calls} (a b : Option D) (S : Store) : ∀ (q acc : List Trm) (x3 x4 : Option D), acc.length + q.length < lim →
    ∃ y3 y4, loopS (fun x ρ1 S2 => match asg (.tup [.v 3, .v 4]) x ρ1 with | some ρ2 => svs n C plusBody ρ2 S2 | none => .bad) (q.map tD) [a, b, some (.ref S.length), x3, x4] (S ++ [Cell.dT false (kD acc)]) =
      .ok .nx [a, b, some (.ref S.length), y3, y4] (S ++ [Cell.dT false (kD (addAll acc q))])
  | [], acc, x3, x4, _ => ⟨x3, x4, rfl⟩
  | t :: q, acc, x3, x4, h => by
    have hl : acc.length < lim := by
      rw [List.length_cons] at h
      omega
    have hl2 : (addM acc t.1 t.2).length + q.length < lim := by
      have := len_put acc t.1 (getM acc t.1 + t.2)
      rw [List.length_cons] at h
      unfold addM
      omega
    obtain ⟨y3, y4, e⟩ := plus_loop a b S q (addM acc t.1 t.2) (some (mD t.1)) (some (.int t.2)) hl2
    refine ⟨y3, y4, ?_⟩
    rw [List.map_cons, loopS_cons]
    show contS (svs n C plusBody [a, b, some (.ref S.length), some (mD t.1), some (.int t.2)] (S ++ [Cell.dT false (kD acc)])) _ = _
    rw [plus_turn a b S acc t hl, contS_nx]
    exact e
def plusM (p q : List Trm) : List Trm := tidy (addAll p q)
theorem t_plus (n : Nat) {p q : List Trm} {S : Store} (w : WS S) (nd : Nd p) (hl : p.length + q.length ≤ 400) (hL : okLen (potsD p q) (addAll p q)) (hs : smallP (plusM p q)) :
    callN F (n + 3) 7 [pD p, pD q] S = .ok (.v (pD (plusM p q))) (S ++ [Cell.dT false (kD (addAll p q))]) := by
  rw [callN_at (fd := f_plus) rfl rfl]
  have lm : (400 : Nat) < lim := by decide
  have hal := addAll_len q p
  have i1 : (ev (callN F (n + 2)) (Ex.bi Bi.dict [Ex.v 0])).E [some (pD p), some (pD q), none, none, none] S = .ok (.t (kD p)) S := by
    show opt (biF .dict [.v (pD p)] S) S = _
    rw [dict_pD nd (by omega)]
    rfl
  obtain ⟨y3, y4, lp⟩ := plus_loop (n := n + 2) (C := callN F (n + 2)) (some (pD p)) (some (pD q)) S q p none none (by omega)
  have it : (ev (callN F (n + 2)) (Ex.v 1)).I [some (pD p), some (pD q), some (.ref S.length), none, none] (S ++ [Cell.dT false (kD p)]) = .ok (q.map tD, none) (S ++ [Cell.dT false (kD p)]) := rfl
  have w1 := ws_dict w (addAll p q)
  have c6 : fin (S ++ [Cell.dT false (kD (addAll p q))]).length (callN F (n + 2) 6 [pD p, pD q] (S ++ [Cell.dT false (kD (addAll p q))])) = .ok (.v (potsD p q)) (S ++ [Cell.dT false (kD (addAll p q))]) := by
    rw [t_pots (n + 1) p q]
    exact fin_v0 w1 (potsD_pure p q)
  have c3 := t_tidied n w1 (k := S.length) (p := addAll p q) (pots := potsD p q) at_end (potsD_pure p q) (by omega) hL hs (Nat.le_trans (len_tidy _) (by omega))
  have c3' : fin (S ++ [Cell.dT false (kD (addAll p q))]).length (callN F (n + 2) 3 [.ref S.length, potsD p q] (S ++ [Cell.dT false (kD (addAll p q))])) = .ok (.v (pD (plusM p q))) (S ++ [Cell.dT false (kD (addAll p q))]) := by
    rw [c3]
    exact fin_v0 w1 (pD_pure _)
  have r1 : (ev (callN F (n + 2)) (Ex.call 3 [Ex.v 2, Ex.call 6 [Ex.v 0, Ex.v 1]])).E [some (pD p), some (pD q), some (.ref S.length), y3, y4] (S ++ [Cell.dT false (kD (addAll p q))]) = .ok (.v (pD (plusM p q))) (S ++ [Cell.dT false (kD (addAll p q))]) := by
    have r6 : (ev (callN F (n + 2)) (Ex.call 6 [Ex.v 0, Ex.v 1])).E [some (pD p), some (pD q), some (.ref S.length), y3, y4] (S ++ [Cell.dT false (kD (addAll p q))]) = .ok (.v (potsD p q)) (S ++ [Cell.dT false (kD (addAll p q))]) := c6
    rw [ev_call, evs_cons, evs_cons, evs_nil, evM_cons', ev_v]
    show fin _ (((evM [ev (callN F (n + 2)) (Ex.call 6 [Ex.v 0, Ex.v 1])] [some (pD p), some (pD q), some (.ref S.length), y3, y4] (S ++ [Cell.dT false (kD (addAll p q))])).bind fun ds S3 => R.ok (D.ref S.length :: ds) S3).bind fun ds S1 => callN F (n + 2) 3 ds S1) = _
    rw [evM_cons', r6]
    exact c3'
  show fin0 (svs (n + 2) (callN F (n + 2)) f_plus.body [some (pD p), some (pD q), none, none, none] S) = _
  unfold f_plus
  rw [svs_cons, sv_asg, i1, bind_ok, mat_t, thenS_ok]
  show fin0 (seqS (SR.ok .nx [some (pD p), some (pD q), some (.ref S.length), none, none] (S ++ [Cell.dT false (kD p)])) _) = _
  rw [seqS_nx, svs_cons, sv_for, it, thenS_ok]
  show fin0 (seqS (unlockS none (loopS (fun x ρ1 S2 => match asg (.tup [.v 3, .v 4]) x ρ1 with | some ρ2 => svs (n + 2) (callN F (n + 2)) plusBody ρ2 S2 | none => .bad) (q.map tD) [some (pD p), some (pD q), some (.ref S.length), none, none] (S ++ [Cell.dT false (kD p)]))) _) = _
  rw [lp]
  show fin0 (seqS (SR.ok .nx [some (pD p), some (pD q), some (.ref S.length), y3, y4] (S ++ [Cell.dT false (kD (addAll p q))])) _) = _
  rw [seqS_nx, svs_cons, sv_ret, r1]
  rfl
/-! ### negative, minus -/
def negM (p : List Trm) : List Trm := p.map fun t => (t.1, -t.2)
theorem t_negative (n : Nat) {p : List Trm} (S : Store) (hl : p.length ≤ lim) : callN F (n + 1) 8 [pD p] S = .ok (.v (pD (negM p))) S := by
  rw [callN_at (fd := f_negative) rfl rfl]
  have c : (ev (callN F n) (Ex.lc [1, 2] (Ex.tup [Ex.v 1, (Ex.v 2).neg]) (Tg.tup [Tg.v 1, Tg.v 2]) (Ex.v 0) [])).E [some (pD p), none, none] S = .ok (.l ((negM p).map tD)) S := by
    have it : (ev (callN F n) (.v 0)).I [some (pD p), none, none] S = .ok (p.map tD, none) S := rfl
    rw [ev_lc, evL_ok (g := fun x => some (match x with | .tup [m, .int f] => .tup [m, .int (-f)] | x => x)) it (by rw [List.length_map]; exact hl) (fun x hx => ?_) rfl]
    · rw [fm_some]
      unfold negM
      rw [List.map_map, List.map_map]
      rfl
    · obtain ⟨t, _, rfl⟩ := List.mem_map.mp hx
      rfl
  have r : (ev (callN F n) (Ex.bi Bi.tuple [Ex.lc [1, 2] (Ex.tup [Ex.v 1, (Ex.v 2).neg]) (Tg.tup [Tg.v 1, Tg.v 2]) (Ex.v 0) []])).E [some (pD p), none, none] S = .ok (.v (pD (negM p))) S := by
    rw [ev_bi, evs_cons, evs_nil, evTs_cons, c]
    rfl
  show fin0 (svs n (callN F n) f_negative.body [some (pD p), none, none] S) = _
  unfold f_negative
  rw [svs_cons, sv_ret, r]
  rfl
def minusM (p q : List Trm) : List Trm := plusM p (negM q)
theorem t_minus (n : Nat) {p q : List Trm} {S : Store} (w : WS S) (nd : Nd p) (hl : p.length + q.length ≤ 400) (hL : okLen (potsD p (negM q)) (addAll p (negM q))) (hs : smallP (minusM p q)) :
    callN F (n + 4) 9 [pD p, pD q] S = .ok (.v (pD (minusM p q))) S := by
  rw [callN_at (fd := f_minus) rfl rfl]
  have lm : (400 : Nat) < lim := by decide
  have hn : (negM q).length = q.length := List.length_map _
  have r8 : (ev (callN F (n + 3)) (Ex.call 8 [Ex.v 1])).E [some (pD p), some (pD q)] S = .ok (.v (pD (negM q))) S := by
    show fin S.length (callN F (n + 3) 8 [pD q] S) = _
    rw [t_negative (n + 2) S (by omega)]
    exact fin_v0 w (pD_pure _)
  have r7 : (ev (callN F (n + 3)) (Ex.call 7 [Ex.v 0, Ex.call 8 [Ex.v 1]])).E [some (pD p), some (pD q)] S = .ok (.v (pD (minusM p q))) S := by
    rw [ev_call, evs_cons, evs_cons, evs_nil, evM_cons', ev_v]
    show fin _ (((evM [ev (callN F (n + 3)) (Ex.call 8 [Ex.v 1])] [some (pD p), some (pD q)] S).bind fun ds S3 => R.ok (pD p :: ds) S3).bind fun ds S1 => callN F (n + 3) 7 ds S1) = _
    rw [evM_cons', r8]
    show fin S.length (callN F (n + 3) 7 [pD p, pD (negM q)] S) = _
    rw [t_plus n w nd (by omega) hL hs]
    exact fin_v w (pD_pure _)
  show fin0 (svs (n + 3) (callN F (n + 3)) f_minus.body [some (pD p), some (pD q)] S) = _
  unfold f_minus
  rw [svs_cons, sv_ret, r7]
  rfl
end K64
-- L9
set_option Elab.async false
set_option linter.all false
set_option maxRecDepth 100000
set_option maxHeartbeats 400000
/-! L9: times. -/
namespace K64
open PySem Ev
theorem mulOk_of {i j : Int} (h : i.natAbs < 2 ^ 64) : mulOk i j = true := by
  unfold mulOk
  rw [decide_eq_true h]
  rfl
theorem zipD_m : ∀ a b : Mon, zipD (a.map nD) (b.map nD) = (a.zip b).map fun q => .tup [nD q.1, nD q.2]
  | [], _ => by simp [zipD]
  | _ :: _, [] => by simp [zipD]
  | a :: as, b :: bs => by
    show D.tup [nD a, nD b] :: zipD (as.map nD) (bs.map nD) = _
    rw [zipD_m as bs]
    rfl
theorem zipAdd_zip : ∀ a b : Mon, zipAdd a b = (a.zip b).map fun q => q.1 + q.2
  | [], _ => by simp [zipAdd]
  | _ :: _, [] => by simp [zipAdd]
  | a :: as, b :: bs => by
    have ih := zipAdd_zip as bs
    unfold zipAdd at ih ⊢
    rw [List.zipWith_cons_cons, ih]
    rfl
abbrev zipEx : Ex := Ex.bi Bi.tuple [Ex.lc [8, 9] (Ex.bin Op2.add (Ex.v 8) (Ex.v 9)) (Tg.tup [Tg.v 8, Tg.v 9]) (Ex.bi Bi.zip [Ex.v 3, Ex.v 5]) []]
theorem zip_ev {C : Calls} (A B R4 R6 R7 R8 R9 R2 : Option D) (a b : Mon) (S : Store) (hl : a.length ≤ lim) :
    (ev C zipEx).E [A, B, R2, some (mD a), R4, some (mD b), R6, R7, R8, R9] S = .ok (.v (mD (zipAdd a b))) S := by
  have it : (ev C (Ex.bi Bi.zip [Ex.v 3, Ex.v 5])).I [A, B, R2, some (mD a), R4, some (mD b), R6, R7, R8, R9] S = .ok ((a.zip b).map fun q => .tup [nD q.1, nD q.2], none) S := by
    show R.ok (zipD (a.map nD) (b.map nD), none) S = _
    rw [zipD_m]
  have c : (ev C (Ex.lc [8, 9] (Ex.bin Op2.add (Ex.v 8) (Ex.v 9)) (Tg.tup [Tg.v 8, Tg.v 9]) (Ex.bi Bi.zip [Ex.v 3, Ex.v 5]) [])).E [A, B, R2, some (mD a), R4, some (mD b), R6, R7, R8, R9] S = .ok (.l ((zipAdd a b).map nD)) S := by
    rw [ev_lc, evL_ok (g := fun x => some (match x with | .tup [.int i, .int j] => .int (i + j) | x => x)) it (by rw [List.length_map, List.length_zip]; omega) (fun x hx => ?_) rfl]
    · rw [fm_some, zipAdd_zip, List.map_map, List.map_map]
      rfl
    · obtain ⟨q, _, rfl⟩ := List.mem_map.mp hx
      rfl
  rw [ev_bi, evs_cons, evs_nil, evTs_cons, c]
  rfl
abbrev timesIn : List St := [St.asg (Tg.v 7) zipEx, St.seti (Ex.v 2) (Ex.v 7) (Ex.bin Op2.add (Ex.me Me.get2 (Ex.v 2) [Ex.v 7, Ex.c (D.int 0)]) (Ex.bin Op2.mul (Ex.v 4) (Ex.v 6)))]
theorem times_turn {n : Nat} {C : Calls} (A B R7 R8 R9 : Option D) (S : Store) (acc : List Trm) (a b : Trm) (hl : acc.length < lim) (ha : a.1.length ≤ lim) (hm : a.2.natAbs < 2 ^ 64) :
    svs n C timesIn [A, B, some (.ref S.length), some (mD a.1), some (.int a.2), some (mD b.1), some (.int b.2), R7, R8, R9] (S ++ [Cell.dT false (kD acc)]) =
      .ok .nx [A, B, some (.ref S.length), some (mD a.1), some (.int a.2), some (mD b.1), some (.int b.2), some (mD (zipAdd a.1 b.1)), R8, R9] (S ++ [Cell.dT false (kD (addM acc (zipAdd a.1 b.1) (a.2 * b.2)))]) := by
  have z := zip_ev (C := C) A B (some (.int a.2)) (some (.int b.2)) R7 R8 R9 (some (.ref S.length)) a.1 b.1 (S ++ [Cell.dT false (kD acc)]) ha
  have g : (ev C (Ex.me Me.get2 (Ex.v 2) [Ex.v 7, Ex.c (D.int 0)])).E [A, B, some (.ref S.length), some (mD a.1), some (.int a.2), some (mD b.1), some (.int b.2), some (mD (zipAdd a.1 b.1)), R8, R9] (S ++ [Cell.dT false (kD acc)]) = .ok (.v (.int (getM acc (zipAdd a.1 b.1)))) (S ++ [Cell.dT false (kD acc)]) := by
    show (if rcv .get2 (.v (.ref S.length)) (S ++ [Cell.dT false (kD acc)]) then meF .get2 (.v (.ref S.length)) [.v (mD (zipAdd a.1 b.1)), .v (.int 0)] (S ++ [Cell.dT false (kD acc)]) else .bad) = _
    rw [rcv_end, if_pos rfl, get_end]
  have m : (ev C (Ex.bin Op2.mul (Ex.v 4) (Ex.v 6))).E [A, B, some (.ref S.length), some (mD a.1), some (.int a.2), some (mD b.1), some (.int b.2), some (mD (zipAdd a.1 b.1)), R8, R9] (S ++ [Cell.dT false (kD acc)]) = .ok (.v (.int (a.2 * b.2))) (S ++ [Cell.dT false (kD acc)]) := by
    show opt ((if mulOk a.2 b.2 then some (a.2 * b.2) else none).map fun k => T.v (.int k)) _ = _
    rw [if_pos (mulOk_of hm)]
    rfl
  have g2 : (ev C (Ex.bin Op2.add (Ex.me Me.get2 (Ex.v 2) [Ex.v 7, Ex.c (D.int 0)]) (Ex.bin Op2.mul (Ex.v 4) (Ex.v 6)))).E [A, B, some (.ref S.length), some (mD a.1), some (.int a.2), some (mD b.1), some (.int b.2), some (mD (zipAdd a.1 b.1)), R8, R9] (S ++ [Cell.dT false (kD acc)]) = .ok (.v (.int (getM acc (zipAdd a.1 b.1) + a.2 * b.2))) (S ++ [Cell.dT false (kD acc)]) := by
    rw [ev_bin, g, bind_ok, m, bind_ok]
    rfl
  rw [svs_cons, sv_asg, z, bind_ok, mat_v, thenS_ok]
  show seqS (SR.ok .nx [A, B, some (.ref S.length), some (mD a.1), some (.int a.2), some (mD b.1), some (.int b.2), some (mD (zipAdd a.1 b.1)), R8, R9] (S ++ [Cell.dT false (kD acc)])) _ = _
  rw [seqS_nx, svs_cons, sv_seti, g2, bind_ok, mat_v, thenS_ok]
  show seqS (thenS (optS (setF (.v (.ref S.length)) (.v (mD (zipAdd a.1 b.1))) (.int (getM acc (zipAdd a.1 b.1) + a.2 * b.2)) (S ++ [Cell.dT false (kD acc)]))) _ _) _ = _
  rw [set_end hl]
  rfl
theorem times_in {n : Nat} {C : Calls} (A B R8 R9 : Option D) (S : Store) (a : Trm) (ha : a.1.length ≤ lim) (hm : a.2.natAbs < 2 ^ 64) : ∀ (q acc : List Trm) (x5 x6 x7 : Option D), acc.length + q.length < lim →
    ∃ y5 y6 y7, loopS (fun x ρ1 S2 => match asg (.tup [.v 5, .v 6]) x ρ1 with | some ρ2 => svs n C timesIn ρ2 S2 | none => .bad) (q.map tD) [A, B, some (.ref S.length), some (mD a.1), some (.int a.2), x5, x6, x7, R8, R9] (S ++ [Cell.dT false (kD acc)]) =
      .ok .nx [A, B, some (.ref S.length), some (mD a.1), some (.int a.2), y5, y6, y7, R8, R9] (S ++ [Cell.dT false (kD (addAll acc (rowL a q)))])
  | [], acc, x5, x6, x7, _ => ⟨x5, x6, x7, rfl⟩
  | b :: q, acc, x5, x6, x7, h => by
    have hl : acc.length < lim := by
      rw [List.length_cons] at h
      omega
    have hl2 : (addM acc (zipAdd a.1 b.1) (a.2 * b.2)).length + q.length < lim := by
      have := len_put acc (zipAdd a.1 b.1) (getM acc (zipAdd a.1 b.1) + a.2 * b.2)
      rw [List.length_cons] at h
      unfold addM
      omega
    obtain ⟨y5, y6, y7, e⟩ := times_in A B R8 R9 S a ha hm q (addM acc (zipAdd a.1 b.1) (a.2 * b.2)) (some (mD b.1)) (some (.int b.2)) (some (mD (zipAdd a.1 b.1))) hl2
    refine ⟨y5, y6, y7, ?_⟩
    rw [List.map_cons, loopS_cons]
    show contS (svs n C timesIn [A, B, some (.ref S.length), some (mD a.1), some (.int a.2), some (mD b.1), some (.int b.2), x7, R8, R9] (S ++ [Cell.dT false (kD acc)])) _ = _
    rw [times_turn A B x7 R8 R9 S acc a b hl ha hm, contS_nx]
    exact e
abbrev timesOut : List St := [St.for (Tg.tup [Tg.v 5, Tg.v 6]) (Ex.v 1) timesIn]
theorem times_out {n : Nat} {C : Calls} (A R8 R9 : Option D) (S : Store) (q : List Trm) : ∀ (p acc : List Trm) (x3 x4 x5 x6 x7 : Option D), (∀ a ∈ p, a.1.length ≤ lim ∧ a.2.natAbs < 2 ^ 64) → acc.length + p.length * q.length < lim →
    ∃ y3 y4 y5 y6 y7, loopS (fun x ρ1 S2 => match asg (.tup [.v 3, .v 4]) x ρ1 with | some ρ2 => svs n C timesOut ρ2 S2 | none => .bad) (p.map tD) [A, some (pD q), some (.ref S.length), x3, x4, x5, x6, x7, R8, R9] (S ++ [Cell.dT false (kD acc)]) =
      .ok .nx [A, some (pD q), some (.ref S.length), y3, y4, y5, y6, y7, R8, R9] (S ++ [Cell.dT false (kD (addAll acc (prodL p q)))])
  | [], acc, x3, x4, x5, x6, x7, _, _ => ⟨x3, x4, x5, x6, x7, rfl⟩
  | a :: p, acc, x3, x4, x5, x6, x7, hp, h => by
    obtain ⟨ha, hm⟩ := hp a List.mem_cons_self
    rw [List.length_cons, Nat.add_mul] at h
    have hr : (rowL a q).length = q.length := List.length_map _
    have h1 := addAll_len (rowL a q) acc
    obtain ⟨z5, z6, z7, e1⟩ := times_in (n := n) (C := C) A (some (pD q)) R8 R9 S a ha hm q acc x5 x6 x7 (by omega)
    obtain ⟨y3, y4, y5, y6, y7, e⟩ := times_out (n := n) (C := C) A R8 R9 S q p (addAll acc (rowL a q)) (some (mD a.1)) (some (.int a.2)) z5 z6 z7 (fun b hb => hp b (List.mem_cons_of_mem _ hb)) (by omega)
    refine ⟨y3, y4, y5, y6, y7, ?_⟩
    rw [List.map_cons, loopS_cons]
    have t1 : svs n C timesOut [A, some (pD q), some (.ref S.length), some (mD a.1), some (.int a.2), x5, x6, x7, R8, R9] (S ++ [Cell.dT false (kD acc)]) = .ok .nx [A, some (pD q), some (.ref S.length), some (mD a.1), some (.int a.2), z5, z6, z7, R8, R9] (S ++ [Cell.dT false (kD (addAll acc (rowL a q)))]) := by
      have it : (ev C (Ex.v 1)).I [A, some (pD q), some (.ref S.length), some (mD a.1), some (.int a.2), x5, x6, x7, R8, R9] (S ++ [Cell.dT false (kD acc)]) = .ok (q.map tD, none) (S ++ [Cell.dT false (kD acc)]) := rfl
      rw [svs_cons, sv_for, it, thenS_ok]
      show seqS (unlockS none (loopS (fun x ρ1 S2 => match asg (.tup [.v 5, .v 6]) x ρ1 with | some ρ2 => svs n C timesIn ρ2 S2 | none => .bad) (q.map tD) [A, some (pD q), some (.ref S.length), some (mD a.1), some (.int a.2), x5, x6, x7, R8, R9] (S ++ [Cell.dT false (kD acc)]))) _ = _
      rw [e1]
      rfl
    show contS (svs n C timesOut [A, some (pD q), some (.ref S.length), some (mD a.1), some (.int a.2), x5, x6, x7, R8, R9] (S ++ [Cell.dT false (kD acc)])) _ = _
    rw [t1, contS_nx]
    have e2 : addAll acc (prodL (a :: p) q) = addAll (addAll acc (rowL a q)) (prodL p q) := addAll_app acc (rowL a q) (prodL p q)
    rw [e2]
    exact e
def timesM (p q : List Trm) : List Trm := tidy (addAll [] (prodL p q))
def head0 (p : List Trm) : Nat := match p with
  | t :: _ => t.1.length
  | [] => 0
abbrev timesIf : Ex := (Ex.and [Ex.cmp Cm.ne (Ex.v 0) (Ex.tup []), Ex.cmp Cm.ne (Ex.v 1) (Ex.tup []), Ex.cmp Cm.ne (Ex.bi Bi.len [((Ex.v 0).ix (Ex.c (D.int 0))).ix (Ex.c (D.int 0))]) (Ex.bi Bi.len [((Ex.v 1).ix (Ex.c (D.int 0))).ix (Ex.c (D.int 0))])])
theorem len00 {C : Calls} {ρ : Ev.Env} {S : Store} {i : Nat} {t : Trm} {r : List Trm} (h : ρ[i]? = some (some (pD (t :: r)))) : (ev C (Ex.bi Bi.len [((Ex.v i).ix (Ex.c (D.int 0))).ix (Ex.c (D.int 0))])).E ρ S = .ok (.v (.int (t.1.length : Nat))) S := by
  have g0 : (ev C (Ex.v i)).E ρ S = .ok (.v (pD (t :: r))) S := by
    rw [ev_v, h]
  have g1 : (ev C ((Ex.v i).ix (Ex.c (D.int 0)))).E ρ S = .ok (.v (tD t)) S := by
    rw [ev_ix, g0, bind_ok]
    show opt ((ixAt (tD t :: r.map tD) 0).map T.v) S = _
    rw [show ixAt (tD t :: r.map tD) 0 = some (tD t) from atI0 _ _]
    rfl
  have g2 : (ev C (((Ex.v i).ix (Ex.c (D.int 0))).ix (Ex.c (D.int 0)))).E ρ S = .ok (.v (mD t.1)) S := by
    rw [ev_ix, g1, bind_ok, ev_c, bind_ok]
    show opt ((ixAt [mD t.1, .int t.2] 0).map T.v) S = _
    rw [show ixAt [mD t.1, D.int t.2] 0 = some (mD t.1) from atI0 _ _]
    rfl
  rw [ev_bi, evs_cons, evs_nil, evTs_cons, g2, bind_ok, evTs_nil, bind_ok, bind_ok]
  show R.ok (T.v (.int ((t.1.map nD).length : Nat))) S = _
  rw [List.length_map]
theorem times_if {C : Calls} {p q : List Trm} {P : Nat} (hp : ∀ t ∈ p, t.1.length = P) (hq : ∀ t ∈ q, t.1.length = P) (r : Ev.Env) (S : Store) : (ev C timesIf).B (some (pD p) :: some (pD q) :: r) S = .ok false S := by
  have n0 : (ev C (Ex.cmp Cm.ne (Ex.v 0) (Ex.tup []))).B (some (pD p) :: some (pD q) :: r) S = .ok (!p.isEmpty) S := by
    show opt (cmp2 .ne (.v (pD p)) (.v (.tup [])) S) S = _
    rw [ne_nil]
    rfl
  have n1 : (ev C (Ex.cmp Cm.ne (Ex.v 1) (Ex.tup []))).B (some (pD p) :: some (pD q) :: r) S = .ok (!q.isEmpty) S := by
    show opt (cmp2 .ne (.v (pD q)) (.v (.tup [])) S) S = _
    rw [ne_nil]
    rfl
  rw [ev_andB, evs_cons, evs_cons, evs_cons, evs_nil, evC_cons, n0, bind_ok]
  cases p with
  | nil => rfl
  | cons t p =>
    rw [if_pos (show (!(t :: p).isEmpty) = true from rfl), evC_cons, n1, bind_ok]
    cases q with
    | nil => rfl
    | cons s q =>
      have l0 := len00 (C := C) (ρ := some (pD (t :: p)) :: some (pD (s :: q)) :: r) (S := S) (i := 0) (t := t) (r := p) rfl
      have l1 := len00 (C := C) (ρ := some (pD (t :: p)) :: some (pD (s :: q)) :: r) (S := S) (i := 1) (t := s) (r := q) rfl
      rw [if_pos (show (!(s :: q).isEmpty) = true from rfl), evC_cons, ev_cmpB, l0, bind_ok, l1, bind_ok, ne_int, hp t List.mem_cons_self, hq s List.mem_cons_self, decide_eq_true rfl]
      rfl
theorem t_times (n : Nat) {p q : List Trm} {P : Nat} {S : Store} (w : WS S) (hp : ∀ t ∈ p, t.1.length = P) (hq : ∀ t ∈ q, t.1.length = P) (hP : P ≤ 1000) (hm : ∀ a ∈ p, a.2.natAbs < 2 ^ 64) (hl : p.length * q.length ≤ 400)
    (hL : okLen (potsD p q) (addAll [] (prodL p q))) (hs : smallP (timesM p q)) : callN F (n + 3) 10 [pD p, pD q] S = .ok (.v (pD (timesM p q))) (S ++ [Cell.dT false (kD (addAll [] (prodL p q)))]) := by
  rw [callN_at (fd := f_times) rfl rfl]
  have lm : (400 : Nat) < lim := by decide
  have lm2 : (1000 : Nat) ≤ lim := by decide
  have hal := addAll_len (prodL p q) []
  rw [prod_len, List.length_nil] at hal
  obtain ⟨y3, y4, y5, y6, y7, lp⟩ := times_out (n := n + 2) (C := callN F (n + 2)) (some (pD p)) none none S q p [] none none none none none (fun a ha => ⟨by rw [hp a ha]; omega, hm a ha⟩) (by rw [List.length_nil]; omega)
  have it : (ev (callN F (n + 2)) (Ex.v 0)).I [some (pD p), some (pD q), some (.ref S.length), none, none, none, none, none, none, none] (S ++ [Cell.dT false (kD [])]) = .ok (p.map tD, none) (S ++ [Cell.dT false (kD [])]) := rfl
  have w1 := ws_dict w (addAll [] (prodL p q))
  have c6 : fin (S ++ [Cell.dT false (kD (addAll [] (prodL p q)))]).length (callN F (n + 2) 6 [pD p, pD q] (S ++ [Cell.dT false (kD (addAll [] (prodL p q)))])) = .ok (.v (potsD p q)) (S ++ [Cell.dT false (kD (addAll [] (prodL p q)))]) := by
    rw [t_pots (n + 1) p q]
    exact fin_v0 w1 (potsD_pure p q)
  have c3 := t_tidied n w1 (k := S.length) (p := addAll [] (prodL p q)) (pots := potsD p q) at_end (potsD_pure p q) (by omega) hL hs (Nat.le_trans (len_tidy _) (by omega))
  have c3' : fin (S ++ [Cell.dT false (kD (addAll [] (prodL p q)))]).length (callN F (n + 2) 3 [.ref S.length, potsD p q] (S ++ [Cell.dT false (kD (addAll [] (prodL p q)))])) = .ok (.v (pD (timesM p q))) (S ++ [Cell.dT false (kD (addAll [] (prodL p q)))]) := by
    rw [c3]
    exact fin_v0 w1 (pD_pure _)
  have r1 : (ev (callN F (n + 2)) (Ex.call 3 [Ex.v 2, Ex.call 6 [Ex.v 0, Ex.v 1]])).E [some (pD p), some (pD q), some (.ref S.length), y3, y4, y5, y6, y7, none, none] (S ++ [Cell.dT false (kD (addAll [] (prodL p q)))]) = .ok (.v (pD (timesM p q))) (S ++ [Cell.dT false (kD (addAll [] (prodL p q)))]) := by
    have r6 : (ev (callN F (n + 2)) (Ex.call 6 [Ex.v 0, Ex.v 1])).E [some (pD p), some (pD q), some (.ref S.length), y3, y4, y5, y6, y7, none, none] (S ++ [Cell.dT false (kD (addAll [] (prodL p q)))]) = .ok (.v (potsD p q)) (S ++ [Cell.dT false (kD (addAll [] (prodL p q)))]) := c6
    rw [ev_call, evs_cons, evs_cons, evs_nil, evM_cons', ev_v]
    show fin _ (((evM [ev (callN F (n + 2)) (Ex.call 6 [Ex.v 0, Ex.v 1])] [some (pD p), some (pD q), some (.ref S.length), y3, y4, y5, y6, y7, none, none] (S ++ [Cell.dT false (kD (addAll [] (prodL p q)))])).bind fun ds S3 => R.ok (D.ref S.length :: ds) S3).bind fun ds S1 => callN F (n + 2) 3 ds S1) = _
    rw [evM_cons', r6]
    exact c3'
  show fin0 (svs (n + 2) (callN F (n + 2)) f_times.body [some (pD p), some (pD q), none, none, none, none, none, none, none, none] S) = _
  unfold f_times
  rw [svs_cons, sv_ite, times_if hp hq, thenS_ok, if_neg Bool.false_ne_true, svs_nil, seqS_nx, svs_cons, sv_asg, ev_dT0, bind_ok, mat_t, thenS_ok]
  show fin0 (seqS (SR.ok .nx [some (pD p), some (pD q), some (.ref S.length), none, none, none, none, none, none, none] (S ++ [Cell.dT false (kD [])])) _) = _
  rw [seqS_nx, svs_cons, sv_for, it, thenS_ok]
  show fin0 (seqS (unlockS none (loopS (fun x ρ1 S2 => match asg (.tup [.v 3, .v 4]) x ρ1 with | some ρ2 => svs (n + 2) (callN F (n + 2)) timesOut ρ2 S2 | none => .bad) (p.map tD) [some (pD p), some (pD q), some (.ref S.length), none, none, none, none, none, none, none] (S ++ [Cell.dT false (kD [])]))) _) = _
  rw [lp]
  show fin0 (seqS (SR.ok .nx [some (pD p), some (pD q), some (.ref S.length), y3, y4, y5, y6, y7, none, none] (S ++ [Cell.dT false (kD (addAll [] (prodL p q)))])) _) = _
  rw [seqS_nx, svs_cons, sv_ret, r1]
  rfl
end K64
-- L10
set_option Elab.async false
set_option linter.all false
set_option maxRecDepth 100000
set_option maxHeartbeats 400000
/-! L10: sizes go on; plus, minus, times of what is within its sizes. -/
namespace K64
open PySem Ev
theorem L_neg (φ : Mon → Int) : ∀ p, L φ (negM p) = -L φ p
  | [] => rfl
  | t :: p => by
    show -t.2 * φ t.1 + L φ (negM p) = -(t.2 * φ t.1 + L φ p)
    rw [L_neg φ p, Int.neg_mul]
    omega
theorem nrm_neg : ∀ p, nrm (negM p) = nrm p
  | [] => rfl
  | t :: p => by
    show (-t.2).natAbs + nrm (negM p) = t.2.natAbs + nrm p
    rw [nrm_neg p, Int.natAbs_neg]
theorem okLen_plus {P : Nat} {p q : List Trm} (hp : ∀ t ∈ p, t.1.length = P) (hq : ∀ t ∈ q, t.1.length = P) (r : List Trm) (hr : ∀ t ∈ r, t.1.length = P) (h0 : p = [] → q = [] → r = []) : okLen (potsD p q) r := by
  cases p with
  | cons t p =>
    have e : potsD (t :: p) q = .int (P : Nat) := by
      show D.int (t.1.length : Nat) = _
      rw [hp t List.mem_cons_self]
    rw [e]
    exact okLen_of hr
  | nil =>
    cases q with
    | cons t q =>
      have e : potsD [] (t :: q) = .int (P : Nat) := by
        show D.int (t.1.length : Nat) = _
        rw [hq t List.mem_cons_self]
      rw [e]
      exact okLen_of hr
    | nil =>
      rw [h0 rfl rfl]
      intro t ht
      cases ht
theorem plus_Pl {P c c' N N' d d' : Nat} {p q : List Trm} (hp : Pl P c N d p) (hl : ∀ t ∈ q, t.1.length = P) (hc : q.length ≤ c') (hN : nrm q ≤ N') (hd : ∀ t ∈ q, t.1.sum ≤ d') : Pl P (c + c') (N + N') (max d d') (plusM p q) where
  can := can_tidy (addAll_nd q p hp.can.nd)
  len := fun t ht => addAll_keys (fun m => m.length = P) q p hp.len hl t (mem_tidy.mp ht).1
  ct := by
    have h1 := len_tidy (addAll p q)
    have h2 := addAll_len q p
    have h3 := hp.ct
    unfold plusM
    omega
  nm := by
    have h1 := nrm_tidy (addAll p q)
    have h2 := addAll_nrm q p hp.can.nd
    have h3 := hp.nm
    unfold plusM
    omega
  dg := fun t ht => addAll_keys (fun m => m.sum ≤ max d d') q p (fun s hs => Nat.le_trans (hp.dg s hs) (Nat.le_max_left _ _)) (fun s hs => Nat.le_trans (hd s hs) (Nat.le_max_right _ _)) t (mem_tidy.mp ht).1
theorem L_plus (φ : Mon → Int) {p q : List Trm} (nd : Nd p) : L φ (plusM p q) = L φ p + L φ q := by
  unfold plusM
  rw [L_tidy, addAll_L φ q p nd]
theorem g_plus {n : Nat} {P c c' N N' d d' : Nat} {p q : List Trm} (hp : Pl P c N d p) (hl : ∀ t ∈ q, t.1.length = P) (hc : q.length ≤ c') (hN : nrm q ≤ N') (hd : ∀ t ∈ q, t.1.sum ≤ d') (h1 : c + c' ≤ 400) (h2 : N + N' < 2 ^ 64) (h3 : max d d' < 2 ^ 64) : Gv F (n + 3) 7 [pD p, pD q] (pD (plusM p q)) := fun S w =>
  ⟨_, t_plus n w hp.can.nd (by have := hp.ct; omega) (okLen_plus hp.len hl _ (addAll_keys (fun m => m.length = P) q p hp.len hl) (fun e1 e2 => by rw [e1, e2]; rfl)) ((plus_Pl hp hl hc hN hd).small h2 h3)⟩
theorem neg_mem {q : List Trm} {Q : Mon → Prop} (h : ∀ t ∈ q, Q t.1) : ∀ t ∈ negM q, Q t.1 := fun t ht => by
  obtain ⟨s, hs, rfl⟩ := List.mem_map.mp ht
  exact h s hs
theorem minus_Pl {P c c' N N' d d' : Nat} {p q : List Trm} (hp : Pl P c N d p) (hq : Pl P c' N' d' q) : Pl P (c + c') (N + N') (max d d') (minusM p q) :=
  plus_Pl hp (neg_mem (Q := fun m => m.length = P) hq.len) (by unfold negM; rw [List.length_map]; exact hq.ct) (by rw [nrm_neg]; exact hq.nm) (neg_mem (Q := fun m => m.sum ≤ d') hq.dg)
theorem L_minus (φ : Mon → Int) {p q : List Trm} (nd : Nd p) : L φ (minusM p q) = L φ p - L φ q := by
  unfold minusM
  rw [L_plus φ nd, L_neg]
  omega
theorem g_minus {n : Nat} {P c c' N N' d d' : Nat} {p q : List Trm} (hp : Pl P c N d p) (hq : Pl P c' N' d' q) (h1 : c + c' ≤ 400) (h2 : N + N' < 2 ^ 64) (h3 : max d d' < 2 ^ 64) {S : Store} (w : WS S) : callN F (n + 4) 9 [pD p, pD q] S = .ok (.v (pD (minusM p q))) S := by
  have hl := neg_mem (Q := fun m => m.length = P) hq.len
  exact t_minus n w hp.can.nd (by have := hp.ct; have := hq.ct; omega) (okLen_plus hp.len hl _ (addAll_keys (fun m => m.length = P) (negM q) p hp.len hl) (fun e1 e2 => by rw [e1, e2]; rfl)) ((minus_Pl hp hq).small h2 h3)
theorem zipAdd_len {a b : Mon} {P : Nat} (ha : a.length = P) (hb : b.length = P) : (zipAdd a b).length = P := by
  unfold zipAdd
  rw [List.length_zipWith, ha, hb, Nat.min_self]
theorem zipAdd_sum : ∀ {a b : Mon}, a.length = b.length → (zipAdd a b).sum = a.sum + b.sum
  | [], [], _ => rfl
  | [], _ :: _, h => by simp at h
  | _ :: _, [], h => by simp at h
  | x :: a, y :: b, h => by
    have ih := zipAdd_sum (a := a) (b := b) (by simpa using h)
    show ((x + y) :: zipAdd a b).sum = _
    rw [List.sum_cons, ih, List.sum_cons, List.sum_cons]
    omega
theorem prod_keys {p q : List Trm} (Q : Mon → Prop) (h : ∀ a ∈ p, ∀ b ∈ q, Q (zipAdd a.1 b.1)) : ∀ t ∈ prodL p q, Q t.1 := fun t ht => by
  obtain ⟨a, ha, b, hb, e⟩ := prod_mem ht
  rw [e]
  exact h a ha b hb
theorem times_Pl {P c c' N N' d d' : Nat} {p q : List Trm} (hp : Pl P c N d p) (hq : Pl P c' N' d' q) : Pl P (c * c') (N * N') (d + d') (timesM p q) where
  can := can_tidy (addAll_nd _ [] List.nodup_nil)
  len := fun t ht => addAll_keys (fun m => m.length = P) _ [] (fun s hs => by cases hs) (prod_keys (fun m => m.length = P) fun a ha b hb => zipAdd_len (hp.len a ha) (hq.len b hb)) t (mem_tidy.mp ht).1
  ct := by
    have h1 := len_tidy (addAll [] (prodL p q))
    have h2 := addAll_len (prodL p q) []
    rw [prod_len, List.length_nil] at h2
    have h3 := Nat.mul_le_mul hp.ct hq.ct
    unfold timesM
    omega
  nm := by
    have h1 := nrm_tidy (addAll [] (prodL p q))
    have h2 := addAll_nrm (prodL p q) [] List.nodup_nil
    rw [prod_nrm] at h2
    have h3 := Nat.mul_le_mul hp.nm hq.nm
    have h4 : nrm [] = 0 := rfl
    unfold timesM
    omega
  dg := fun t ht => addAll_keys (fun m => m.sum ≤ d + d') _ [] (fun s hs => by cases hs) (prod_keys (fun m => m.sum ≤ d + d') fun a ha b hb => by
    rw [zipAdd_sum ((hp.len a ha).trans (hq.len b hb).symm)]
    exact Nat.add_le_add (hp.dg a ha) (hq.dg b hb)) t (mem_tidy.mp ht).1
theorem L_times (φ : Mon → Int) (p q : List Trm) : L φ (timesM p q) = L (fun m => L (fun m' => φ (zipAdd m m')) q) p := by
  unfold timesM
  rw [L_tidy, addAll_L φ _ [] List.nodup_nil, L_prod]
  show (0 : Int) + _ = _
  omega
theorem g_times {n : Nat} {P c c' N N' d d' : Nat} {p q : List Trm} (hp : Pl P c N d p) (hq : Pl P c' N' d' q) (hP : P ≤ 1000) (h0 : N < 2 ^ 64) (h1 : c * c' ≤ 400) (h2 : N * N' < 2 ^ 64) (h3 : d + d' < 2 ^ 64) : Gv F (n + 3) 10 [pD p, pD q] (pD (timesM p q)) := fun S w =>
  ⟨_, t_times n w hp.len hq.len hP (fun a ha => Nat.lt_of_le_of_lt (Nat.le_trans (nrm_mem ha) hp.nm) h0) (Nat.le_trans (Nat.mul_le_mul hp.ct hq.ct) h1)
    (okLen_plus hp.len hq.len _ (addAll_keys (fun m => m.length = P) _ [] (fun s hs => by cases hs) (prod_keys (fun m => m.length = P) fun a ha b hb => zipAdd_len (hp.len a ha) (hq.len b hb))) (fun e1 e2 => by rw [e1, e2]; rfl)) ((times_Pl hp hq).small h2 h3)⟩
end K64
-- L11
set_option Elab.async false
set_option linter.all false
set_option maxRecDepth 100000
set_option maxHeartbeats 400000
/-! L11: count_of, falling, weight_of_side. -/
namespace K64
open PySem Ev
theorem t_isint (n : Nat) (i : Int) (S : Store) : callN F (n + 1) 0 [.int i] S = .ok (.v (.bl true)) S := rfl
theorem t_iscount (n : Nat) (i : Nat) {S : Store} (w : WS S) : callN F (n + 2) 1 [.int (i : Nat)] S = .ok (.v (.bl true)) S := by
  rw [callN_at (fd := f_is_count) rfl rfl]
  have c0 : (ev (callN F (n + 1)) (Ex.call 0 [Ex.v 0])).E [some (.int (i : Nat))] S = .ok (.v (.bl true)) S := by
    show fin S.length (callN F (n + 1) 0 [.int (i : Nat)] S) = _
    rw [t_isint]
    exact fin_v0 w rfl
  have c1 : (ev (callN F (n + 1)) (Ex.and [Ex.call 0 [Ex.v 0], Ex.cmp Cm.ge (Ex.v 0) (Ex.c (D.int 0))])).E [some (.int (i : Nat))] S = .ok (.v (.bl true)) S := by
    show (((ev (callN F (n + 1)) (Ex.call 0 [Ex.v 0])).E [some (.int (i : Nat))] S).bind fun t S1 => (opt (truth t S1) S1).bind fun k S2 => if k then (R.ok (decide ((0 : Int) ≤ (i : Nat))) S2).bind fun k S1 => R.ok (T.v (.bl k)) S1 else .ok t S2) = _
    rw [c0, decide_eq_true (by omega)]
    rfl
  show fin0 (svs (n + 1) (callN F (n + 1)) f_is_count.body [some (.int (i : Nat))] S) = _
  unfold f_is_count
  rw [svs_cons, sv_ret, c1]
  rfl
def eM (i P : Nat) : Mon := zs i ++ (1 :: zs (P - i - 1))
def eP (i P : Nat) : List Trm := [(eM i P, 1)]
theorem eM_len {i P : Nat} (h : i < P) : (eM i P).length = P := by
  unfold eM
  rw [List.length_append, List.length_cons, zs_len, zs_len]
  omega
theorem eM_sum (i P : Nat) : (eM i P).sum = 1 := by
  unfold eM
  rw [List.sum_append, List.sum_cons, zs_sum, zs_sum]
theorem e_Pl {i P : Nat} (h : i < P) : Pl P 1 1 1 (eP i P) where
  can := ⟨by simp [eP, Nd], List.pairwise_singleton _ _, fun t ht => by rw [List.mem_singleton.mp ht]; show (1 : Int) ≠ 0; decide⟩
  len := fun t ht => by rw [List.mem_singleton.mp ht]; exact eM_len h
  ct := Nat.le_refl _
  nm := Nat.le_refl _
  dg := fun t ht => by rw [List.mem_singleton.mp ht]; exact Nat.le_of_eq (eM_sum i P)
abbrev cntIf : Ex := (Ex.or [(Ex.call 1 [Ex.v 0]).not, Ex.cmp Cm.ge (Ex.v 0) (Ex.v 1)])
theorem cnt_if (n i P : Nat) {S : Store} (w : WS S) : (ev (callN F (n + 2)) cntIf).B [some (.int (i : Nat)), some (.int (P : Nat))] S = .ok (decide (P ≤ i)) S := by
  have c1 : (ev (callN F (n + 2)) (Ex.call 1 [Ex.v 0])).E [some (.int (i : Nat)), some (.int (P : Nat))] S = .ok (.v (.bl true)) S := by
    show fin S.length (callN F (n + 2) 1 [.int (i : Nat)] S) = _
    rw [t_iscount n i w]
    exact fin_v0 w rfl
  have b1 : (ev (callN F (n + 2)) (Ex.call 1 [Ex.v 0]).not).B [some (.int (i : Nat)), some (.int (P : Nat))] S = .ok false S := by
    show (((ev (callN F (n + 2)) (Ex.call 1 [Ex.v 0])).E [some (.int (i : Nat)), some (.int (P : Nat))] S).bind fun t S1 => opt (truth t S1) S1).bind (fun k S1 => R.ok (!k) S1) = _
    rw [c1]
    rfl
  rw [ev_orB, evs_cons, evs_cons, evs_nil, evO_cons, b1, bind_ok, if_neg Bool.false_ne_true, evO_cons]
  show (R.ok (decide (((P : Nat) : Int) ≤ (i : Nat))) S).bind (fun k S1 => if k then R.ok true S1 else evO [] _ S1) = _
  by_cases h : P ≤ i
  · rw [decide_eq_true h, decide_eq_true (by omega)]
    rfl
  · rw [decide_eq_false h, decide_eq_false (by omega)]
    rfl
theorem t_count (n : Nat) {i P : Nat} {S : Store} (w : WS S) (h : i < P) (hP : P ≤ 900) : callN F (n + 3) 5 [.int (i : Nat), .int (P : Nat)] S = .ok (.v (pD (eP i P))) S := by
  rw [callN_at (fd := f_count_of) rfl rfl]
  have mz : ∀ k : Nat, k ≤ 1000 → bin2 .mul (.v (.tup [.int 0])) (.v (.int (k : Nat))) S = some (.v (mD (zs k))) := fun k hk => by
    show (if -(2 ^ 63) ≤ ((k : Nat) : Int) ∧ ((k : Nat) : Int) ≤ 1000 ∧ 1 ≤ 1000 then some (T.v (.tup (List.replicate ((k : Nat) : Int).toNat [D.int 0]).flatten)) else none) = _
    rw [if_pos ⟨by omega, by omega, by decide⟩, Int.toNat_natCast, zs_D]
    rfl
  have app : ∀ a b : Mon, a.length + b.length ≤ lim → bin2 .add (.v (mD a)) (.v (mD b)) S = some (.v (mD (a ++ b))) := fun a b hl => by
    show (if (a.map nD).length + (b.map nD).length ≤ lim then some (T.v (.tup (a.map nD ++ b.map nD))) else none) = _
    rw [List.length_map, List.length_map, if_pos hl, ← List.map_append]
    rfl
  have l1 : (1000 : Nat) ≤ lim := by decide
  have e1 : (ev (callN F (n + 2)) (Ex.bin Op2.mul (Ex.tup [Ex.c (D.int 0)]) (Ex.v 0))).E [some (.int (i : Nat)), some (.int (P : Nat))] S = .ok (.v (mD (zs i))) S := by
    show opt (bin2 .mul (.v (.tup [.int 0])) (.v (.int (i : Nat))) S) S = _
    rw [mz i (by omega)]
    rfl
  have e2 : (ev (callN F (n + 2)) (Ex.bin Op2.add (Ex.bin Op2.mul (Ex.tup [Ex.c (D.int 0)]) (Ex.v 0)) (Ex.tup [Ex.c (D.int 1)]))).E [some (.int (i : Nat)), some (.int (P : Nat))] S = .ok (.v (mD (zs i ++ [1]))) S := by
    rw [ev_bin, e1, bind_ok]
    show opt (bin2 .add (.v (mD (zs i))) (.v (mD [1])) S) S = _
    rw [app _ _ (by rw [zs_len]; show i + 1 ≤ lim; omega)]
    rfl
  have e3 : (ev (callN F (n + 2)) (Ex.bin Op2.mul (Ex.tup [Ex.c (D.int 0)]) (Ex.bin Op2.sub (Ex.bin Op2.sub (Ex.v 1) (Ex.v 0)) (Ex.c (D.int 1))))).E [some (.int (i : Nat)), some (.int (P : Nat))] S = .ok (.v (mD (zs (P - i - 1)))) S := by
    show opt (bin2 .mul (.v (.tup [.int 0])) (.v (.int ((P : Nat) - (i : Nat) - 1))) S) S = _
    have e : ((P : Nat) : Int) - (i : Nat) - 1 = ((P - i - 1 : Nat) : Int) := by omega
    rw [e, mz _ (by omega)]
    rfl
  have e4 : (ev (callN F (n + 2)) (Ex.bin Op2.add (Ex.bin Op2.add (Ex.bin Op2.mul (Ex.tup [Ex.c (D.int 0)]) (Ex.v 0)) (Ex.tup [Ex.c (D.int 1)])) (Ex.bin Op2.mul (Ex.tup [Ex.c (D.int 0)]) (Ex.bin Op2.sub (Ex.bin Op2.sub (Ex.v 1) (Ex.v 0)) (Ex.c (D.int 1)))))).E [some (.int (i : Nat)), some (.int (P : Nat))] S = .ok (.v (mD (eM i P))) S := by
    rw [ev_bin, e2, bind_ok, e3, bind_ok, app _ _ (by rw [List.length_append, zs_len, zs_len]; show i + 1 + (P - i - 1) ≤ lim; omega), List.append_assoc]
    rfl
  have r : (ev (callN F (n + 2)) (Ex.tup [Ex.tup [Ex.bin Op2.add (Ex.bin Op2.add (Ex.bin Op2.mul (Ex.tup [Ex.c (D.int 0)]) (Ex.v 0)) (Ex.tup [Ex.c (D.int 1)])) (Ex.bin Op2.mul (Ex.tup [Ex.c (D.int 0)]) (Ex.bin Op2.sub (Ex.bin Op2.sub (Ex.v 1) (Ex.v 0)) (Ex.c (D.int 1)))), Ex.c (D.int 1)]])).E [some (.int (i : Nat)), some (.int (P : Nat))] S = .ok (.v (pD (eP i P))) S := by
    rw [ev_tup, evs_cons, evs_nil, evM_cons', ev_tup, evs_cons, evM_cons', e4]
    rfl
  show fin0 (svs (n + 2) (callN F (n + 2)) f_count_of.body [some (.int (i : Nat)), some (.int (P : Nat))] S) = _
  unfold f_count_of
  rw [svs_cons, sv_ite, cnt_if n i P w, thenS_ok, decide_eq_false (by omega), if_neg Bool.false_ne_true, svs_nil, seqS_nx, svs_cons, sv_ret, r]
  rfl
theorem t_count_no (n : Nat) {i P : Nat} {S : Store} (w : WS S) (h : P ≤ i) : callN F (n + 3) 5 [.int (i : Nat), .int (P : Nat)] S = .exc ⟨"Nothing", []⟩ S := by
  rw [callN_at (fd := f_count_of) rfl rfl]
  show fin0 (svs (n + 2) (callN F (n + 2)) f_count_of.body [some (.int (i : Nat)), some (.int (P : Nat))] S) = _
  unfold f_count_of
  rw [svs_cons, sv_ite, cnt_if n i P w, thenS_ok, decide_eq_true h, if_pos rfl, svs_cons, sv_raise0]
  rfl
/-! ### falling -/
def facM (i k P : Nat) : List Trm := minusM (eP i P) (numM (k : Nat) P)
def stepF (i k P : Nat) (cur : List Trm) : List Trm := timesM cur (facM i k P)
theorem fac_Pl {i k P : Nat} (h : i < P) : Pl P 2 (1 + k) 1 (facM i k P) := (minus_Pl (e_Pl h) (num_Pl (k : Nat) P)).mono (Nat.le_refl _) (by simp) (by decide)
abbrev falEx : Ex := Ex.call 10 [Ex.v 2, Ex.call 9 [Ex.call 5 [Ex.v 3, Ex.v 1], Ex.call 4 [Ex.v 5, Ex.v 1]]]
theorem fal_step (n : Nat) {i k P c N d : Nat} {cur : List Trm} {S : Store} (w : WS S) (h : i < P) (hP : P ≤ 900) (hk : k ≤ 1) (hc : Pl P c N d cur) (h1 : c * 2 ≤ 400) (h2 : N * 2 < 2 ^ 60) (h3 : d < 2 ^ 60) (A B : Option D) :
    (ev (callN F (n + 4)) falEx).E [A, some (.int (P : Nat)), some (pD cur), some (.int (i : Nat)), B, some (.int (k : Nat))] S = .ok (.v (pD (stepF i k P cur))) S := by
  have c5 : (ev (callN F (n + 4)) (Ex.call 5 [Ex.v 3, Ex.v 1])).E [A, some (.int (P : Nat)), some (pD cur), some (.int (i : Nat)), B, some (.int (k : Nat))] S = .ok (.v (pD (eP i P))) S := by
    show fin S.length (callN F (n + 4) 5 [.int (i : Nat), .int (P : Nat)] S) = _
    rw [t_count (n + 1) w h hP]
    exact fin_v0 w (pD_pure _)
  have c4 : (ev (callN F (n + 4)) (Ex.call 4 [Ex.v 5, Ex.v 1])).E [A, some (.int (P : Nat)), some (pD cur), some (.int (i : Nat)), B, some (.int (k : Nat))] S = .ok (.v (pD (numM (k : Nat) P))) S := by
    show fin S.length (callN F (n + 4) 4 [.int (k : Nat), .int (P : Nat)] S) = _
    rw [t_number (n + 1) (k : Nat) P (by omega) (by omega) w]
    exact fin_v0 w (pD_pure _)
  have c9 : (ev (callN F (n + 4)) (Ex.call 9 [Ex.call 5 [Ex.v 3, Ex.v 1], Ex.call 4 [Ex.v 5, Ex.v 1]])).E [A, some (.int (P : Nat)), some (pD cur), some (.int (i : Nat)), B, some (.int (k : Nat))] S = .ok (.v (pD (facM i k P))) S := by
    rw [ev_call, evs_cons, evs_cons, evs_nil, evM_cons', c5, bind_ok, mat_v, bind_ok, evM_cons', c4]
    show fin S.length (callN F (n + 4) 9 [pD (eP i P), pD (numM (k : Nat) P)] S) = _
    rw [g_minus (e_Pl h) (num_Pl (k : Nat) P) (by decide) (by simp; omega) (by decide) w]
    exact fin_v0 w (pD_pure _)
  rw [ev_call, evs_cons, evs_cons, evs_nil, evM_cons', ev_v]
  show fin S.length (((evM [ev (callN F (n + 4)) (Ex.call 9 [Ex.call 5 [Ex.v 3, Ex.v 1], Ex.call 4 [Ex.v 5, Ex.v 1]])] [A, some (.int (P : Nat)), some (pD cur), some (.int (i : Nat)), B, some (.int (k : Nat))] S).bind fun ds S3 => R.ok (pD cur :: ds) S3).bind fun ds S1 => callN F (n + 4) 10 ds S1) = _
  rw [evM_cons', c9]
  have hf : Pl P 2 2 1 (facM i k P) := (fac_Pl h).mono (Nat.le_refl _) (by omega) (Nat.le_refl _)
  exact (g_times (n := n + 1) hc hf (by omega) (by omega) h1 (by omega) (by omega)).call (pD_pure _) w
theorem step_Pl {i k P c N d : Nat} {cur : List Trm} (h : i < P) (hk : k ≤ 1) (hc : Pl P c N d cur) : Pl P (c * 2) (N * 2) (d + 1) (stepF i k P cur) :=
  times_Pl hc ((fac_Pl h).mono (Nat.le_refl _) (by omega) (Nat.le_refl _))
end K64
-- L12
set_option Elab.async false
set_option linter.all false
set_option maxRecDepth 100000
set_option maxHeartbeats 400000
/-! L12: falling, weight_of_side. -/
namespace K64
open PySem Ev
def falIn (i P : Nat) : Nat → Nat → List Trm → List Trm
  | _, 0, cur => cur
  | lo, n + 1, cur => falIn i P (lo + 1) n (stepF i lo P cur)
def falOut (P : Nat) : Nat → Mon → List Trm → List Trm
  | _, [], cur => cur
  | i, m :: ms, cur => falOut P (i + 1) ms (falIn i P 0 m cur)
def fallM (tk : Mon) : List Trm := falOut tk.length 0 tk (numM 1 tk.length)
theorem falIn_Pl {i P : Nat} (h : i < P) : ∀ (k lo s : Nat) (cur : List Trm), lo + k ≤ 2 → Pl P (2 ^ s) (2 ^ s) s cur → Pl P (2 ^ (s + k)) (2 ^ (s + k)) (s + k) (falIn i P lo k cur)
  | 0, _, _, _, _, hc => hc
  | k + 1, lo, s, cur, hk, hc => by
    have h1 := step_Pl (k := lo) h (by omega) hc
    rw [← Nat.pow_succ] at h1
    have h2 := falIn_Pl h k (lo + 1) (s + 1) _ (by omega) h1
    rw [show s + (k + 1) = s + 1 + k by omega]
    exact h2
abbrev falInB : List St := [St.asg (Tg.v 2) falEx]
theorem fal_in (n : Nat) {i P : Nat} (h : i < P) (hP : P ≤ 900) {S : Store} (w : WS S) (A B : Option D) : ∀ (k lo s : Nat) (cur : List Trm) (x5 : Option D), lo + k ≤ 2 → s + k ≤ 8 → Pl P (2 ^ s) (2 ^ s) s cur →
    ∃ y5, loopS (fun x ρ1 S2 => match asg (.v 5) x ρ1 with | some ρ2 => svs (n + 4) (callN F (n + 4)) falInB ρ2 S2 | none => .bad) (intsFrom (lo : Nat) k) [A, some (.int (P : Nat)), some (pD cur), some (.int (i : Nat)), B, x5] S =
      .ok .nx [A, some (.int (P : Nat)), some (pD (falIn i P lo k cur)), some (.int (i : Nat)), B, y5] S
  | 0, _, _, _, x5, _, _, _ => ⟨x5, rfl⟩
  | k + 1, lo, s, cur, x5, hk, hs, hc => by
    have h1 := step_Pl (k := lo) h (by omega) hc
    rw [← Nat.pow_succ] at h1
    obtain ⟨y5, e⟩ := fal_in n h hP w A B k (lo + 1) (s + 1) (stepF i lo P cur) (some (.int (lo : Nat))) (by omega) (by omega) h1
    refine ⟨y5, ?_⟩
    have hb : 2 ^ s ≤ 2 ^ 7 := Nat.pow_le_pow_right (by decide) (by omega)
    have st := fal_step n (k := lo) w h hP (by omega) hc (by omega) (by omega) (by omega) A B
    show loopS _ (D.int (lo : Nat) :: intsFrom ((lo : Nat) + 1) k) _ _ = _
    rw [loopS_cons]
    show contS (svs (n + 4) (callN F (n + 4)) falInB [A, some (.int (P : Nat)), some (pD cur), some (.int (i : Nat)), B, some (.int (lo : Nat))] S) _ = _
    have t1 : svs (n + 4) (callN F (n + 4)) falInB [A, some (.int (P : Nat)), some (pD cur), some (.int (i : Nat)), B, some (.int (lo : Nat))] S = .ok .nx [A, some (.int (P : Nat)), some (pD (stepF i lo P cur)), some (.int (i : Nat)), B, some (.int (lo : Nat))] S := by
      rw [svs_cons, sv_asg, st]
      rfl
    rw [t1, contS_nx]
    have e' : ((lo : Nat) : Int) + 1 = ((lo + 1 : Nat) : Int) := by omega
    rw [e']
    exact e
theorem itF_range (m : Nat) (h : m ≤ 1000) (S : Store) : itF .range [.v (nD m)] S = some (intsFrom 0 m, none) := by
  unfold itF nD
  dsimp only
  rw [if_pos ⟨by omega, by omega⟩, Int.toNat_natCast]
abbrev falOutB : List St := [St.for (Tg.v 5) (Ex.bi Bi.range [Ex.v 4]) falInB]
theorem fal_out (n : Nat) {P : Nat} (hP : P ≤ 900) {S : Store} (w : WS S) (A : Option D) : ∀ (ms : Mon) (i s : Nat) (cur : List Trm) (x3 x4 x5 : Option D), i + ms.length ≤ P → (∀ m ∈ ms, m ≤ 2) → s + ms.sum ≤ 8 → Pl P (2 ^ s) (2 ^ s) s cur →
    (∃ y3 y4 y5, loopS (fun x ρ1 S2 => match asg (.tup [.v 3, .v 4]) x ρ1 with | some ρ2 => svs (n + 4) (callN F (n + 4)) falOutB ρ2 S2 | none => .bad) (enumD (i : Nat) (ms.map nD)) [A, some (.int (P : Nat)), some (pD cur), x3, x4, x5] S =
      .ok .nx [A, some (.int (P : Nat)), some (pD (falOut P i ms cur)), y3, y4, y5] S) ∧ Pl P (2 ^ (s + ms.sum)) (2 ^ (s + ms.sum)) (s + ms.sum) (falOut P i ms cur)
  | [], _, _, _, x3, x4, x5, _, _, _, hc => ⟨⟨x3, x4, x5, rfl⟩, hc⟩
  | m :: ms, i, s, cur, x3, x4, x5, hi, hm, hs, hc => by
    rw [List.length_cons] at hi
    rw [List.sum_cons] at hs ⊢
    have hm2 := hm m List.mem_cons_self
    have h : i < P := by omega
    have p1 := falIn_Pl h m 0 s cur (by omega) hc
    obtain ⟨z5, e1⟩ := fal_in n h hP w A (some (nD m)) m 0 s cur x5 (by omega) (by omega) hc
    obtain ⟨⟨y3, y4, y5, e2⟩, p2⟩ := fal_out n hP w A ms (i + 1) (s + m) (falIn i P 0 m cur) (some (.int (i : Nat))) (some (nD m)) z5 (by omega) (fun a ha => hm a (List.mem_cons_of_mem _ ha)) (by omega) p1
    refine ⟨⟨y3, y4, y5, ?_⟩, by rw [← Nat.add_assoc]; exact p2⟩
    show loopS _ (D.tup [.int (i : Nat), nD m] :: enumD ((i : Nat) + 1) (ms.map nD)) _ _ = _
    rw [loopS_cons]
    show contS (svs (n + 4) (callN F (n + 4)) falOutB [A, some (.int (P : Nat)), some (pD cur), some (.int (i : Nat)), some (nD m), x5] S) _ = _
    have t1 : svs (n + 4) (callN F (n + 4)) falOutB [A, some (.int (P : Nat)), some (pD cur), some (.int (i : Nat)), some (nD m), x5] S = .ok .nx [A, some (.int (P : Nat)), some (pD (falIn i P 0 m cur)), some (.int (i : Nat)), some (nD m), z5] S := by
      have it : (ev (callN F (n + 4)) (Ex.bi Bi.range [Ex.v 4])).I [A, some (.int (P : Nat)), some (pD cur), some (.int (i : Nat)), some (nD m), x5] S = .ok (intsFrom ((0 : Nat) : Int) m, none) S := by
        have ev4 : (ev (callN F (n + 4)) (Ex.v 4)).E [A, some (.int (P : Nat)), some (pD cur), some (.int (i : Nat)), some (nD m), x5] S = .ok (.v (nD m)) S := rfl
        rw [ev_biI, evs_cons, evs_nil, evTs_cons, ev4, bind_ok, evTs_nil, bind_ok, bind_ok, if_pos (show isIt Bi.range = true from rfl), itF_range m (by omega) S]
        rfl
      rw [svs_cons, sv_for, it, thenS_ok]
      show seqS (unlockS none (loopS (fun x ρ1 S2 => match asg (.v 5) x ρ1 with | some ρ2 => svs (n + 4) (callN F (n + 4)) falInB ρ2 S2 | none => .bad) (intsFrom ((0 : Nat) : Int) m) [A, some (.int (P : Nat)), some (pD cur), some (.int (i : Nat)), some (nD m), x5] S)) _ = _
      rw [e1]
      rfl
    rw [t1, contS_nx]
    have e' : ((i : Nat) : Int) + 1 = ((i + 1 : Nat) : Int) := by omega
    rw [e']
    exact e2
theorem fall_Pl (tk : Mon) (hm : ∀ m ∈ tk, m ≤ 2) (hs : tk.sum ≤ 8) (hP : tk.length ≤ 900) : Pl tk.length (2 ^ tk.sum) (2 ^ tk.sum) tk.sum (fallM tk) := by
  have w : WS [] := rfl
  have p0 : Pl tk.length (2 ^ 0) (2 ^ 0) 0 (numM 1 tk.length) := num_Pl 1 tk.length
  have z := (fal_out 0 hP w none tk 0 0 (numM 1 tk.length) none none none (by omega) hm (by omega) p0).2
  rw [Nat.zero_add] at z
  exact z
theorem t_falling (n : Nat) {tk : Mon} {S : Store} (w : WS S) (hm : ∀ m ∈ tk, m ≤ 2) (hs : tk.sum ≤ 8) (hP : tk.length ≤ 900) : callN F (n + 5) 11 [mD tk] S = .ok (.v (pD (fallM tk))) S := by
  rw [callN_at (fd := f_falling) rfl rfl]
  have p0 : Pl tk.length (2 ^ 0) (2 ^ 0) 0 (numM 1 tk.length) := num_Pl 1 tk.length
  obtain ⟨⟨y3, y4, y5, e⟩, _⟩ := fal_out n hP w (some (mD tk)) tk 0 0 (numM 1 tk.length) none none none (by omega) hm (by omega) p0
  have a1 : (ev (callN F (n + 4)) (Ex.bi Bi.len [Ex.v 0])).E [some (mD tk), none, none, none, none, none] S = .ok (.v (.int (tk.length : Nat))) S := by
    show R.ok (T.v (.int ((tk.map nD).length : Nat))) S = _
    rw [List.length_map]
  have a2 : (ev (callN F (n + 4)) (Ex.call 4 [Ex.c (D.int 1), Ex.v 1])).E [some (mD tk), some (.int (tk.length : Nat)), none, none, none, none] S = .ok (.v (pD (numM 1 tk.length))) S := by
    show fin S.length (callN F (n + 4) 4 [.int 1, .int (tk.length : Nat)] S) = _
    rw [t_number (n + 1) 1 tk.length (by decide) (by omega) w]
    exact fin_v0 w (pD_pure _)
  have it : (ev (callN F (n + 4)) (Ex.bi Bi.enum [Ex.v 0])).I [some (mD tk), some (.int (tk.length : Nat)), some (pD (numM 1 tk.length)), none, none, none] S = .ok (enumD ((0 : Nat) : Int) (tk.map nD), none) S := rfl
  show fin0 (svs (n + 4) (callN F (n + 4)) f_falling.body [some (mD tk), none, none, none, none, none] S) = _
  unfold f_falling
  rw [svs_cons, sv_asg, a1, bind_ok, mat_v, thenS_ok]
  show fin0 (seqS (SR.ok .nx [some (mD tk), some (.int (tk.length : Nat)), none, none, none, none] S) _) = _
  rw [seqS_nx, svs_cons, sv_asg, a2, bind_ok, mat_v, thenS_ok]
  show fin0 (seqS (SR.ok .nx [some (mD tk), some (.int (tk.length : Nat)), some (pD (numM 1 tk.length)), none, none, none] S) _) = _
  rw [seqS_nx, svs_cons, sv_for, it, thenS_ok]
  show fin0 (seqS (unlockS none (loopS (fun x ρ1 S2 => match asg (.tup [.v 3, .v 4]) x ρ1 with | some ρ2 => svs (n + 4) (callN F (n + 4)) falOutB ρ2 S2 | none => .bad) (enumD ((0 : Nat) : Int) (tk.map nD)) [some (mD tk), some (.int (tk.length : Nat)), some (pD (numM 1 tk.length)), none, none, none] S)) _) = _
  rw [e]
  rfl
def wgtM (tk : Mon) (r : Int) : List Trm := timesM (numM r tk.length) (fallM tk)
theorem wgt_Pl {tk : Mon} {r : Int} (hm : ∀ m ∈ tk, m ≤ 2) (hs : tk.sum ≤ 8) (hP : tk.length ≤ 900) : Pl tk.length (1 * 2 ^ tk.sum) (r.natAbs * 2 ^ tk.sum) (0 + tk.sum) (wgtM tk r) := times_Pl (num_Pl r tk.length) (fall_Pl tk hm hs hP)
theorem t_weight (n : Nat) {tk : Mon} {r : Int} {S : Store} (w : WS S) (hm : ∀ m ∈ tk, m ≤ 2) (hs : tk.sum ≤ 8) (hP : tk.length ≤ 900) (hr : r.natAbs < 2 ^ 40) : callN F (n + 6) 12 [mD tk, .int r] S = .ok (.v (pD (wgtM tk r))) S := by
  rw [callN_at (fd := f_weight_of_side) rfl rfl]
  have c11 : (ev (callN F (n + 5)) (Ex.call 11 [Ex.v 0])).E [some (mD tk), some (.int r)] S = .ok (.v (pD (fallM tk))) S := by
    show fin S.length (callN F (n + 5) 11 [mD tk] S) = _
    rw [t_falling n w hm hs hP]
    exact fin_v0 w (pD_pure _)
  have c4 : (ev (callN F (n + 5)) (Ex.call 4 [Ex.v 1, Ex.bi Bi.len [Ex.v 0]])).E [some (mD tk), some (.int r)] S = .ok (.v (pD (numM r tk.length))) S := by
    show fin S.length (callN F (n + 5) 4 [.int r, .int ((tk.map nD).length : Nat)] S) = _
    rw [List.length_map, t_number (n + 2) r tk.length (by omega) (by omega) w]
    exact fin_v0 w (pD_pure _)
  have hb : 2 ^ tk.sum ≤ 2 ^ 8 := Nat.pow_le_pow_right (by decide) hs
  have c10 : (ev (callN F (n + 5)) (Ex.call 10 [Ex.call 4 [Ex.v 1, Ex.bi Bi.len [Ex.v 0]], Ex.call 11 [Ex.v 0]])).E [some (mD tk), some (.int r)] S = .ok (.v (pD (wgtM tk r))) S := by
    rw [ev_call, evs_cons, evs_cons, evs_nil, evM_cons', c4, bind_ok, mat_v, bind_ok, evM_cons', c11]
    have hN : r.natAbs * 2 ^ tk.sum ≤ 2 ^ 40 * 2 ^ 8 := Nat.mul_le_mul (by omega) hb
    exact (g_times (n := n + 2) (num_Pl r tk.length) (fall_Pl tk hm hs hP) (by omega) (by omega) (by omega) (by omega) (by omega)).call (pD_pure _) w
  show fin0 (svs (n + 5) (callN F (n + 5)) f_weight_of_side.body [some (mD tk), some (.int r)] S) = _
  unfold f_weight_of_side
  rw [svs_cons, sv_ret, c10]
  rfl
end K64
-- L13
set_option Elab.async false
set_option linter.all false
set_option maxRecDepth 100000
set_option maxHeartbeats 400000
/-! L13: worth_at; sums over falling. -/
namespace K64
open PySem Ev
theorem mulOk_r {i j : Int} (h : j.natAbs < 2 ^ 64) : mulOk i j = true := by
  unfold mulOk
  rw [decide_eq_true h, Bool.or_true]
  rfl
/-- a monomial's worth at counts -/
def vM : Mon → Mon → Int
  | a :: m, c :: cs => (c : Int) ^ a * vM m cs
  | _, _ => 1
abbrev wB3 : List St := [St.aug 5 Op2.mul (Ex.v 7)]
theorem w_rng {n : Nat} {C : Calls} (A B G3 G4 G6 : Option D) (s0 : Int) (c : Nat) (hc : c ≤ 1000) (S : Store) : ∀ (k : Nat) (lo term : Int) (x8 : Option D),
    ∃ y8, loopS (fun x ρ1 S2 => match asg (.v 8) x ρ1 with | some ρ2 => svs n C wB3 ρ2 S2 | none => .bad) (intsFrom lo k) [A, B, some (.int s0), G3, G4, some (.int term), G6, some (nD c), x8] S =
      .ok .nx [A, B, some (.int s0), G3, G4, some (.int (term * (c : Int) ^ k)), G6, some (nD c), y8] S
  | 0, lo, term, x8 => ⟨x8, by rw [Int.pow_zero, Int.mul_one]; rfl⟩
  | k + 1, lo, term, x8 => by
    obtain ⟨y8, e⟩ := w_rng (n := n) (C := C) A B G3 G4 G6 s0 c hc S k (lo + 1) (term * c) (some (.int lo))
    refine ⟨y8, ?_⟩
    show loopS _ (D.int lo :: intsFrom (lo + 1) k) _ _ = _
    rw [loopS_cons]
    show contS (svs n C wB3 [A, B, some (.int s0), G3, G4, some (.int term), G6, some (nD c), some (.int lo)] S) _ = _
    have t1 : svs n C wB3 [A, B, some (.int s0), G3, G4, some (.int term), G6, some (nD c), some (.int lo)] S = .ok .nx [A, B, some (.int s0), G3, G4, some (.int (term * c)), G6, some (nD c), some (.int lo)] S := by
      have m : aug2 .mul (.v (.int term)) (.v (nD c)) = some (.int (term * c)) := by
        show ((if mulOk term c then some (term * (c : Int)) else none).map D.int) = _
        rw [if_pos (mulOk_r (by omega))]
        rfl
      show seqS (thenS (opt (aug2 .mul (.v (.int term)) (.v (nD c))) S) _ _) _ = _
      rw [m]
      rfl
    rw [t1, contS_nx]
    have e' : term * (c : Int) ^ (k + 1) = term * c * (c : Int) ^ k := by
      rw [Int.pow_succ, Int.mul_comm ((c : Int) ^ k), Int.mul_assoc]
    rw [e']
    exact e
abbrev wB2 : List St := [St.for (Tg.v 8) (Ex.bi Bi.range [Ex.v 6]) wB3]
theorem w_zip {n : Nat} {C : Calls} (A B G3 G4 : Option D) (s0 : Int) (S : Store) : ∀ (m cs : Mon) (term : Int) (x6 x7 x8 : Option D), (∀ a ∈ m, a ≤ 1000) → (∀ c ∈ cs, c ≤ 1000) →
    ∃ y6 y7 y8, loopS (fun x ρ1 S2 => match asg (.tup [.v 6, .v 7]) x ρ1 with | some ρ2 => svs n C wB2 ρ2 S2 | none => .bad) ((m.zip cs).map fun q => .tup [nD q.1, nD q.2]) [A, B, some (.int s0), G3, G4, some (.int term), x6, x7, x8] S =
      .ok .nx [A, B, some (.int s0), G3, G4, some (.int (term * vM m cs)), y6, y7, y8] S
  | [], cs, term, x6, x7, x8, _, _ => ⟨x6, x7, x8, by show SR.ok .nx [A, B, some (.int s0), G3, G4, some (.int term), x6, x7, x8] S = _; rw [show vM [] cs = 1 by unfold vM; rfl, Int.mul_one]⟩
  | a :: m, [], term, x6, x7, x8, _, _ => ⟨x6, x7, x8, by show SR.ok .nx [A, B, some (.int s0), G3, G4, some (.int term), x6, x7, x8] S = _; rw [show vM (a :: m) [] = 1 by unfold vM; rfl, Int.mul_one]⟩
  | a :: m, c :: cs, term, x6, x7, x8, ha, hc => by
    have hc0 := hc c List.mem_cons_self
    have ha0 := ha a List.mem_cons_self
    obtain ⟨z8, e1⟩ := w_rng (n := n) (C := C) A B G3 G4 (some (nD a)) s0 c hc0 S a 0 term x8
    obtain ⟨y6, y7, y8, e⟩ := w_zip (n := n) (C := C) A B G3 G4 s0 S m cs (term * (c : Int) ^ a) (some (nD a)) (some (nD c)) z8 (fun b hb => ha b (List.mem_cons_of_mem _ hb)) (fun b hb => hc b (List.mem_cons_of_mem _ hb))
    refine ⟨y6, y7, y8, ?_⟩
    rw [List.zip_cons_cons, List.map_cons, loopS_cons]
    show contS (svs n C wB2 [A, B, some (.int s0), G3, G4, some (.int term), some (nD a), some (nD c), x8] S) _ = _
    have t1 : svs n C wB2 [A, B, some (.int s0), G3, G4, some (.int term), some (nD a), some (nD c), x8] S = .ok .nx [A, B, some (.int s0), G3, G4, some (.int (term * (c : Int) ^ a)), some (nD a), some (nD c), z8] S := by
      have ev6 : (ev C (Ex.v 6)).E [A, B, some (.int s0), G3, G4, some (.int term), some (nD a), some (nD c), x8] S = .ok (.v (nD a)) S := rfl
      have it : (ev C (Ex.bi Bi.range [Ex.v 6])).I [A, B, some (.int s0), G3, G4, some (.int term), some (nD a), some (nD c), x8] S = .ok (intsFrom 0 a, none) S := by
        rw [ev_biI, evs_cons, evs_nil, evTs_cons, ev6, bind_ok, evTs_nil, bind_ok, bind_ok, if_pos (show isIt Bi.range = true from rfl), itF_range a ha0 S]
        rfl
      rw [svs_cons, sv_for, it, thenS_ok]
      show seqS (unlockS none (loopS (fun x ρ1 S2 => match asg (.v 8) x ρ1 with | some ρ2 => svs n C wB3 ρ2 S2 | none => .bad) (intsFrom 0 a) [A, B, some (.int s0), G3, G4, some (.int term), some (nD a), some (nD c), x8] S)) _ = _
      rw [e1]
      rfl
    rw [t1, contS_nx]
    have e' : term * vM (a :: m) (c :: cs) = term * (c : Int) ^ a * vM m cs := by
      show term * ((c : Int) ^ a * vM m cs) = _
      rw [Int.mul_assoc]
    rw [e']
    exact e
abbrev wB1 : List St := [St.asg (Tg.v 5) (Ex.v 4), St.for (Tg.tup [Tg.v 6, Tg.v 7]) (Ex.bi Bi.zip [Ex.v 3, Ex.v 1]) wB2, St.aug 2 Op2.add (Ex.v 5)]
theorem w_out {n : Nat} {C : Calls} (A : Option D) (S : Store) (cs : Mon) (hc : ∀ c ∈ cs, c ≤ 1000) : ∀ (p : List Trm) (s0 : Int) (x3 x4 x5 x6 x7 x8 : Option D), (∀ t ∈ p, ∀ a ∈ t.1, a ≤ 1000) →
    ∃ ρ', loopS (fun x ρ1 S2 => match asg (.tup [.v 3, .v 4]) x ρ1 with | some ρ2 => svs n C wB1 ρ2 S2 | none => .bad) (p.map tD) [A, some (mD cs), some (.int s0), x3, x4, x5, x6, x7, x8] S = .ok .nx ρ' S ∧ ρ'[2]? = some (some (.int (s0 + L (fun m => vM m cs) p)))
  | [], s0, x3, x4, x5, x6, x7, x8, _ => ⟨_, rfl, by
    show some (some (D.int s0)) = _
    rw [show L (fun m => vM m cs) [] = 0 from rfl, Int.add_zero]⟩
  | t :: p, s0, x3, x4, x5, x6, x7, x8, hp => by
    obtain ⟨y6, y7, y8, e1⟩ := w_zip (n := n) (C := C) A (some (mD cs)) (some (mD t.1)) (some (.int t.2)) s0 S t.1 cs t.2 x6 x7 x8 (hp t List.mem_cons_self) hc
    obtain ⟨ρ', e2, e3⟩ := w_out (n := n) (C := C) A S cs hc p (s0 + t.2 * vM t.1 cs) (some (mD t.1)) (some (.int t.2)) (some (.int (t.2 * vM t.1 cs))) y6 y7 y8 (fun s hs => hp s (List.mem_cons_of_mem _ hs))
    refine ⟨ρ', ?_, ?_⟩
    · rw [List.map_cons, loopS_cons]
      show contS (svs n C wB1 [A, some (mD cs), some (.int s0), some (mD t.1), some (.int t.2), x5, x6, x7, x8] S) _ = _
      have t1 : svs n C wB1 [A, some (mD cs), some (.int s0), some (mD t.1), some (.int t.2), x5, x6, x7, x8] S = .ok .nx [A, some (mD cs), some (.int (s0 + t.2 * vM t.1 cs)), some (mD t.1), some (.int t.2), some (.int (t.2 * vM t.1 cs)), y6, y7, y8] S := by
        have it : (ev C (Ex.bi Bi.zip [Ex.v 3, Ex.v 1])).I [A, some (mD cs), some (.int s0), some (mD t.1), some (.int t.2), some (.int t.2), x6, x7, x8] S = .ok ((t.1.zip cs).map fun q => .tup [nD q.1, nD q.2], none) S := by
          show R.ok (zipD (t.1.map nD) (cs.map nD), none) S = _
          rw [zipD_m]
        rw [svs_cons, sv_asg]
        show seqS (SR.ok .nx [A, some (mD cs), some (.int s0), some (mD t.1), some (.int t.2), some (.int t.2), x6, x7, x8] S) _ = _
        rw [seqS_nx, svs_cons, sv_for, it, thenS_ok]
        show seqS (unlockS none (loopS (fun x ρ1 S2 => match asg (.tup [.v 6, .v 7]) x ρ1 with | some ρ2 => svs n C wB2 ρ2 S2 | none => .bad) ((t.1.zip cs).map fun q => .tup [nD q.1, nD q.2]) [A, some (mD cs), some (.int s0), some (mD t.1), some (.int t.2), some (.int t.2), x6, x7, x8] S)) _ = _
        rw [e1]
        rfl
      rw [t1, contS_nx]
      exact e2
    · rw [e3]
      show some (some (D.int (s0 + t.2 * vM t.1 cs + L (fun m => vM m cs) p))) = some (some (D.int (s0 + (t.2 * vM t.1 cs + L (fun m => vM m cs) p))))
      rw [Int.add_assoc]
theorem t_worth (n : Nat) {p : List Trm} {cs : Mon} (S : Store) (hc : ∀ c ∈ cs, c ≤ 1000) (hp : ∀ t ∈ p, ∀ a ∈ t.1, a ≤ 1000) : callN F (n + 1) 15 [pD p, mD cs] S = .ok (.v (.int (L (fun m => vM m cs) p))) S := by
  rw [callN_at (fd := f_worth_at) rfl rfl]
  obtain ⟨ρ', e1, e2⟩ := w_out (n := n) (C := callN F n) (some (pD p)) S cs hc p 0 none none none none none none hp
  have it : (ev (callN F n) (Ex.v 0)).I [some (pD p), some (mD cs), some (.int 0), none, none, none, none, none, none] S = .ok (p.map tD, none) S := rfl
  show fin0 (svs n (callN F n) f_worth_at.body [some (pD p), some (mD cs), none, none, none, none, none, none, none] S) = _
  unfold f_worth_at
  rw [svs_cons, sv_asg]
  show fin0 (seqS (SR.ok .nx [some (pD p), some (mD cs), some (.int 0), none, none, none, none, none, none] S) _) = _
  rw [seqS_nx, svs_cons, sv_for, it, thenS_ok]
  show fin0 (seqS (unlockS none (loopS (fun x ρ1 S2 => match asg (.tup [.v 3, .v 4]) x ρ1 with | some ρ2 => svs n (callN F n) wB1 ρ2 S2 | none => .bad) (p.map tD) [some (pD p), some (mD cs), some (.int 0), none, none, none, none, none, none] S)) _) = _
  rw [e1]
  show fin0 (seqS (SR.ok .nx ρ' S) _) = _
  rw [Int.zero_add] at e2
  rw [seqS_nx, svs_cons, sv_ret, ev_v, e2]
  rfl
/-! ### sums over falling -/
theorem L_congr {φ ψ : Mon → Int} : ∀ p : List Trm, (∀ t ∈ p, φ t.1 = ψ t.1) → L φ p = L ψ p
  | [], _ => rfl
  | t :: p, h => by
    show t.2 * φ t.1 + L φ p = t.2 * ψ t.1 + L ψ p
    rw [h t List.mem_cons_self, L_congr p fun s hs => h s (List.mem_cons_of_mem _ hs)]
theorem L_lin (φ ψ : Mon → Int) (k : Int) : ∀ p : List Trm, L (fun m => φ m - k * ψ m) p = L φ p - k * L ψ p
  | [] => by show (0 : Int) = 0 - k * 0; omega
  | t :: p => by
    show t.2 * (φ t.1 - k * ψ t.1) + L _ p = t.2 * φ t.1 + L φ p - k * (t.2 * ψ t.1 + L ψ p)
    rw [L_lin φ ψ k p, Int.mul_sub, Int.mul_add, Int.mul_left_comm t.2 k]
    omega
theorem zipAdd_zs : ∀ m : Mon, zipAdd m (zs m.length) = m
  | [] => rfl
  | a :: m => by
    show (a + 0) :: zipAdd m (zs m.length) = a :: m
    rw [zipAdd_zs m, Nat.add_zero]
theorem L_step (φ : Mon → Int) {i k P c N d : Nat} {cur : List Trm} (h : i < P) (hc : Pl P c N d cur) : L φ (stepF i k P cur) = L (fun m => φ (zipAdd m (eM i P))) cur - k * L φ cur := by
  unfold stepF
  rw [L_times, ← L_lin]
  refine L_congr cur fun t ht => ?_
  unfold facM
  rw [L_minus _ (e_Pl h).can.nd, L_num]
  show (1 : Int) * φ (zipAdd t.1 (eM i P)) + 0 - k * φ (zipAdd t.1 (zs P)) = _
  rw [← hc.len t ht, zipAdd_zs, Int.one_mul, Int.add_zero]
end K64
-- L14
set_option Elab.async false
set_option linter.all false
set_option maxRecDepth 100000
set_option maxHeartbeats 400000
/-! L14: _law_at. -/
namespace K64
open PySem Ev
abbrev aB3 : List St := [St.asg (Tg.v 4) (Ex.bin Op2.mul (Ex.v 4) (Ex.v 6))]
theorem a_rng {n : Nat} {C : Calls} (A B G3 G5 : Option D) (s0 : Int) (c : Nat) (hc : c ≤ 1000) (S : Store) : ∀ (k : Nat) (lo term : Int) (x7 : Option D),
    ∃ y7, loopS (fun x ρ1 S2 => match asg (.v 7) x ρ1 with | some ρ2 => svs n C aB3 ρ2 S2 | none => .bad) (intsFrom lo k) [A, B, some (.int s0), G3, some (.int term), G5, some (nD c), x7] S =
      .ok .nx [A, B, some (.int s0), G3, some (.int (term * (c : Int) ^ k)), G5, some (nD c), y7] S
  | 0, lo, term, x7 => ⟨x7, by rw [Int.pow_zero, Int.mul_one]; rfl⟩
  | k + 1, lo, term, x7 => by
    obtain ⟨y7, e⟩ := a_rng (n := n) (C := C) A B G3 G5 s0 c hc S k (lo + 1) (term * c) (some (.int lo))
    refine ⟨y7, ?_⟩
    show loopS _ (D.int lo :: intsFrom (lo + 1) k) _ _ = _
    rw [loopS_cons]
    show contS (svs n C aB3 [A, B, some (.int s0), G3, some (.int term), G5, some (nD c), some (.int lo)] S) _ = _
    have t1 : svs n C aB3 [A, B, some (.int s0), G3, some (.int term), G5, some (nD c), some (.int lo)] S = .ok .nx [A, B, some (.int s0), G3, some (.int (term * c)), G5, some (nD c), some (.int lo)] S := by
      have m : bin2 .mul (.v (.int term)) (.v (nD c)) S = some (.v (.int (term * c))) := by
        show ((if mulOk term c then some (term * (c : Int)) else none).map fun k => T.v (.int k)) = _
        rw [if_pos (mulOk_r (by omega))]
        rfl
      have me : (ev C (Ex.bin Op2.mul (Ex.v 4) (Ex.v 6))).E [A, B, some (.int s0), G3, some (.int term), G5, some (nD c), some (.int lo)] S = .ok (.v (.int (term * c))) S := by
        show opt (bin2 .mul (.v (.int term)) (.v (nD c)) S) S = _
        rw [m]
        rfl
      rw [svs_cons, sv_asg, me]
      rfl
    rw [t1, contS_nx]
    have e' : term * (c : Int) ^ (k + 1) = term * c * (c : Int) ^ k := by
      rw [Int.pow_succ, Int.mul_comm ((c : Int) ^ k), Int.mul_assoc]
    rw [e']
    exact e
abbrev aB2 : List St := [St.for (Tg.v 7) (Ex.bi Bi.range [Ex.v 5]) aB3]
theorem a_zip {n : Nat} {C : Calls} (A B G3 : Option D) (s0 : Int) (S : Store) : ∀ (m cs : Mon) (term : Int) (x5 x6 x7 : Option D), (∀ a ∈ m, a ≤ 1000) → (∀ c ∈ cs, c ≤ 1000) →
    ∃ y5 y6 y7, loopS (fun x ρ1 S2 => match asg (.tup [.v 5, .v 6]) x ρ1 with | some ρ2 => svs n C aB2 ρ2 S2 | none => .bad) ((m.zip cs).map fun q => .tup [nD q.1, nD q.2]) [A, B, some (.int s0), G3, some (.int term), x5, x6, x7] S =
      .ok .nx [A, B, some (.int s0), G3, some (.int (term * vM m cs)), y5, y6, y7] S
  | [], cs, term, x5, x6, x7, _, _ => ⟨x5, x6, x7, by show SR.ok .nx [A, B, some (.int s0), G3, some (.int term), x5, x6, x7] S = _; rw [show vM [] cs = 1 by unfold vM; rfl, Int.mul_one]⟩
  | a :: m, [], term, x5, x6, x7, _, _ => ⟨x5, x6, x7, by show SR.ok .nx [A, B, some (.int s0), G3, some (.int term), x5, x6, x7] S = _; rw [show vM (a :: m) [] = 1 by unfold vM; rfl, Int.mul_one]⟩
  | a :: m, c :: cs, term, x5, x6, x7, ha, hc => by
    have hc0 := hc c List.mem_cons_self
    have ha0 := ha a List.mem_cons_self
    obtain ⟨z7, e1⟩ := a_rng (n := n) (C := C) A B G3 (some (nD a)) s0 c hc0 S a 0 term x7
    obtain ⟨y5, y6, y7, e⟩ := a_zip (n := n) (C := C) A B G3 s0 S m cs (term * (c : Int) ^ a) (some (nD a)) (some (nD c)) z7 (fun b hb => ha b (List.mem_cons_of_mem _ hb)) (fun b hb => hc b (List.mem_cons_of_mem _ hb))
    refine ⟨y5, y6, y7, ?_⟩
    rw [List.zip_cons_cons, List.map_cons, loopS_cons]
    show contS (svs n C aB2 [A, B, some (.int s0), G3, some (.int term), some (nD a), some (nD c), x7] S) _ = _
    have t1 : svs n C aB2 [A, B, some (.int s0), G3, some (.int term), some (nD a), some (nD c), x7] S = .ok .nx [A, B, some (.int s0), G3, some (.int (term * (c : Int) ^ a)), some (nD a), some (nD c), z7] S := by
      have ev5 : (ev C (Ex.v 5)).E [A, B, some (.int s0), G3, some (.int term), some (nD a), some (nD c), x7] S = .ok (.v (nD a)) S := rfl
      have it : (ev C (Ex.bi Bi.range [Ex.v 5])).I [A, B, some (.int s0), G3, some (.int term), some (nD a), some (nD c), x7] S = .ok (intsFrom 0 a, none) S := by
        rw [ev_biI, evs_cons, evs_nil, evTs_cons, ev5, bind_ok, evTs_nil, bind_ok, bind_ok, if_pos (show isIt Bi.range = true from rfl), itF_range a ha0 S]
        rfl
      rw [svs_cons, sv_for, it, thenS_ok]
      show seqS (unlockS none (loopS (fun x ρ1 S2 => match asg (.v 7) x ρ1 with | some ρ2 => svs n C aB3 ρ2 S2 | none => .bad) (intsFrom 0 a) [A, B, some (.int s0), G3, some (.int term), some (nD a), some (nD c), x7] S)) _ = _
      rw [e1]
      rfl
    rw [t1, contS_nx]
    have e' : term * vM (a :: m) (c :: cs) = term * (c : Int) ^ a * vM m cs := by
      show term * ((c : Int) ^ a * vM m cs) = _
      rw [Int.mul_assoc]
    rw [e']
    exact e
abbrev aB1 : List St := [St.for (Tg.tup [Tg.v 5, Tg.v 6]) (Ex.bi Bi.zip [Ex.v 3, Ex.v 1]) aB2, St.asg (Tg.v 2) (Ex.bin Op2.add (Ex.v 2) (Ex.v 4))]
theorem a_out {n : Nat} {C : Calls} (A : Option D) (S : Store) (cs : Mon) (hc : ∀ c ∈ cs, c ≤ 1000) : ∀ (p : List Trm) (s0 : Int) (x3 x4 x5 x6 x7 : Option D), (∀ t ∈ p, ∀ a ∈ t.1, a ≤ 1000) →
    ∃ ρ', loopS (fun x ρ1 S2 => match asg (.tup [.v 3, .v 4]) x ρ1 with | some ρ2 => svs n C aB1 ρ2 S2 | none => .bad) (p.map tD) [A, some (mD cs), some (.int s0), x3, x4, x5, x6, x7] S = .ok .nx ρ' S ∧ ρ'[2]? = some (some (.int (s0 + L (fun m => vM m cs) p)))
  | [], s0, x3, x4, x5, x6, x7, _ => ⟨_, rfl, by
    show some (some (D.int s0)) = _
    rw [show L (fun m => vM m cs) [] = 0 from rfl, Int.add_zero]⟩
  | t :: p, s0, x3, x4, x5, x6, x7, hp => by
    obtain ⟨y5, y6, y7, e1⟩ := a_zip (n := n) (C := C) A (some (mD cs)) (some (mD t.1)) s0 S t.1 cs t.2 x5 x6 x7 (hp t List.mem_cons_self) hc
    obtain ⟨ρ', e2, e3⟩ := a_out (n := n) (C := C) A S cs hc p (s0 + t.2 * vM t.1 cs) (some (mD t.1)) (some (.int (t.2 * vM t.1 cs))) y5 y6 y7 (fun s hs => hp s (List.mem_cons_of_mem _ hs))
    refine ⟨ρ', ?_, ?_⟩
    · rw [List.map_cons, loopS_cons]
      show contS (svs n C aB1 [A, some (mD cs), some (.int s0), some (mD t.1), some (.int t.2), x5, x6, x7] S) _ = _
      have t1 : svs n C aB1 [A, some (mD cs), some (.int s0), some (mD t.1), some (.int t.2), x5, x6, x7] S = .ok .nx [A, some (mD cs), some (.int (s0 + t.2 * vM t.1 cs)), some (mD t.1), some (.int (t.2 * vM t.1 cs)), y5, y6, y7] S := by
        have it : (ev C (Ex.bi Bi.zip [Ex.v 3, Ex.v 1])).I [A, some (mD cs), some (.int s0), some (mD t.1), some (.int t.2), x5, x6, x7] S = .ok ((t.1.zip cs).map fun q => .tup [nD q.1, nD q.2], none) S := by
          show R.ok (zipD (t.1.map nD) (cs.map nD), none) S = _
          rw [zipD_m]
        rw [svs_cons, sv_for, it, thenS_ok]
        show seqS (unlockS none (loopS (fun x ρ1 S2 => match asg (.tup [.v 5, .v 6]) x ρ1 with | some ρ2 => svs n C aB2 ρ2 S2 | none => .bad) ((t.1.zip cs).map fun q => .tup [nD q.1, nD q.2]) [A, some (mD cs), some (.int s0), some (mD t.1), some (.int t.2), x5, x6, x7] S)) _ = _
        rw [e1]
        rfl
      rw [t1, contS_nx]
      exact e2
    · rw [e3]
      show some (some (D.int (s0 + t.2 * vM t.1 cs + L (fun m => vM m cs) p))) = some (some (D.int (s0 + (t.2 * vM t.1 cs + L (fun m => vM m cs) p))))
      rw [Int.add_assoc]
theorem t_at (n : Nat) {p : List Trm} {cs : Mon} (S : Store) (hc : ∀ c ∈ cs, c ≤ 1000) (hp : ∀ t ∈ p, ∀ a ∈ t.1, a ≤ 1000) : callN F (n + 1) 20 [pD p, mD cs] S = .ok (.v (.int (L (fun m => vM m cs) p))) S := by
  rw [callN_at (fd := f__law_at) rfl rfl]
  obtain ⟨ρ', e1, e2⟩ := a_out (n := n) (C := callN F n) (some (pD p)) S cs hc p 0 none none none none none hp
  have it : (ev (callN F n) (Ex.v 0)).I [some (pD p), some (mD cs), some (.int 0), none, none, none, none, none] S = .ok (p.map tD, none) S := rfl
  show fin0 (svs n (callN F n) f__law_at.body [some (pD p), some (mD cs), none, none, none, none, none, none] S) = _
  unfold f__law_at
  rw [svs_cons, sv_asg]
  show fin0 (seqS (SR.ok .nx [some (pD p), some (mD cs), some (.int 0), none, none, none, none, none] S) _) = _
  rw [seqS_nx, svs_cons, sv_for, it, thenS_ok]
  show fin0 (seqS (unlockS none (loopS (fun x ρ1 S2 => match asg (.tup [.v 3, .v 4]) x ρ1 with | some ρ2 => svs n (callN F n) aB1 ρ2 S2 | none => .bad) (p.map tD) [some (pD p), some (mD cs), some (.int 0), none, none, none, none, none] S)) _) = _
  rw [e1]
  show fin0 (seqS (SR.ok .nx ρ' S) _) = _
  rw [Int.zero_add] at e2
  rw [seqS_nx, svs_cons, sv_ret, ev_v, e2]
  rfl
end K64
-- L15
set_option Elab.async false
set_option linter.all false
set_option maxRecDepth 100000
set_option maxHeartbeats 400000
/-! L15: _law_take, in parts. -/
namespace K64
open PySem Ev
def bagC (b0 b1 b2 : Int) : Cell := .lst false [.int b0, .int b1, .int b2, .ref 1]
/-- the store with the bag at place 2, its cells at place 1 -/
structure BagS (S : Store) (b0 b1 b2 : Int) (cs : List Int) : Prop where
  w : WS S
  c : S[1]? = some (.lst false (cs.map D.int))
  b : S[2]? = some (bagC b0 b1 b2)
theorem BagS.set {S : Store} {b0 b1 b2 : Int} {cs : List Int} (h : BagS S b0 b1 b2 cs) (c0 c1 c2 : Int) : BagS (S.set 2 (bagC c0 c1 c2)) c0 c1 c2 cs := by
  have hl : 2 < S.length := (List.getElem?_eq_some_iff.mp h.b).1
  refine ⟨?_, ?_, ?_⟩
  · unfold WS
    rw [List.length_set, List.all_eq_true]
    intro x hx
    rcases List.mem_or_eq_of_mem_set hx with z | z
    · exact List.all_eq_true.mp h.w x z
    · rw [z]
      show (true && (true && (true && (decide (1 < S.length) && true)))) = true
      rw [decide_eq_true (by omega)]
      rfl
  · rw [List.getElem?_set_ne (by decide)]
    exact h.c
  · rw [List.getElem?_set_self hl]
section
variable {C : Calls} {S : Store} {b0 b1 b2 : Int} {cs : List Int} {ρ : Ev.Env}
theorem bag_ix (h : BagS S b0 b1 b2 cs) (hr : ρ[0]? = some (some (.ref 2))) (k : Int) (d : D) (hk : L2.atI [D.int b0, .int b1, .int b2, .ref 1] k = some d) : (ev C (Ex.ix (Ex.v 0) (Ex.c (.int k)))).E ρ S = .ok (.v d) S := by
  rw [ev_ix, ev_v, hr]
  show (R.ok (T.v (.ref 2)) S).bind (fun ta S1 => ((ev C (Ex.c (.int k))).E ρ S1).bind fun ti S2 => opt (getF ta ti S2) S2) = _
  rw [bind_ok, ev_c, bind_ok]
  have e : getF (.v (.ref 2)) (.v (.int k)) S = some (.v d) := by
    show (match asL (.v (.ref 2)) S with | some xs => (ixAt xs k).map T.v | none => none) = _
    have ea : asL (.v (.ref 2)) S = some [D.int b0, .int b1, .int b2, .ref 1] := by
      show (match S[2]? with | some (.lst _ xs) => some xs | some (.ro xs) => some xs | _ => none) = _
      rw [h.b]
      rfl
    rw [ea]
    show (L2.atI [D.int b0, .int b1, .int b2, .ref 1] k).map T.v = _
    rw [hk]
    rfl
  rw [e]
  rfl
theorem at4_0 : L2.atI [D.int b0, .int b1, .int b2, .ref 1] 0 = some (.int b0) := rfl
theorem at4_1 : L2.atI [D.int b0, .int b1, .int b2, .ref 1] 1 = some (.int b1) := rfl
theorem at4_2 : L2.atI [D.int b0, .int b1, .int b2, .ref 1] 2 = some (.int b2) := rfl
theorem at4_3 : L2.atI [D.int b0, .int b1, .int b2, .ref 1] 3 = some (.ref 1) := rfl
theorem bag_set (h : BagS S b0 b1 b2 cs) (k : Int) (j : Nat) (d : D) (hk : L2.ixN 4 k = some j) : setF (.v (.ref 2)) (.v (.int k)) d S = some (S.set 2 (.lst false (([D.int b0, .int b1, .int b2, .ref 1] : List D).set j d))) := by
  show (match S[2]?, D.int k with
    | some (.lst false xs), .int j => (match L2.ixN xs.length j with
      | some q => some (S.set 2 (.lst false (xs.set q d)))
      | none => none)
    | some (.dT false kvs), k' => if k'.isKey ∧ kvs.length < lim then some (S.set 2 (.dT false (putD kvs k' d))) else none
    | _, _ => none) = _
  rw [h.b]
  show (match L2.ixN 4 k with
      | some q => some (S.set 2 (.lst false (([D.int b0, .int b1, .int b2, .ref 1] : List D).set q d)))
      | none => none) = _
  rw [hk]
abbrev takeEx : Ex := (Ex.bin Op2.add (Ex.sl true false ((Ex.v 0).ix (Ex.c (D.int 3))) ((Ex.v 0).ix (Ex.c (D.int 2))) (Ex.c D.non)) (Ex.lst [Ex.c (D.int 0)])).ix (Ex.c (D.int 0))
theorem take_cell (h : BagS S b0 b1 b2 cs) (hc : ∀ c ∈ cs, 0 ≤ c) (hl : cs.length ≤ 1000) (hr : ρ[0]? = some (some (.ref 2))) : ∃ c : Int, 0 ≤ c ∧ (ev C takeEx).E ρ S = .ok (.v (.int c)) S := by
  have e3 := bag_ix (C := C) h hr 3 (.ref 1) at4_3
  have e2 := bag_ix (C := C) h hr 2 (.int b2) at4_2
  have es : (ev C (Ex.sl true false ((Ex.v 0).ix (Ex.c (D.int 3))) ((Ex.v 0).ix (Ex.c (D.int 2))) (Ex.c D.non))).E ρ S = .ok (.l (cutD (cs.map D.int) (some b2) none)) S := by
    rw [ev_sl, e3, bind_ok]
    show (((ev C ((Ex.v 0).ix (Ex.c (D.int 2)))).E ρ S).bind fun t S1 => (match t with | .v (.int i) => R.ok (some i) S1 | _ => .bad)).bind (fun l S2 => (evP false (ev C (Ex.c D.non)).E ρ S2).bind fun hh S3 => opt (slice (.v (.ref 1)) l hh S3) S3) = _
    rw [e2, bind_ok]
    show opt (slice (.v (.ref 1)) (some b2) none S) S = _
    have esl : slice (.v (.ref 1)) (some b2) none S = some (.l (cutD (cs.map D.int) (some b2) none)) := by
      have ea : asL (.v (.ref 1)) S = some (cs.map D.int) := by
        show (match S[1]? with | some (.lst _ xs) => some xs | some (.ro xs) => some xs | _ => none) = _
        rw [h.c]
      show (asL (.v (.ref 1)) S).map (fun xs => T.l (cutD xs (some b2) none)) = _
      rw [ea]
      rfl
    rw [esl]
    rfl
  obtain ⟨r, hr1, hr2⟩ : ∃ r : List Int, cutD (cs.map D.int) (some b2) none = r.map D.int ∧ ∀ c ∈ r, c ∈ cs := by
    refine ⟨_, by unfold cutD; rw [← List.map_drop, ← List.map_take], fun c hcc => List.mem_of_mem_drop (List.mem_of_mem_take hcc)⟩
  have hlen : (r.map D.int).length ≤ 1000 := by
    rw [← hr1]
    unfold cutD
    rw [List.length_take, List.length_drop, List.length_map]
    omega
  have ea : (ev C (Ex.bin Op2.add (Ex.sl true false ((Ex.v 0).ix (Ex.c (D.int 3))) ((Ex.v 0).ix (Ex.c (D.int 2))) (Ex.c D.non)) (Ex.lst [Ex.c (D.int 0)]))).E ρ S = .ok (.l (r.map D.int ++ [.int 0])) S := by
    rw [ev_bin, es, bind_ok, hr1]
    show opt (if (r.map D.int).length + 1 ≤ lim then some (T.l (r.map D.int ++ [.int 0])) else none) S = _
    rw [if_pos (Nat.le_trans (Nat.succ_le_succ hlen) (by decide))]
    rfl
  cases r with
  | nil =>
    refine ⟨0, Int.le_refl _, ?_⟩
    rw [ev_ix, ea, bind_ok]
    rfl
  | cons c r =>
    refine ⟨c, hc c (hr2 c List.mem_cons_self), ?_⟩
    rw [ev_ix, ea, bind_ok, ev_c, bind_ok]
    show opt ((L2.atI (D.int c :: (r.map D.int ++ [.int 0])) 0).map T.v) S = _
    rw [atI0]
    rfl
end
end K64
-- L16
set_option Elab.async false
set_option linter.all false
set_option maxRecDepth 100000
set_option maxHeartbeats 400000
/-! L16: _law_take's first part. -/
namespace K64
open PySem Ev
section
variable {n : Nat} {C : Calls} {S : Store} {b0 b1 b2 : Int} {cs : List Int} {ρ : Ev.Env}
theorem bag_get (h : BagS S b0 b1 b2 cs) (k : Int) (d : D) (hk : L2.atI [D.int b0, .int b1, .int b2, .ref 1] k = some d) : getF (.v (.ref 2)) (.v (.int k)) S = some (.v d) := by
  show (match asL (.v (.ref 2)) S with | some xs => (ixAt xs k).map T.v | none => none) = _
  have ea : asL (.v (.ref 2)) S = some [D.int b0, .int b1, .int b2, .ref 1] := by
    show (match S[2]? with | some (.lst _ xs) => some xs | some (.ro xs) => some xs | _ => none) = _
    rw [h.b]
    rfl
  rw [ea]
  show (L2.atI [D.int b0, .int b1, .int b2, .ref 1] k).map T.v = _
  rw [hk]
  rfl
theorem take_aug (h : BagS S b0 b1 b2 cs) (hr : ρ[0]? = some (some (.ref 2))) : sv n C (.augi (Ex.v 0) (Ex.c (.int 2)) .add (Ex.c (.int 1))) ρ S = .ok .nx ρ (S.set 2 (bagC b0 b1 (b2 + 1))) := by
  show thenS (((ev C (Ex.v 0)).E ρ S).bind fun to S1 => ((ev C (Ex.c (.int 2))).E ρ S1).bind fun ti S2 => (opt (getF to ti S2) S2).bind fun told S3 => ((ev C (Ex.c (.int 1))).E ρ S3).bind fun t S4 => (opt (aug2 .add told t) S4).bind fun d' S5 => optS (setF to ti d' S5)) ρ (fun _ S6 => .ok .nx ρ S6) = _
  rw [ev_v, hr]
  show thenS ((R.ok (T.v (.ref 2)) S).bind fun to S1 => ((ev C (Ex.c (.int 2))).E ρ S1).bind fun ti S2 => (opt (getF to ti S2) S2).bind fun told S3 => ((ev C (Ex.c (.int 1))).E ρ S3).bind fun t S4 => (opt (aug2 .add told t) S4).bind fun d' S5 => optS (setF to ti d' S5)) ρ (fun _ S6 => .ok .nx ρ S6) = _
  rw [bind_ok, ev_c, bind_ok, bag_get h 2 (.int b2) at4_2, opt_some, bind_ok, ev_c, bind_ok]
  show thenS (optS (setF (.v (.ref 2)) (.v (.int 2)) (.int (b2 + 1)) S)) ρ (fun _ S6 => .ok .nx ρ S6) = _
  rw [bag_set h 2 2 _ rfl]
  rfl
theorem take_set0 (h : BagS S b0 b1 b2 cs) (hr : ρ[0]? = some (some (.ref 2))) {e : Ex} {v : Int} (he : (ev C e).E ρ S = .ok (.v (.int v)) S) : sv n C (.seti (Ex.v 0) (Ex.c (.int 0)) e) ρ S = .ok .nx ρ (S.set 2 (bagC v b1 b2)) := by
  rw [sv_seti, he, bind_ok, mat_v, thenS_ok, ev_v, hr]
  show thenS ((R.ok (T.v (.ref 2)) S).bind fun to S2 => ((ev C (Ex.c (.int 0))).E ρ S2).bind fun ti S3 => optS (setF to ti (.int v) S3)) ρ (fun _ S4 => .ok .nx ρ S4) = _
  rw [bind_ok, ev_c, bind_ok, bag_set h 0 0 _ rfl]
  rfl
theorem take_set1 (h : BagS S b0 b1 b2 cs) (hr : ρ[0]? = some (some (.ref 2))) {e : Ex} {v : Int} (he : (ev C e).E ρ S = .ok (.v (.int v)) S) : sv n C (.seti (Ex.v 0) (Ex.c (.int 1)) e) ρ S = .ok .nx ρ (S.set 2 (bagC b0 v b2)) := by
  rw [sv_seti, he, bind_ok, mat_v, thenS_ok, ev_v, hr]
  show thenS ((R.ok (T.v (.ref 2)) S).bind fun to S2 => ((ev C (Ex.c (.int 1))).E ρ S2).bind fun ti S3 => optS (setF to ti (.int v) S3)) ρ (fun _ S4 => .ok .nx ρ S4) = _
  rw [bind_ok, ev_c, bind_ok, bag_set h 1 1 _ rfl]
  rfl
theorem t18 : (ev C (Ex.bin Op2.pow (Ex.c (D.int 10)) (Ex.c (D.int 18)))).E ρ S = .ok (.v (.int 1000000000000000000)) S := by kernel_rfl
abbrev takeIf : St := St.ite (Ex.cmp Cm.ge (Ex.v 2) (Ex.bin Op2.pow (Ex.c (D.int 10)) (Ex.c (D.int 18)))) [St.seti (Ex.v 0) (Ex.c (D.int 0)) (Ex.v 2)] []
theorem take_if (h : BagS S b0 b1 b2 cs) (h0 : 0 ≤ b0) {c : Int} (hc : 0 ≤ c) (hr : ρ[0]? = some (some (.ref 2))) (hr2 : ρ[2]? = some (some (.int c))) : ∃ c0, 0 ≤ c0 ∧ sv n C takeIf ρ S = .ok .nx ρ (S.set 2 (bagC c0 b1 b2)) := by
  have ev2 : (ev C (Ex.v 2)).E ρ S = .ok (.v (.int c)) S := by
    rw [ev_v, hr2]
  have hb : (ev C (Ex.cmp Cm.ge (Ex.v 2) (Ex.bin Op2.pow (Ex.c (D.int 10)) (Ex.c (D.int 18))))).B ρ S = .ok (decide (1000000000000000000 ≤ c)) S := by
    rw [ev_cmpB, ev2, bind_ok, t18, bind_ok]
    rfl
  by_cases hq : 1000000000000000000 ≤ c
  · refine ⟨c, hc, ?_⟩
    rw [sv_ite, hb, thenS_ok, decide_eq_true hq, if_pos rfl, svs_cons, take_set0 h hr ev2]
    rfl
  · refine ⟨b0, h0, ?_⟩
    rw [sv_ite, hb, thenS_ok, decide_eq_false hq, if_neg Bool.false_ne_true, svs_nil]
    have : S.set 2 (bagC b0 b1 b2) = S := by
      apply List.ext_getElem?
      intro i
      by_cases e : 2 = i
      · subst e
        rw [List.getElem?_set_self (List.getElem?_eq_some_iff.mp h.b).1, h.b]
      · rw [List.getElem?_set_ne e]
    rw [this]
abbrev takeMix : Ex := Ex.bin Op2.add (Ex.bin Op2.add (Ex.bin Op2.mul ((Ex.v 0).ix (Ex.c (D.int 1))) (Ex.c (D.int 48271))) (Ex.bin Op2.mod (Ex.bi Bi.int [Ex.v 2]) (Ex.c (D.int 2147483647)))) (Ex.bin Op2.mul (Ex.c (D.int 7919)) ((Ex.v 0).ix (Ex.c (D.int 2))))
theorem take_mix (h : BagS S b0 b1 b2 cs) {c : Int} (hr : ρ[0]? = some (some (.ref 2))) (hr2 : ρ[2]? = some (some (.int c))) : ∃ v : Int, (ev C takeMix).E ρ S = .ok (.v (.int v)) S := by
  have e1 := bag_ix (C := C) h hr 1 (.int b1) at4_1
  have e2 := bag_ix (C := C) h hr 2 (.int b2) at4_2
  have ev2 : (ev C (Ex.v 2)).E ρ S = .ok (.v (.int c)) S := by
    rw [ev_v, hr2]
  have m1 : bin2 .mul (.v (.int b1)) (.v (.int 48271)) S = some (.v (.int (b1 * 48271))) := by
    show ((if mulOk b1 48271 then some (b1 * 48271) else none).map fun k => T.v (.int k)) = _
    rw [if_pos (mulOk_r (by decide))]
    rfl
  have m2 : bin2 .mul (.v (.int 7919)) (.v (.int b2)) S = some (.v (.int (7919 * b2))) := by
    show ((if mulOk 7919 b2 then some (7919 * b2) else none).map fun k => T.v (.int k)) = _
    rw [if_pos (mulOk_of (by decide))]
    rfl
  have md : (ev C (Ex.bin Op2.mod (Ex.bi Bi.int [Ex.v 2]) (Ex.c (D.int 2147483647)))).E ρ S = .ok (.v (.int (c % 2147483647))) S := by
    rw [ev_bin, ev_bi, evs_cons, evs_nil, evTs_cons, ev2, bind_ok, evTs_nil, bind_ok, bind_ok]
    rfl
  refine ⟨b1 * 48271 + c % 2147483647 + 7919 * b2, ?_⟩
  rw [ev_bin, ev_bin, ev_bin, e1, bind_ok, ev_c, bind_ok, m1, opt_some, bind_ok, md, bind_ok]
  show (R.ok (T.v (.int (b1 * 48271 + c % 2147483647))) S).bind (fun ta S1 => ((ev C (Ex.bin Op2.mul (Ex.c (D.int 7919)) ((Ex.v 0).ix (Ex.c (D.int 2))))).E ρ S1).bind fun tb S2 => opt (bin2 .add ta tb S2) S2) = _
  rw [bind_ok, ev_bin, ev_c, bind_ok, e2, bind_ok, m2, opt_some, bind_ok]
  rfl
end
end K64
-- L17
set_option Elab.async false
set_option linter.all false
set_option maxRecDepth 100000
set_option maxHeartbeats 400000
/-! L17: _law_take. -/
namespace K64
open PySem Ev
section
variable {n : Nat} {C : Calls} {S : Store} {b0 b1 b2 : Int} {cs : List Int} {ρ : Ev.Env}
theorem bag_same (h : BagS S b0 b1 b2 cs) : S.set 2 (bagC b0 b1 b2) = S := by
  apply List.ext_getElem?
  intro i
  by_cases e : 2 = i
  · subst e
    rw [List.getElem?_set_self (List.getElem?_eq_some_iff.mp h.b).1, h.b]
  · rw [List.getElem?_set_ne e]
abbrev takeA : List St := [St.asg (Tg.v 2) takeEx, St.augi (Ex.v 0) (Ex.c (D.int 2)) Op2.add (Ex.c (D.int 1)), takeIf, St.asg (Tg.v 3) takeMix, St.seti (Ex.v 0) (Ex.c (D.int 1)) (Ex.bin Op2.mod (Ex.bi Bi.int [Ex.v 3]) (Ex.c (D.int 2147483647)))]
abbrev takeB : St := St.ite (Ex.cmp Cm.eq ((Ex.v 0).ix (Ex.c (D.int 0))) (Ex.c (D.int 0))) takeA []
theorem take_A (h : BagS S b0 b1 b2 cs) (h0 : 0 ≤ b0) (hc : ∀ c ∈ cs, 0 ≤ c) (hl : cs.length ≤ 1000) (M : Option D) : ∃ x2 x3 c0 c1 c2, 0 ≤ c0 ∧
    sv n C takeB [some (.ref 2), M, none, none, none, none, none] S = .ok .nx [some (.ref 2), M, x2, x3, none, none, none] (S.set 2 (bagC c0 c1 c2)) := by
  have e0 := bag_ix (C := C) (ρ := [some (.ref 2), M, none, none, none, none, none]) h rfl 0 (.int b0) at4_0
  have hb : (ev C (Ex.cmp Cm.eq ((Ex.v 0).ix (Ex.c (D.int 0))) (Ex.c (D.int 0)))).B [some (.ref 2), M, none, none, none, none, none] S = .ok (decide (b0 = 0)) S := by
    rw [ev_cmpB, e0, bind_ok, ev_c, bind_ok, eq_int]
    rfl
  by_cases hz : b0 = 0
  · obtain ⟨c, hc0, ec⟩ := take_cell (C := C) (ρ := [some (.ref 2), M, none, none, none, none, none]) h hc hl rfl
    have s2 := take_aug (n := n) (C := C) (ρ := [some (.ref 2), M, some (.int c), none, none, none, none]) h rfl
    have hB2 := h.set b0 b1 (b2 + 1)
    obtain ⟨d0, hd0, s3⟩ := take_if (n := n) (C := C) (ρ := [some (.ref 2), M, some (.int c), none, none, none, none]) hB2 h0 hc0 rfl rfl
    rw [List.set_set] at s3
    have hB3 := h.set d0 b1 (b2 + 1)
    obtain ⟨v, ev3⟩ := take_mix (C := C) (ρ := [some (.ref 2), M, some (.int c), none, none, none, none]) hB3 rfl rfl
    have md : (ev C (Ex.bin Op2.mod (Ex.bi Bi.int [Ex.v 3]) (Ex.c (D.int 2147483647)))).E [some (.ref 2), M, some (.int c), some (.int v), none, none, none] (S.set 2 (bagC d0 b1 (b2 + 1))) = .ok (.v (.int (v % 2147483647))) (S.set 2 (bagC d0 b1 (b2 + 1))) := rfl
    have s5 := take_set1 (n := n) (C := C) (ρ := [some (.ref 2), M, some (.int c), some (.int v), none, none, none]) hB3 rfl md
    rw [List.set_set] at s5
    refine ⟨some (.int c), some (.int v), d0, v % 2147483647, b2 + 1, hd0, ?_⟩
    rw [sv_ite, hb, thenS_ok, decide_eq_true hz, if_pos rfl, svs_cons, sv_asg, ec, bind_ok, mat_v, thenS_ok]
    show seqS (SR.ok .nx [some (.ref 2), M, some (.int c), none, none, none, none] S) _ = _
    rw [seqS_nx, svs_cons, s2, seqS_nx, svs_cons, s3, seqS_nx, svs_cons, sv_asg, ev3, bind_ok, mat_v, thenS_ok]
    show seqS (SR.ok .nx [some (.ref 2), M, some (.int c), some (.int v), none, none, none] (S.set 2 (bagC d0 b1 (b2 + 1)))) _ = _
    rw [seqS_nx, svs_cons, s5, seqS_nx, svs_nil]
  · refine ⟨none, none, b0, b1, b2, h0, ?_⟩
    rw [sv_ite, hb, thenS_ok, decide_eq_false hz, if_neg Bool.false_ne_true, svs_nil, bag_same h]
theorem fdivOk {i j : Int} (h0 : 0 < j) (h : j.natAbs < 2 ^ 8) : Ev.binI .fdiv i j = some (i / j) := by
  have h2 : (2 : Nat) ^ 8 ≤ 2 ^ 8000 := Nat.pow_le_pow_right (by decide) (by decide)
  unfold Ev.binI
  exact if_pos ⟨h0, Nat.lt_of_lt_of_le h h2⟩
theorem modOk {i j : Int} (h0 : 0 < j) : Ev.binI .mod i j = some (i % j) := by
  unfold Ev.binI
  exact if_pos h0
end
abbrev takeC : St := St.ite (Ex.cmp Cm.gt ((Ex.v 0).ix (Ex.c (D.int 0))) (Ex.c (D.int 0))) [St.asg (Tg.v 4) (Ex.bin Op2.mod (Ex.bi Bi.int [(Ex.v 0).ix (Ex.c (D.int 0))]) (Ex.v 1)), St.seti (Ex.v 0) (Ex.c (D.int 0)) (Ex.bin Op2.fdiv (Ex.bi Bi.int [(Ex.v 0).ix (Ex.c (D.int 0))]) (Ex.v 1)), St.ret (Ex.v 4)] []
abbrev takeD5 : Ex := (Ex.bin Op2.mod (Ex.bi Bi.int [Ex.bin Op2.mul (Ex.bin Op2.add ((Ex.v 0).ix (Ex.c (D.int 1))) (Ex.c (D.int 1))) (Ex.c (D.int 39373))]) (Ex.c (D.int 1000000007)))
abbrev takeD6 : Ex := (Ex.bin Op2.mod (Ex.bi Bi.int [Ex.bin Op2.mul (Ex.bin Op2.mod (Ex.bi Bi.int [Ex.bin Op2.mul (Ex.v 5) (Ex.v 5)]) (Ex.c (D.int 998244353))) (Ex.c (D.int 30011))]) (Ex.c (D.int 998244353)))
abbrev takeD7 : Ex := (Ex.bin Op2.mod (Ex.bi Bi.int [Ex.bin Op2.fdiv (Ex.v 6) (Ex.c (D.int 7))]) (Ex.v 1))
theorem t_take (n : Nat) {S : Store} {b0 b1 b2 : Int} {cs : List Int} (h : BagS S b0 b1 b2 cs) (h0 : 0 ≤ b0) (hc : ∀ c ∈ cs, 0 ≤ c) (hl : cs.length ≤ 1000) {M : Nat} (hM : 0 < M) (hM9 : M ≤ 9) :
    ∃ (v : Nat) (c0 c1 c2 : Int), v < M ∧ 0 ≤ c0 ∧ callN F (n + 1) 17 [.ref 2, .int (M : Nat)] S = .ok (.v (nD v)) (S.set 2 (bagC c0 c1 c2)) := by
  rw [callN_at (fd := f__law_take) rfl rfl]
  obtain ⟨x2, x3, c0, c1, c2, hc0, eA⟩ := take_A (n := n) (C := callN F n) h h0 hc hl (some (.int (M : Nat)))
  have hB := h.set c0 c1 c2
  have hM0 : (0 : Int) < (M : Nat) := by omega
  have e0 := bag_ix (C := callN F n) (ρ := [some (.ref 2), some (.int (M : Nat)), x2, x3, none, none, none]) hB rfl 0 (.int c0) at4_0
  have hb : (ev (callN F n) (Ex.cmp Cm.gt ((Ex.v 0).ix (Ex.c (D.int 0))) (Ex.c (D.int 0)))).B [some (.ref 2), some (.int (M : Nat)), x2, x3, none, none, none] (S.set 2 (bagC c0 c1 c2)) = .ok (decide (0 < c0)) (S.set 2 (bagC c0 c1 c2)) := by
    rw [ev_cmpB, e0, bind_ok, ev_c, bind_ok]
    rfl
  have start : ∀ r, fin0 (svs n (callN F n) [takeC, St.asg (Tg.v 5) takeD5, St.asg (Tg.v 6) takeD6, St.ret takeD7] [some (.ref 2), some (.int (M : Nat)), x2, x3, none, none, none] (S.set 2 (bagC c0 c1 c2))) = r →
      fin0 (svs n (callN F n) f__law_take.body (startE f__law_take.nn [.ref 2, .int (M : Nat)]) S) = r := by
    intro r hr
    show fin0 (svs n (callN F n) (takeB :: [takeC, St.asg (Tg.v 5) takeD5, St.asg (Tg.v 6) takeD6, St.ret takeD7]) [some (.ref 2), some (.int (M : Nat)), none, none, none, none, none] S) = r
    rw [svs_cons, eA, seqS_nx]
    exact hr
  by_cases hp : 0 < c0
  · have e4 : (ev (callN F n) (Ex.bin Op2.mod (Ex.bi Bi.int [(Ex.v 0).ix (Ex.c (D.int 0))]) (Ex.v 1))).E [some (.ref 2), some (.int (M : Nat)), x2, x3, none, none, none] (S.set 2 (bagC c0 c1 c2)) = .ok (.v (.int (c0 % (M : Nat)))) (S.set 2 (bagC c0 c1 c2)) := by
      rw [ev_bin, ev_bi, evs_cons, evs_nil, evTs_cons, e0, bind_ok, evTs_nil, bind_ok, bind_ok]
      show opt ((Ev.binI .mod c0 (M : Nat)).map fun k => T.v (.int k)) _ = _
      rw [modOk hM0]
      rfl
    have e0' := bag_ix (C := callN F n) (ρ := [some (.ref 2), some (.int (M : Nat)), x2, x3, some (.int (c0 % (M : Nat))), none, none]) hB rfl 0 (.int c0) at4_0
    have e5 : (ev (callN F n) (Ex.bin Op2.fdiv (Ex.bi Bi.int [(Ex.v 0).ix (Ex.c (D.int 0))]) (Ex.v 1))).E [some (.ref 2), some (.int (M : Nat)), x2, x3, some (.int (c0 % (M : Nat))), none, none] (S.set 2 (bagC c0 c1 c2)) = .ok (.v (.int (c0 / (M : Nat)))) (S.set 2 (bagC c0 c1 c2)) := by
      rw [ev_bin, ev_bi, evs_cons, evs_nil, evTs_cons, e0', bind_ok, evTs_nil, bind_ok, bind_ok]
      show opt ((Ev.binI .fdiv c0 (M : Nat)).map fun k => T.v (.int k)) _ = _
      rw [fdivOk hM0 (by omega)]
      rfl
    have s5 := take_set0 (n := n) (C := callN F n) (ρ := [some (.ref 2), some (.int (M : Nat)), x2, x3, some (.int (c0 % (M : Nat))), none, none]) hB rfl e5
    rw [List.set_set] at s5
    have hv1 := Int.emod_nonneg c0 (show ((M : Nat) : Int) ≠ 0 by omega)
    have hv2 := Int.emod_lt_of_pos c0 hM0
    refine ⟨(c0 % (M : Nat)).toNat, c0 / (M : Nat), c1, c2, by omega, Int.ediv_nonneg hc0 (by omega), start _ ?_⟩
    rw [svs_cons, sv_ite, hb, thenS_ok, decide_eq_true hp, if_pos rfl, svs_cons, sv_asg, e4, bind_ok, mat_v, thenS_ok]
    show fin0 (seqS (seqS (SR.ok .nx [some (.ref 2), some (.int (M : Nat)), x2, x3, some (.int (c0 % (M : Nat))), none, none] (S.set 2 (bagC c0 c1 c2))) _) _) = _
    rw [seqS_nx, svs_cons, s5, seqS_nx, svs_cons, sv_ret]
    show R.ok (T.v (.int (c0 % (M : Nat)))) _ = R.ok (T.v (.int ((c0 % (M : Nat)).toNat : Nat))) _
    rw [Int.toNat_of_nonneg hv1]
  · have e1 := bag_ix (C := callN F n) (ρ := [some (.ref 2), some (.int (M : Nat)), x2, x3, none, none, none]) hB rfl 1 (.int c1) at4_1
    have m5 : ∀ S', bin2 .mul (.v (.int (c1 + 1))) (.v (.int 39373)) S' = some (.v (.int ((c1 + 1) * 39373))) := fun S' => by
      show ((if mulOk (c1 + 1) 39373 then some ((c1 + 1) * 39373) else none).map fun k => T.v (.int k)) = _
      rw [if_pos (mulOk_r (by decide))]
      rfl
    have e5 : (ev (callN F n) takeD5).E [some (.ref 2), some (.int (M : Nat)), x2, x3, none, none, none] (S.set 2 (bagC c0 c1 c2)) = .ok (.v (.int ((c1 + 1) * 39373 % 1000000007))) (S.set 2 (bagC c0 c1 c2)) := by
      rw [ev_bin, ev_bi, evs_cons, evs_nil, evTs_cons, ev_bin, ev_bin, e1, bind_ok, ev_c, bind_ok]
      show ((((R.ok (T.v (.int (c1 + 1))) (S.set 2 (bagC c0 c1 c2))).bind fun ta S1 => ((ev (callN F n) (Ex.c (D.int 39373))).E [some (.ref 2), some (.int (M : Nat)), x2, x3, none, none, none] S1).bind fun tb S2 => opt (bin2 .mul ta tb S2) S2).bind fun t S1 => (evTs [] [some (.ref 2), some (.int (M : Nat)), x2, x3, none, none, none] S1).bind fun ts S2 => R.ok (t :: ts) S2).bind fun ts S1 => opt (biF .int ts S1) S1).bind _ = _
      rw [bind_ok, ev_c, bind_ok, m5, opt_some, bind_ok, evTs_nil, bind_ok, bind_ok]
      rfl
    have ha1 := Int.emod_nonneg ((c1 + 1) * 39373) (show (1000000007 : Int) ≠ 0 by decide)
    have ha2 := Int.emod_lt_of_pos ((c1 + 1) * 39373) (show (0 : Int) < 1000000007 by decide)
    generalize (c1 + 1) * 39373 % 1000000007 = a at e5 ha1 ha2
    have e6 : ∃ f : Int, (ev (callN F n) takeD6).E [some (.ref 2), some (.int (M : Nat)), x2, x3, none, some (.int a), none] (S.set 2 (bagC c0 c1 c2)) = .ok (.v (.int f)) (S.set 2 (bagC c0 c1 c2)) := by
      have ev5 : (ev (callN F n) (Ex.v 5)).E [some (.ref 2), some (.int (M : Nat)), x2, x3, none, some (.int a), none] (S.set 2 (bagC c0 c1 c2)) = .ok (.v (.int a)) (S.set 2 (bagC c0 c1 c2)) := rfl
      have m6 : ∀ S', bin2 .mul (.v (.int a)) (.v (.int a)) S' = some (.v (.int (a * a))) := fun S' => by
        show ((if mulOk a a then some (a * a) else none).map fun k => T.v (.int k)) = _
        rw [if_pos (mulOk_of (by omega))]
        rfl
      have q1 : (ev (callN F n) (Ex.bin Op2.mod (Ex.bi Bi.int [Ex.bin Op2.mul (Ex.v 5) (Ex.v 5)]) (Ex.c (D.int 998244353)))).E [some (.ref 2), some (.int (M : Nat)), x2, x3, none, some (.int a), none] (S.set 2 (bagC c0 c1 c2)) = .ok (.v (.int (a * a % 998244353))) (S.set 2 (bagC c0 c1 c2)) := by
        rw [ev_bin, ev_bi, evs_cons, evs_nil, evTs_cons, ev_bin, ev5, bind_ok, ev5, bind_ok, m6, opt_some, bind_ok, evTs_nil, bind_ok, bind_ok]
        rfl
      have m7 : ∀ (x : Int) S', bin2 .mul (.v (.int x)) (.v (.int 30011)) S' = some (.v (.int (x * 30011))) := fun x S' => by
        show ((if mulOk x 30011 then some (x * 30011) else none).map fun k => T.v (.int k)) = _
        rw [if_pos (mulOk_r (by decide))]
        rfl
      refine ⟨a * a % 998244353 * 30011 % 998244353, ?_⟩
      rw [ev_bin, ev_bi, evs_cons, evs_nil, evTs_cons, ev_bin, q1, bind_ok, ev_c, bind_ok, m7, opt_some, bind_ok, evTs_nil, bind_ok, bind_ok]
      rfl
    obtain ⟨f, e6⟩ := e6
    have e7 : (ev (callN F n) takeD7).E [some (.ref 2), some (.int (M : Nat)), x2, x3, none, some (.int a), some (.int f)] (S.set 2 (bagC c0 c1 c2)) = .ok (.v (.int (f / 7 % (M : Nat)))) (S.set 2 (bagC c0 c1 c2)) := by
      have ev6 : (ev (callN F n) (Ex.v 6)).E [some (.ref 2), some (.int (M : Nat)), x2, x3, none, some (.int a), some (.int f)] (S.set 2 (bagC c0 c1 c2)) = .ok (.v (.int f)) (S.set 2 (bagC c0 c1 c2)) := rfl
      have d7 : ∀ S', bin2 .fdiv (.v (.int f)) (.v (.int 7)) S' = some (.v (.int (f / 7))) := fun S' => by
        show (Ev.binI .fdiv f 7).map (fun k => T.v (.int k)) = _
        rw [fdivOk (by decide) (by decide)]
        rfl
      rw [ev_bin, ev_bi, evs_cons, evs_nil, evTs_cons, ev_bin, ev6, bind_ok, ev_c, bind_ok, d7, opt_some, bind_ok, evTs_nil, bind_ok, bind_ok]
      show opt ((Ev.binI .mod (f / 7) (M : Nat)).map fun k => T.v (.int k)) _ = _
      rw [modOk hM0]
      rfl
    have hv1 := Int.emod_nonneg (f / 7) (show ((M : Nat) : Int) ≠ 0 by omega)
    have hv2 := Int.emod_lt_of_pos (f / 7) hM0
    refine ⟨(f / 7 % (M : Nat)).toNat, c0, c1, c2, by omega, hc0, start _ ?_⟩
    rw [svs_cons, sv_ite, hb, thenS_ok, decide_eq_false hp, if_neg Bool.false_ne_true, svs_nil, seqS_nx, svs_cons, sv_asg, e5, bind_ok, mat_v, thenS_ok]
    show fin0 (seqS (SR.ok .nx [some (.ref 2), some (.int (M : Nat)), x2, x3, none, some (.int a), none] (S.set 2 (bagC c0 c1 c2))) _) = _
    rw [seqS_nx, svs_cons, sv_asg, e6, bind_ok, mat_v, thenS_ok]
    show fin0 (seqS (SR.ok .nx [some (.ref 2), some (.int (M : Nat)), x2, x3, none, some (.int a), some (.int f)] (S.set 2 (bagC c0 c1 c2))) _) = _
    rw [seqS_nx, svs_cons, sv_ret, e7]
    show R.ok (T.v (.int (f / 7 % (M : Nat)))) _ = R.ok (T.v (.int ((f / 7 % (M : Nat)).toNat : Nat))) _
    rw [Int.toNat_of_nonneg hv1]
end K64
-- L18
set_option Elab.async false
set_option linter.all false
set_option maxRecDepth 100000
set_option maxHeartbeats 400000
/-! L18: _law_bag; rows of takes. -/
namespace K64
open PySem Ev
theorem t_bag (n : Nat) (ns : List Int) (hn : ns.length ≤ 63) : ∃ cs : List Int, (∀ c ∈ cs, 0 ≤ c) ∧ cs.length ≤ 1000 ∧
    callN F (n + 1) 16 [.ref 0] [.ro (ns.map D.int)] = .ok (.l [.int 0, .int 1234567891, .int 0, .ref 1]) [.ro (ns.map D.int), .lst false (cs.map D.int)] := by
  obtain ⟨r, hr1, hr2⟩ : ∃ r : List Int, cutD (ns.map D.int) none (some 63) = r.map D.int ∧ r.length ≤ 63 := by
    refine ⟨_, by unfold cutD; rw [← List.map_drop, ← List.map_take], ?_⟩
    rw [List.length_take, List.length_drop]
    omega
  refine ⟨r.map fun i => if i < 0 then -i else i, fun c hc => ?_, by rw [List.length_map]; omega, ?_⟩
  · obtain ⟨i, _, rfl⟩ := List.mem_map.mp hc
    split <;> omega
  · rw [callN_at (fd := f__law_bag) rfl rfl]
    have es : slice (.v (.ref 0)) none (some 63) [Cell.ro (ns.map D.int)] = some (.l (r.map D.int)) := by
      show some (T.l (cutD (ns.map D.int) none (some 63))) = _
      rw [hr1]
    have it : (ev (callN F n) (Ex.sl false true (Ex.v 0) (Ex.c D.non) (Ex.c (D.int 63)))).I [some (.ref 0), none] [Cell.ro (ns.map D.int)] = .ok (r.map D.int, none) [Cell.ro (ns.map D.int)] := by
      show (((ev (callN F n) (Ex.sl false true (Ex.v 0) (Ex.c D.non) (Ex.c (D.int 63)))).E [some (.ref 0), none] [Cell.ro (ns.map D.int)]).bind fun t S1 => opt (itQ t S1) S1) = _
      have e : (ev (callN F n) (Ex.sl false true (Ex.v 0) (Ex.c D.non) (Ex.c (D.int 63)))).E [some (.ref 0), none] [Cell.ro (ns.map D.int)] = .ok (.l (r.map D.int)) [Cell.ro (ns.map D.int)] := by
        rw [ev_sl]
        show opt (slice (.v (.ref 0)) none (some 63) [Cell.ro (ns.map D.int)]) [Cell.ro (ns.map D.int)] = _
        rw [es]
        rfl
      rw [e, bind_ok]
      rfl
    have c : (ev (callN F n) (Ex.lc [1] (Ex.bi Bi.abs [Ex.v 1]) (Tg.v 1) (Ex.sl false true (Ex.v 0) (Ex.c D.non) (Ex.c (D.int 63))) [])).E [some (.ref 0), none] [Cell.ro (ns.map D.int)] = .ok (.l ((r.map fun i => if i < 0 then -i else i).map D.int)) [Cell.ro (ns.map D.int)] := by
      rw [ev_lc, evL_ok (g := fun x => some (match x with | .int i => .int (if i < 0 then -i else i) | x => x)) it (by rw [List.length_map]; exact Nat.le_trans hr2 (by decide)) (fun x hx => ?_) rfl]
      · rw [fm_some, List.map_map, List.map_map]
        rfl
      · obtain ⟨i, _, rfl⟩ := List.mem_map.mp hx
        rfl
    have l : (ev (callN F n) (Ex.lst [Ex.c (D.int 0), Ex.c (D.int 1234567891), Ex.c (D.int 0), Ex.lc [1] (Ex.bi Bi.abs [Ex.v 1]) (Tg.v 1) (Ex.sl false true (Ex.v 0) (Ex.c D.non) (Ex.c (D.int 63))) []])).E [some (.ref 0), none] [Cell.ro (ns.map D.int)] =
        .ok (.l [.int 0, .int 1234567891, .int 0, .ref 1]) [.ro (ns.map D.int), .lst false ((r.map fun i => if i < 0 then -i else i).map D.int)] := by
      rw [ev_lst, evs_cons, evs_cons, evs_cons, evs_cons, evs_nil, evM_cons', ev_c, bind_ok, mat_v, bind_ok, evM_cons', ev_c, bind_ok, mat_v, bind_ok, evM_cons', ev_c, bind_ok, mat_v, bind_ok, evM_cons', c]
      rfl
    show fin0 (svs n (callN F n) f__law_bag.body [some (.ref 0), none] [Cell.ro (ns.map D.int)]) = _
    unfold f__law_bag
    rw [svs_cons, sv_ret, l]
    rfl
end K64
-- L19
set_option Elab.async false
set_option linter.all false
set_option maxRecDepth 100000
set_option maxHeartbeats 400000
/-! L19: equal rows; the order of what is negated. -/
namespace K64
open PySem Ev
theorem eqv_m : ∀ a b : Mon, PyData.eqvAll (D.pys (a.map nD)) (D.pys (b.map nD)) = decide (a = b)
  | [], [] => by simp [D.pys, PyData.eqvAll]
  | [], _ :: _ => by simp [D.pys, PyData.eqvAll]
  | _ :: _, [] => by simp [D.pys, PyData.eqvAll]
  | a :: as, b :: bs => by
    show PyData.eqvAll (.int (a : Nat) :: D.pys (as.map nD)) (.int (b : Nat) :: D.pys (bs.map nD)) = _
    rw [PyData.eqvAll, eqv_m as bs, PyData.eqv]
    by_cases h1 : a = b
    · by_cases h2 : as = bs
      · simp [h1, h2]
      · simp [h1, h2]
    · have : ¬ (a : Int) = b := by omega
      simp [h1, this]
theorem eqv_t (s t : Trm) : PyData.eqv (tD s).py (tD t).py = decide (s = t) := by
  show PyData.eqv (.tuple [.tuple (D.pys (s.1.map nD)), .int s.2]) (.tuple [.tuple (D.pys (t.1.map nD)), .int t.2]) = _
  rw [PyData.eqv, PyData.eqvAll, PyData.eqv, eqv_m, PyData.eqvAll, PyData.eqv, PyData.eqvAll]
  by_cases h1 : s.1 = t.1
  · by_cases h2 : s.2 = t.2
    · have : s = t := Prod.ext h1 h2
      simp [this]
    · have : ¬ s = t := fun e => h2 (by rw [e])
      simp [h2, this]
  · have : ¬ s = t := fun e => h1 (by rw [e])
    simp [h1, this]
theorem eqv_p : ∀ p q : List Trm, PyData.eqvAll (D.pys (p.map tD)) (D.pys (q.map tD)) = decide (p = q)
  | [], [] => by simp [D.pys, PyData.eqvAll]
  | [], _ :: _ => by simp [D.pys, PyData.eqvAll]
  | _ :: _, [] => by simp [D.pys, PyData.eqvAll]
  | s :: p, t :: q => by
    show PyData.eqvAll ((tD s).py :: D.pys (p.map tD)) ((tD t).py :: D.pys (q.map tD)) = _
    rw [PyData.eqvAll, eqv_p p q, eqv_t]
    by_cases h1 : s = t
    · by_cases h2 : p = q
      · simp [h1, h2]
      · simp [h1, h2]
    · simp [h1]
theorem eq_pD (p q : List Trm) (S : Store) : cmp2 .eq (.v (pD p)) (.v (pD q)) S = some (decide (p = q)) := by
  show eqT _ _ S = _
  unfold eqT
  have e1 : ∀ p : List Trm, toPy (.v (pD p)) S = some (pD p).py := fun p => by
    show (if (pD p).pure then some (pD p).py else none) = _
    rw [if_pos (pD_pure p)]
  rw [e1, e1]
  show (if min (pD p).py.depth (pD q).py.depth ≤ 60 then some (PyData.eqv (pD p).py (pD q).py) else none) = _
  have d : (pD p).py.depth ≤ 60 := by
    rw [py_dep]
    have := deps_map (f := tD) tD_dep p
    show D.deps (p.map tD) + 1 ≤ 60
    omega
  rw [if_pos (Nat.le_trans (Nat.min_le_left _ _) d)]
  show some (PyData.eqv (.tuple (D.pys (p.map tD))) (.tuple (D.pys (q.map tD)))) = _
  rw [PyData.eqv, eqv_p]
theorem ne_pD (p q : List Trm) (S : Store) : cmp2 .ne (.v (pD p)) (.v (pD q)) S = some (!decide (p = q)) := by
  show (cmp2 .eq (.v (pD p)) (.v (pD q)) S).map (fun k => !k) = _
  rw [eq_pD]
  rfl
theorem lex_m : ∀ (a b : Mon) (x y : List (Int ⊕ List Nat)), a ≠ b → PyProof.Rows.lexLt PyProof.Rows.itemOrd (PySem.W.keyToksAll (D.pys (a.map nD)) ++ x) (PySem.W.keyToksAll (D.pys (b.map nD)) ++ y) = PyProof.Rows.lexLt PyProof.Rows.itemOrd (PySem.W.keyToksAll (D.pys (a.map nD))) (PySem.W.keyToksAll (D.pys (b.map nD)))
  | [], [], _, _, h => absurd rfl h
  | [], b :: bs, x, y, _ => by simp [D.pys, PySem.W.keyToksAll, PyProof.Rows.lexLt, PyProof.Rows.itemLt]
  | a :: as, [], x, y, _ => by simp [D.pys, PySem.W.keyToksAll, PyProof.Rows.lexLt, PyProof.Rows.itemLt]
  | a :: as, b :: bs, x, y, h => by
    by_cases e : a = b
    · have ih := lex_m as bs x y (fun z => h (by rw [e, z]))
      simp [D.pys, PySem.W.keyToksAll, PySem.W.keyToks, nD, D.py, PyProof.Rows.lexLt, PyProof.Rows.itemLt, e]
      exact ih
    · simp [D.pys, PySem.W.keyToksAll, PySem.W.keyToks, nD, D.py, PyProof.Rows.lexLt, PyProof.Rows.itemLt]
      rcases Nat.lt_or_gt_of_ne e with z | z
      · simp [z]
      · have : ¬ a < b := by omega
        simp [z, this]
end K64
-- L20
set_option Elab.async false
set_option linter.all false
set_option maxRecDepth 100000
set_option maxHeartbeats 400000
/-! L20: what is negated is canonical; what is sorted stays. -/
namespace K64
open PySem Ev
theorem leM_toks (a b : Trm) : leM a b = !PyProof.Rows.lexLt PyProof.Rows.itemOrd (.inl 1 :: (PySem.W.keyToksAll (D.pys (b.1.map nD)) ++ [.inl 1, .inl b.2, .inl 0])) (.inl 1 :: (PySem.W.keyToksAll (D.pys (a.1.map nD)) ++ [.inl 1, .inl a.2, .inl 0])) := by
  show (!PyProof.Rows.lexLt PyProof.Rows.itemOrd (PySem.W.keyToks (tD b).py) (PySem.W.keyToks (tD a).py)) = _
  have e : ∀ t : Trm, PySem.W.keyToks (tD t).py = .inl 1 :: (PySem.W.keyToksAll (D.pys (t.1.map nD)) ++ [.inl 1, .inl t.2, .inl 0]) := fun t => by
    simp [tD, mD, D.py, D.pys, PySem.W.keyToks, PySem.W.keyToksAll]
  rw [e, e]
theorem leM_key {a b : Trm} (h : a.1 ≠ b.1) (x y : Int) : leM (a.1, x) (b.1, y) = leM a b := by
  rw [leM_toks, leM_toks, PyProof.Rows.lex_cons, PyProof.Rows.lex_cons, lex_m _ _ _ _ (Ne.symm h), lex_m _ _ _ _ (Ne.symm h)]
theorem neg_keys (p : List Trm) : (negM p).map (·.1) = p.map (·.1) := by
  unfold negM
  rw [List.map_map]
  rfl
theorem srt_neg : ∀ p : List Trm, Nd p → Srt p → Srt (negM p)
  | [], _, _ => List.Pairwise.nil
  | t :: p, nd, s => by
    have nd' := List.nodup_cons.mp (show (t.1 :: p.map (·.1)).Nodup from nd)
    have s' := List.pairwise_cons.mp s
    refine List.pairwise_cons.mpr ⟨fun b hb => ?_, srt_neg p nd'.2 s'.2⟩
    obtain ⟨q, hq, rfl⟩ := List.mem_map.mp hb
    rw [leM_key (fun e => nd'.1 (List.mem_map.mpr ⟨q, hq, e.symm⟩))]
    exact s'.1 q hq
theorem can_neg {p : List Trm} (h : Can p) : Can (negM p) where
  nd := by
    unfold Nd
    rw [neg_keys]
    exact h.nd
  s := srt_neg p h.nd h.s
  nz := fun t ht => by
    obtain ⟨q, hq, rfl⟩ := List.mem_map.mp ht
    have := h.nz q hq
    show -q.2 ≠ 0
    omega
theorem neg_Pl {P c N d : Nat} {p : List Trm} (h : Pl P c N d p) : Pl P c N d (negM p) where
  can := can_neg h.can
  len := neg_mem (Q := fun m => m.length = P) h.len
  ct := by
    unfold negM
    rw [List.length_map]
    exact h.ct
  nm := by
    rw [nrm_neg]
    exact h.nm
  dg := neg_mem (Q := fun m => m.sum ≤ d) h.dg
theorem srt_id : ∀ p : List Trm, Srt p → srt p = p
  | [], _ => rfl
  | t :: p, s => by
    have s' := List.pairwise_cons.mp s
    show insM t (srt p) = t :: p
    rw [srt_id p s'.2]
    cases p with
    | nil => rfl
    | cons q p =>
      show (if leM t q then t :: q :: p else q :: insM t p) = _
      rw [if_pos (s'.1 q List.mem_cons_self)]
/-! ### the laws of sums, as rows -/
theorem minus_self {p : List Trm} (h : Can p) : minusM p p = [] := by
  refine can_eq _ _ (can_tidy (addAll_nd _ p h.nd)) ⟨List.nodup_nil, List.Pairwise.nil, fun t ht => by cases ht⟩ fun φ => ?_
  rw [L_minus φ h.nd]
  show L φ p - L φ p = 0
  omega
theorem plus_zero {p : List Trm} (h : Can p) (P : Nat) : plusM p (numM 0 P) = p := by
  refine can_eq _ _ (can_tidy (addAll_nd _ p h.nd)) h fun φ => ?_
  rw [L_plus φ h.nd, L_num]
  omega
theorem times_one {P c N d : Nat} {p : List Trm} (h : Pl P c N d p) : timesM p (numM 1 P) = p := by
  refine can_eq _ _ (can_tidy (addAll_nd _ [] List.nodup_nil)) h.can fun φ => ?_
  rw [L_times]
  refine L_congr p fun t ht => ?_
  show L (fun m' => φ (zipAdd t.1 m')) (numM 1 P) = φ t.1
  rw [L_num, ← h.len t ht, zipAdd_zs]
  omega
theorem neg_neg : ∀ p : List Trm, negM (negM p) = p
  | [] => rfl
  | t :: p => by
    show (t.1, - -t.2) :: negM (negM p) = t :: p
    rw [neg_neg p, Int.neg_neg]
end K64
-- L21
set_option Elab.async false
set_option linter.all false
set_option maxRecDepth 100000
set_option maxHeartbeats 400000
/-! L21: the greatest term of falling. -/
namespace K64
open PySem Ev
def leq : Mon → Mon → Prop
  | [], [] => True
  | a :: m, b :: c => a ≤ b ∧ leq m c
  | _, _ => False
theorem leq_refl : ∀ m : Mon, leq m m
  | [] => True.intro
  | a :: m => ⟨Nat.le_refl a, leq_refl m⟩
theorem leq_add : ∀ {m c e : Mon}, m.length = e.length → leq m c → leq m (zipAdd c e)
  | [], [], [], _, _ => True.intro
  | a :: m, b :: c, x :: e, h, q => ⟨Nat.le_trans q.1 (Nat.le_add_right _ _), leq_add (by simpa using h) q.2⟩
  | [], [], _ :: _, h, _ => by simp at h
  | _ :: _, _ :: _, [], h, _ => by simp at h
  | [], _ :: _, _, _, q => q.elim
  | _ :: _, [], _, _, q => q.elim
theorem leq_both : ∀ {m c e : Mon}, m.length = e.length → leq m c → leq (zipAdd m e) (zipAdd c e)
  | [], [], [], _, _ => True.intro
  | a :: m, b :: c, x :: e, h, q => ⟨Nat.add_le_add_right q.1 x, leq_both (by simpa using h) q.2⟩
  | [], [], _ :: _, h, _ => by simp at h
  | _ :: _, _ :: _, [], h, _ => by simp at h
  | [], _ :: _, _, _, q => q.elim
  | _ :: _, [], _, _, q => q.elim
theorem leq_sum : ∀ {m c : Mon}, leq m c → m.sum ≤ c.sum
  | [], [], _ => Nat.le_refl _
  | a :: m, b :: c, q => by
    rw [List.sum_cons, List.sum_cons]
    exact Nat.add_le_add q.1 (leq_sum q.2)
  | [], _ :: _, q => q.elim
  | _ :: _, [], q => q.elim
theorem leq_eq : ∀ {m c : Mon}, leq m c → m.sum = c.sum → m = c
  | [], [], _, _ => rfl
  | a :: m, b :: c, q, h => by
    rw [List.sum_cons, List.sum_cons] at h
    have h1 := leq_sum q.2
    have h2 := q.1
    rw [leq_eq q.2 (by omega), show a = b by omega]
  | [], _ :: _, q, _ => q.elim
  | _ :: _, [], q, _ => q.elim
theorem zipAdd_inj : ∀ {m c e : Mon}, m.length = e.length → c.length = e.length → (zipAdd m e = zipAdd c e ↔ m = c)
  | [], [], [], _, _ => Iff.rfl
  | a :: m, b :: c, x :: e, h, q => by
    have ih := zipAdd_inj (m := m) (c := c) (e := e) (by simpa using h) (by simpa using q)
    show ((a + x) :: zipAdd m e = (b + x) :: zipAdd c e) ↔ _
    rw [List.cons.injEq, List.cons.injEq, ih, Nat.add_right_cancel_iff]
  | [], _ :: _, [], _, h => by simp at h
  | _ :: _, _, [], h, _ => by simp at h
  | [], _, _ :: _, h, _ => by simp at h
  | _ :: _, [], _ :: _, _, h => by simp at h
/-- cur is the greatest monomial of p, its factor is r -/
structure Top (cur : Mon) (r : Int) (p : List Trm) : Prop where
  z : ∀ φ : Mon → Int, (∀ m, leq m cur → φ m = 0) → L φ p = 0
  o : L (ind cur) p = r
theorem top_step {i k P c N d : Nat} {cur : Mon} {r : Int} {p : List Trm} (h : i < P) (hc : Pl P c N d p) (hl : cur.length = P) (T : Top cur r p) : Top (zipAdd cur (eM i P)) r (stepF i k P p) where
  z := fun φ hz => by
    have hz2 : L φ p = 0 := T.z φ fun m hm => by
      by_cases e : m.length = P
      · exact hz m (leq_add (by rw [e, eM_len h]) hm)
      · exfalso
        have : ∀ {m c : Mon}, leq m c → m.length = c.length := by
          intro m
          induction m with
          | nil => intro c q; cases c with
            | nil => rfl
            | cons => exact q.elim
          | cons a m ih => intro c q; cases c with
            | nil => exact q.elim
            | cons b c => rw [List.length_cons, List.length_cons, ih q.2]
        exact e ((this hm).trans hl)
    have hz1 : L (fun m => if m.length = P then φ (zipAdd m (eM i P)) else 0) p = 0 := T.z _ fun m hm => by
      split
      · rename_i e
        exact hz _ (leq_both (by rw [e, eM_len h]) hm)
      · rfl
    rw [L_step φ h hc, hz2, L_congr (ψ := fun m => if m.length = P then φ (zipAdd m (eM i P)) else 0) p (fun t ht => by rw [if_pos (hc.len t ht)]), hz1]
    omega
  o := by
    have h2 : L (ind (zipAdd cur (eM i P))) p = 0 := T.z _ fun m hm => if_neg fun e => by
      have h3 := leq_sum hm
      rw [e, zipAdd_sum (by rw [hl, eM_len h]), eM_sum] at h3
      omega
    rw [L_step _ h hc, h2, L_congr (ψ := ind cur) p (fun t ht => ?_), T.o]
    · omega
    · unfold ind
      have := zipAdd_inj (m := t.1) (c := cur) (e := eM i P) (by rw [hc.len t ht, eM_len h]) (by rw [hl, eM_len h])
      by_cases e : t.1 = cur
      · rw [if_pos (this.mpr e), if_pos e]
      · rw [if_neg (fun z => e (this.mp z)), if_neg e]
theorem top_num (P : Nat) (r : Int) : Top (zs P) r (numM r P) where
  z := fun φ hz => by
    rw [L_num, hz _ (leq_refl _)]
    omega
  o := by
    rw [L_num]
    unfold ind
    rw [if_pos rfl]
    omega
end K64
-- L22
set_option Elab.async false
set_option linter.all false
set_option maxRecDepth 100000
set_option maxHeartbeats 400000
/-! L22: the greatest term of falling, of weight. -/
namespace K64
open PySem Ev
theorem zip_e (pre : Mon) (a r : Nat) : zipAdd (pre ++ a :: zs r) (eM pre.length (pre.length + 1 + r)) = pre ++ (a + 1) :: zs r := by
  unfold eM
  have e : pre.length + 1 + r - pre.length - 1 = r := by omega
  rw [e]
  unfold zipAdd
  rw [List.zipWith_append (by rw [zs_len]), List.zipWith_cons_cons]
  have h1 : List.zipWith (· + ·) pre (zs pre.length) = pre := zipAdd_zs pre
  have h2 : List.zipWith (· + ·) (zs r) (zs r) = zs r := by
    have z := zipAdd_zs (zs r)
    rw [zs_len] at z
    exact z
  rw [h1, h2]
theorem falIn_top {P : Nat} {R : Int} (pre : Mon) (r : Nat) (hP : P = pre.length + 1 + r) : ∀ (k lo s a : Nat) (p : List Trm), lo + k ≤ 2 → Pl P (2 ^ s) (2 ^ s) s p → Top (pre ++ a :: zs r) R p → Top (pre ++ (a + k) :: zs r) R (falIn pre.length P lo k p)
  | 0, _, _, _, _, _, _, T => T
  | k + 1, lo, s, a, p, hk, hc, T => by
    have hi : pre.length < P := by omega
    have h1 := step_Pl (k := lo) hi (by omega) hc
    rw [← Nat.pow_succ] at h1
    have t1 := top_step (k := lo) hi hc (by rw [List.length_append, List.length_cons, zs_len]; omega) T
    rw [show eM pre.length P = eM pre.length (pre.length + 1 + r) by rw [hP], zip_e] at t1
    have ih := falIn_top pre r hP k (lo + 1) (s + 1) (a + 1) _ (by omega) h1 t1
    rw [show a + (k + 1) = a + 1 + k by omega]
    exact ih
theorem falOut_top {P : Nat} {R : Int} : ∀ (ms pre : Mon) (s : Nat) (p : List Trm), P = pre.length + ms.length → (∀ m ∈ ms, m ≤ 2) → Pl P (2 ^ s) (2 ^ s) s p → Top (pre ++ zs ms.length) R p → Top (pre ++ ms) R (falOut P pre.length ms p)
  | [], pre, s, p, _, _, _, T => T
  | m :: ms, pre, s, p, hP, hm, hc, T => by
    rw [List.length_cons] at hP
    have hi : pre.length < P := by omega
    have T0 : Top (pre ++ 0 :: zs ms.length) R p := T
    have hm2 := hm m List.mem_cons_self
    have t1 := falIn_top pre ms.length (by omega) m 0 s 0 p (by omega) hc T0
    have p1 := falIn_Pl hi m 0 s p (by omega) hc
    rw [Nat.zero_add] at t1
    have t2 : Top ((pre ++ [m]) ++ zs ms.length) R (falIn pre.length P 0 m p) := by
      rw [List.append_assoc]
      exact t1
    have ih := falOut_top ms (pre ++ [m]) (s + m) _ (by rw [List.length_append]; show P = pre.length + 1 + ms.length; omega) (fun a ha => hm a (List.mem_cons_of_mem _ ha)) p1 t2
    rw [List.append_assoc, List.length_append] at ih
    exact ih
theorem fall_top (tk : Mon) (hm : ∀ m ∈ tk, m ≤ 2) : Top tk 1 (fallM tk) := by
  have p0 : Pl tk.length (2 ^ 0) (2 ^ 0) 0 (numM 1 tk.length) := num_Pl 1 tk.length
  exact falOut_top (P := tk.length) tk [] 0 (numM 1 tk.length) (by simp) hm p0 (top_num tk.length 1)
end K64
-- L23
set_option Elab.async false
set_option linter.all false
set_option maxRecDepth 100000
set_option maxHeartbeats 400000
/-! L23: the terms of weight. -/
namespace K64
open PySem Ev
theorem zs_zipAdd : ∀ m : Mon, zipAdd (zs m.length) m = m
  | [] => rfl
  | a :: m => by
    show (0 + a) :: zipAdd (zs m.length) m = a :: m
    rw [zs_zipAdd m, Nat.zero_add]
theorem L_wgt (φ : Mon → Int) {tk : Mon} {r : Int} (hm : ∀ m ∈ tk, m ≤ 2) (hs : tk.sum ≤ 8) (hP : tk.length ≤ 900) : L φ (wgtM tk r) = r * L φ (fallM tk) := by
  unfold wgtM
  rw [L_times, L_num]
  congr 1
  refine L_congr _ fun t ht => ?_
  show φ (zipAdd (zs tk.length) t.1) = φ t.1
  rw [← (fall_Pl tk hm hs hP).len t ht, zs_zipAdd]
theorem wgt_comm {tk : Mon} {r : Int} (hm : ∀ m ∈ tk, m ≤ 2) (hs : tk.sum ≤ 8) (hP : tk.length ≤ 900) : timesM (fallM tk) (numM r tk.length) = wgtM tk r := by
  refine can_eq _ _ (can_tidy (addAll_nd _ [] List.nodup_nil)) (wgt_Pl hm hs hP).can fun φ => ?_
  rw [L_wgt φ hm hs hP, L_times]
  have e : ∀ p : List Trm, (∀ t ∈ p, t.1.length = tk.length) → L (fun m => L (fun m' => φ (zipAdd m m')) (numM r tk.length)) p = r * L φ p := by
    intro p
    induction p with
    | nil => intro _; show (0 : Int) = r * 0; omega
    | cons t p ih =>
      intro h
      show t.2 * L (fun m' => φ (zipAdd t.1 m')) (numM r tk.length) + L _ p = r * (t.2 * φ t.1 + L φ p)
      rw [ih fun s hs => h s (List.mem_cons_of_mem _ hs), L_num, ← h t List.mem_cons_self, zipAdd_zs, Int.mul_add, Int.mul_left_comm]
  exact e _ (fall_Pl tk hm hs hP).len
theorem wgt_top {tk : Mon} {r : Int} (hm : ∀ m ∈ tk, m ≤ 2) (hs : tk.sum ≤ 8) (hP : tk.length ≤ 900) : Top tk r (wgtM tk r) where
  z := fun φ hz => by
    rw [L_wgt φ hm hs hP, (fall_top tk hm).z φ hz]
    omega
  o := by
    rw [L_wgt _ hm hs hP, (fall_top tk hm).o]
    omega
theorem top_leq {cur : Mon} {r : Int} {p : List Trm} (hp : Can p) (T : Top cur r p) {t : Trm} (ht : t ∈ p) : leq t.1 cur := by
  by_cases h : leq t.1 cur
  · exact h
  · exfalso
    have e1 : L (ind t.1) p = t.2 := L_ind p hp.nd ht
    have e2 : L (ind t.1) p = 0 := T.z _ fun m hm => if_neg fun e => h (by rw [← e]; exact hm)
    exact hp.nz t ht (by rw [← e1, e2])
theorem top_mem {cur : Mon} {r : Int} {p : List Trm} (hp : Can p) (T : Top cur r p) (hr : r ≠ 0) : (cur, r) ∈ p := by
  by_cases hm : ∃ s ∈ p, s.1 = cur
  · obtain ⟨s, hs, e⟩ := hm
    have e1 : L (ind s.1) p = s.2 := L_ind p hp.nd hs
    rw [e, T.o] at e1
    have : s = (cur, r) := Prod.ext e e1.symm
    rw [← this]
    exact hs
  · exfalso
    have e2 := T.o
    rw [L_none p fun s hs => if_neg fun e => hm ⟨s, hs, e⟩] at e2
    exact hr e2.symm
end K64
-- L24
set_option Elab.async false
set_option linter.all false
set_option maxRecDepth 100000
set_option maxHeartbeats 400000
/-! L24: worth of products, of falling. -/
namespace K64
open PySem Ev
theorem pow_add' (c : Int) (a : Nat) : ∀ b : Nat, c ^ (a + b) = c ^ a * c ^ b
  | 0 => by rw [Nat.add_zero, Int.pow_zero, Int.mul_one]
  | b + 1 => by
    rw [← Nat.add_assoc, Int.pow_succ, pow_add' c a b, Int.pow_succ, Int.mul_assoc]
theorem vM_add : ∀ {m e cs : Mon}, m.length = e.length → m.length = cs.length → vM (zipAdd m e) cs = vM m cs * vM e cs
  | [], [], [], _, _ => by simp [zipAdd, vM]
  | a :: m, x :: e, c :: cs, h, q => by
    have ih := vM_add (m := m) (e := e) (cs := cs) (by simpa using h) (by simpa using q)
    show (c : Int) ^ (a + x) * vM (zipAdd m e) cs = (c : Int) ^ a * vM m cs * ((c : Int) ^ x * vM e cs)
    rw [ih, pow_add', Int.mul_assoc, Int.mul_assoc, Int.mul_left_comm ((c : Int) ^ x)]
  | [], _ :: _, _, h, _ => by simp at h
  | _ :: _, [], _, h, _ => by simp at h
  | [], [], _ :: _, _, q => by simp at q
  | _ :: _, _ :: _, [], _, q => by simp at q
theorem L_mulc (φ : Mon → Int) (k : Int) : ∀ p : List Trm, L (fun m => φ m * k) p = L φ p * k
  | [] => by show (0 : Int) = 0 * k; omega
  | t :: p => by
    show t.2 * (φ t.1 * k) + L _ p = (t.2 * φ t.1 + L φ p) * k
    rw [L_mulc φ k p, Int.add_mul, Int.mul_assoc]
theorem worth_times {P c c' N N' d d' : Nat} {p q : List Trm} {cs : Mon} (hp : Pl P c N d p) (hq : Pl P c' N' d' q) (hc : cs.length = P) : L (fun m => vM m cs) (timesM p q) = L (fun m => vM m cs) p * L (fun m => vM m cs) q := by
  rw [L_times, ← L_mulc]
  refine L_congr p fun t ht => ?_
  have e : L (fun m' => vM (zipAdd t.1 m') cs) q = L (fun m' => vM m' cs * vM t.1 cs) q := L_congr q fun s hs => by
    rw [vM_add ((hp.len t ht).trans (hq.len s hs).symm) ((hp.len t ht).trans hc.symm), Int.mul_comm]
  rw [e, L_mulc, Int.mul_comm]
end K64
-- L25
set_option Elab.async false
set_option linter.all false
set_option maxRecDepth 100000
set_option maxHeartbeats 400000
/-! L25: shift_of. -/
namespace K64
open PySem Ev
theorem eq_mD (a b : Mon) (S : Store) : cmp2 .eq (.v (mD a)) (.v (mD b)) S = some (decide (a = b)) := by
  show eqT _ _ S = _
  unfold eqT
  have e1 : ∀ p : Mon, toPy (.v (mD p)) S = some (mD p).py := fun p => by
    show (if (mD p).pure then some (mD p).py else none) = _
    rw [if_pos (mD_pure p)]
  rw [e1, e1]
  show (if min (mD a).py.depth (mD b).py.depth ≤ 60 then some (PyData.eqv (mD a).py (mD b).py) else none) = _
  have d : (mD a).py.depth ≤ 60 := by
    rw [py_dep]
    have := mD_dep a
    omega
  rw [if_pos (Nat.le_trans (Nat.min_le_left _ _) d)]
  show some (PyData.eqv (.tuple (D.pys (a.map nD))) (.tuple (D.pys (b.map nD)))) = _
  rw [PyData.eqv, eqv_m]
def shD (P : Nat) : List Trm → D
  | [] => .int 0
  | [t] => if t.1 = zs P then .int t.2 else .non
  | _ => .non
abbrev shEx : Ex := ((Ex.and [Ex.cmp Cm.eq (Ex.bi Bi.len [Ex.v 3]) (Ex.c (D.int 1)), Ex.cmp Cm.eq (((Ex.v 3).ix (Ex.c (D.int 0))).ix (Ex.c (D.int 0))) (Ex.bin Op2.mul (Ex.tup [Ex.c (D.int 0)]) (Ex.v 2))]).ife (((Ex.v 3).ix (Ex.c (D.int 0))).ix (Ex.c (D.int 1))) (Ex.c D.non))
theorem sh_ev {C : Calls} (A B : Option D) (P : Nat) (hP : P ≤ 900) (t : Trm) (r : List Trm) (S : Store) : (ev C shEx).E [A, B, some (.int (P : Nat)), some (pD (t :: r))] S = .ok (.v (shD P (t :: r))) S := by
  have g1 : (ev C ((Ex.v 3).ix (Ex.c (D.int 0)))).E [A, B, some (.int (P : Nat)), some (pD (t :: r))] S = .ok (.v (tD t)) S := by
    show opt ((ixAt (tD t :: r.map tD) 0).map T.v) S = _
    rw [show ixAt (tD t :: r.map tD) 0 = some (tD t) from atI0 _ _]
    rfl
  have g2 : (ev C (((Ex.v 3).ix (Ex.c (D.int 0))).ix (Ex.c (D.int 0)))).E [A, B, some (.int (P : Nat)), some (pD (t :: r))] S = .ok (.v (mD t.1)) S := by
    rw [ev_ix, g1, bind_ok, ev_c, bind_ok]
    show opt ((ixAt [mD t.1, .int t.2] 0).map T.v) S = _
    rw [show ixAt [mD t.1, D.int t.2] 0 = some (mD t.1) from atI0 _ _]
    rfl
  have g3 : (ev C (((Ex.v 3).ix (Ex.c (D.int 0))).ix (Ex.c (D.int 1)))).E [A, B, some (.int (P : Nat)), some (pD (t :: r))] S = .ok (.v (.int t.2)) S := by
    rw [ev_ix, g1, bind_ok, ev_c, bind_ok]
    show opt ((ixAt [mD t.1, .int t.2] 1).map T.v) S = _
    rw [show ixAt [mD t.1, D.int t.2] 1 = some (.int t.2) from atI1 _ _ _]
    rfl
  have mz : bin2 .mul (.v (.tup [.int 0])) (.v (.int (P : Nat))) S = some (.v (mD (zs P))) := by
    show (if -(2 ^ 63) ≤ ((P : Nat) : Int) ∧ ((P : Nat) : Int) ≤ 1000 ∧ 1 ≤ 1000 then some (T.v (.tup (List.replicate ((P : Nat) : Int).toNat [D.int 0]).flatten)) else none) = _
    rw [if_pos ⟨by omega, by omega, by decide⟩, Int.toNat_natCast, zs_D]
    rfl
  have g4 : (ev C (Ex.bin Op2.mul (Ex.tup [Ex.c (D.int 0)]) (Ex.v 2))).E [A, B, some (.int (P : Nat)), some (pD (t :: r))] S = .ok (.v (mD (zs P))) S := by
    show opt (bin2 .mul (.v (.tup [.int 0])) (.v (.int (P : Nat))) S) S = _
    rw [mz]
    rfl
  have b1 : (ev C (Ex.cmp Cm.eq (Ex.bi Bi.len [Ex.v 3]) (Ex.c (D.int 1)))).B [A, B, some (.int (P : Nat)), some (pD (t :: r))] S = .ok (decide (((((t :: r).map tD).length : Nat) : Int) = 1)) S := by
    show opt (cmp2 .eq (.v (.int (((t :: r).map tD).length : Nat))) (.v (.int 1)) S) S = _
    rw [eq_int]
    rfl
  have b2 : (ev C (Ex.cmp Cm.eq (((Ex.v 3).ix (Ex.c (D.int 0))).ix (Ex.c (D.int 0))) (Ex.bin Op2.mul (Ex.tup [Ex.c (D.int 0)]) (Ex.v 2)))).B [A, B, some (.int (P : Nat)), some (pD (t :: r))] S = .ok (decide (t.1 = zs P)) S := by
    rw [ev_cmpB, g2, bind_ok, g4, bind_ok, eq_mD]
    rfl
  rw [ev_ife, ev_andB, evs_cons, evs_cons, evs_nil, evC_cons, b1, bind_ok]
  cases r with
  | nil =>
    rw [show decide ((((([t] : List Trm).map tD).length : Nat) : Int) = 1) = true from rfl, if_pos rfl, evC_cons, b2, bind_ok, evC_nil]
    by_cases e : t.1 = zs P
    · rw [decide_eq_true e, if_pos rfl, bind_ok, if_pos rfl, g3]
      show _ = R.ok (T.v (if t.1 = zs P then .int t.2 else .non)) S
      rw [if_pos e]
    · rw [decide_eq_false e, if_neg Bool.false_ne_true, bind_ok, if_neg Bool.false_ne_true]
      show _ = R.ok (T.v (if t.1 = zs P then .int t.2 else .non)) S
      rw [if_neg e]
      rfl
  | cons s r =>
    rw [show decide (((((t :: s :: r).map tD).length : Nat) : Int) = 1) = false from decide_eq_false (by rw [List.length_map, List.length_cons, List.length_cons]; omega), if_neg Bool.false_ne_true, bind_ok, if_neg Bool.false_ne_true]
    rfl
end K64
-- L26
set_option Elab.async false
set_option linter.all false
set_option maxRecDepth 100000
set_option maxHeartbeats 400000
/-! L26: shift_of, the def. -/
namespace K64
open PySem Ev
theorem t_shift (n : Nat) {i P c N d : Nat} {p : List Trm} {S : Store} (w : WS S) (hp : Pl P c N d p) (h : i < P) (hP : P ≤ 900) (h1 : c + 1 ≤ 400) (h2 : N + 1 < 2 ^ 60) (h3 : d < 2 ^ 60) : callN F (n + 5) 14 [pD p, .int (i : Nat), .int (P : Nat)] S = .ok (.v (shD P (minusM p (eP i P)))) S := by
  rw [callN_at (fd := f_shift_of) rfl rfl]
  have c5 : (ev (callN F (n + 4)) (Ex.call 5 [Ex.v 1, Ex.v 2])).E [some (pD p), some (.int (i : Nat)), some (.int (P : Nat)), none] S = .ok (.v (pD (eP i P))) S := by
    show fin S.length (callN F (n + 4) 5 [.int (i : Nat), .int (P : Nat)] S) = _
    rw [t_count (n + 1) w h hP]
    exact fin_v0 w (pD_pure _)
  have c9 : (ev (callN F (n + 4)) (Ex.call 9 [Ex.v 0, Ex.call 5 [Ex.v 1, Ex.v 2]])).E [some (pD p), some (.int (i : Nat)), some (.int (P : Nat)), none] S = .ok (.v (pD (minusM p (eP i P)))) S := by
    rw [ev_call, evs_cons, evs_cons, evs_nil, evM_cons', ev_v]
    show fin S.length (((evM [ev (callN F (n + 4)) (Ex.call 5 [Ex.v 1, Ex.v 2])] [some (pD p), some (.int (i : Nat)), some (.int (P : Nat)), none] S).bind fun ds S3 => R.ok (pD p :: ds) S3).bind fun ds S1 => callN F (n + 4) 9 ds S1) = _
    rw [evM_cons', c5]
    show fin S.length (callN F (n + 4) 9 [pD p, pD (eP i P)] S) = _
    rw [g_minus hp (e_Pl h) h1 (by omega) (by omega) w]
    exact fin_v0 w (pD_pure _)
  show fin0 (svs (n + 4) (callN F (n + 4)) f_shift_of.body [some (pD p), some (.int (i : Nat)), some (.int (P : Nat)), none] S) = _
  unfold f_shift_of
  rw [svs_cons, sv_asg, c9, bind_ok, mat_v, thenS_ok]
  show fin0 (seqS (SR.ok .nx [some (pD p), some (.int (i : Nat)), some (.int (P : Nat)), some (pD (minusM p (eP i P)))] S) _) = _
  rw [seqS_nx, svs_cons, sv_ite]
  have hb : (ev (callN F (n + 4)) (Ex.cmp Cm.eq (Ex.v 3) (Ex.tup []))).B [some (pD p), some (.int (i : Nat)), some (.int (P : Nat)), some (pD (minusM p (eP i P)))] S = .ok (decide (minusM p (eP i P) = [])) S := by
    show opt (cmp2 .eq (.v (pD (minusM p (eP i P)))) (.v (pD [])) S) S = _
    rw [eq_pD]
    rfl
  rw [hb, thenS_ok]
  generalize minusM p (eP i P) = q
  cases q with
  | nil =>
    rw [decide_eq_true rfl, if_pos rfl]
    rfl
  | cons t r =>
    rw [decide_eq_false (by simp), if_neg Bool.false_ne_true, svs_nil, seqS_nx, svs_cons, sv_ret, sh_ev _ _ P hP]
    rfl
end K64
-- L27
set_option Elab.async false
set_option linter.all false
set_option maxRecDepth 100000
set_option maxHeartbeats 400000
/-! L27: worth of falling, one pot. -/
namespace K64
open PySem Ev
theorem vM_zs : ∀ (cs : Mon) (k : Nat), vM (zs k) cs = 1
  | [], 0 => rfl
  | [], _ + 1 => rfl
  | _ :: _, 0 => rfl
  | c :: cs, k + 1 => by
    show (c : Int) ^ 0 * vM (zs k) cs = 1
    rw [vM_zs cs k, Int.pow_zero, Int.mul_one]
theorem vM_e : ∀ (cpre : Mon) (c : Nat) (cpost : Mon) (r : Nat), vM (zs cpre.length ++ 1 :: zs r) (cpre ++ c :: cpost) = c
  | [], c, cpost, r => by
    show (c : Int) ^ 1 * vM (zs r) cpost = c
    rw [vM_zs, Int.mul_one, Int.pow_succ, Int.pow_zero, Int.one_mul]
  | a :: cpre, c, cpost, r => by
    show (a : Int) ^ 0 * vM (zs cpre.length ++ 1 :: zs r) (cpre ++ c :: cpost) = c
    rw [vM_e cpre c cpost r, Int.pow_zero, Int.one_mul]
def facF (c : Int) : Nat → Nat → Int
  | _, 0 => 1
  | lo, n + 1 => (c - lo) * facF c (lo + 1) n
theorem step_worth {P c N d : Nat} {cpre cpost : Mon} {x k : Nat} {p : List Trm} (hP : P = cpre.length + (cpost.length + 1)) (hc : Pl P c N d p) : L (fun m => vM m (cpre ++ x :: cpost)) (stepF cpre.length k P p) = L (fun m => vM m (cpre ++ x :: cpost)) p * ((x : Int) - k) := by
  have hi : cpre.length < P := by omega
  have hcs : (cpre ++ x :: cpost).length = P := by rw [List.length_append, List.length_cons]; omega
  rw [L_step _ hi hc]
  have e : L (fun m => vM (zipAdd m (eM cpre.length P)) (cpre ++ x :: cpost)) p = L (fun m => vM m (cpre ++ x :: cpost) * (x : Int)) p := L_congr p fun t ht => by
    rw [vM_add ((hc.len t ht).trans (eM_len hi).symm) ((hc.len t ht).trans hcs.symm)]
    unfold eM
    rw [vM_e]
  rw [e, L_mulc, Int.mul_sub, Int.mul_comm (k : Int)]
theorem falIn_worth {P : Nat} {cpre cpost : Mon} {x : Nat} (hP : P = cpre.length + (cpost.length + 1)) : ∀ (k lo s : Nat) (p : List Trm), lo + k ≤ 2 → Pl P (2 ^ s) (2 ^ s) s p → L (fun m => vM m (cpre ++ x :: cpost)) (falIn cpre.length P lo k p) = L (fun m => vM m (cpre ++ x :: cpost)) p * facF x lo k
  | 0, _, _, _, _, _ => by
    show _ = _ * (1 : Int)
    rw [Int.mul_one]
    rfl
  | k + 1, lo, s, p, hk, hc => by
    have hi : cpre.length < P := by omega
    have h1 := step_Pl (k := lo) hi (by omega) hc
    rw [← Nat.pow_succ] at h1
    show L _ (falIn cpre.length P (lo + 1) k (stepF cpre.length lo P p)) = _ * (((x : Int) - lo) * facF x (lo + 1) k)
    rw [falIn_worth hP k (lo + 1) (s + 1) _ (by omega) h1, step_worth hP hc, Int.mul_assoc]
end K64
-- L28
set_option Elab.async false
set_option linter.all false
set_option maxRecDepth 100000
set_option maxHeartbeats 400000
/-! L28: worth of falling, of weight. -/
namespace K64
open PySem Ev
def fW : Mon → Mon → Int
  | m :: ms, c :: cs => facF c 0 m * fW ms cs
  | _, _ => 1
theorem falOut_worth {P : Nat} : ∀ (ms cpost cpre : Mon) (s : Nat) (p : List Trm), P = cpre.length + ms.length → cpost.length = ms.length → (∀ m ∈ ms, m ≤ 2) → Pl P (2 ^ s) (2 ^ s) s p → L (fun m => vM m (cpre ++ cpost)) (falOut P cpre.length ms p) = L (fun m => vM m (cpre ++ cpost)) p * fW ms cpost
  | [], [], cpre, s, p, _, _, _, _ => by
    show _ = _ * (1 : Int)
    rw [Int.mul_one]
    rfl
  | [], _ :: _, _, _, _, _, h, _, _ => by simp at h
  | _ :: _, [], _, _, _, _, h, _, _ => by simp at h
  | m :: ms, c :: cpost, cpre, s, p, hP, hl, hm, hc => by
    rw [List.length_cons] at hP
    rw [List.length_cons, List.length_cons] at hl
    have hi : cpre.length < P := by omega
    have hm2 := hm m List.mem_cons_self
    have p1 := falIn_Pl hi m 0 s p (by omega) hc
    have e1 := falIn_worth (P := P) (cpre := cpre) (cpost := cpost) (x := c) (by omega) m 0 s p (by omega) hc
    have ih := falOut_worth (P := P) ms cpost (cpre ++ [c]) (s + m) (falIn cpre.length P 0 m p) (by rw [List.length_append]; show P = cpre.length + 1 + ms.length; omega) (by omega) (fun a ha => hm a (List.mem_cons_of_mem _ ha)) p1
    rw [List.append_assoc, List.length_append] at ih
    have ih' : L (fun m => vM m (cpre ++ c :: cpost)) (falOut P (cpre.length + 1) ms (falIn cpre.length P 0 m p)) = L (fun m => vM m (cpre ++ c :: cpost)) (falIn cpre.length P 0 m p) * fW ms cpost := ih
    show L _ (falOut P (cpre.length + 1) ms (falIn cpre.length P 0 m p)) = _ * (facF c 0 m * fW ms cpost)
    rw [ih', e1, Int.mul_assoc]
theorem fall_worth {tk cs : Mon} (hm : ∀ m ∈ tk, m ≤ 2) (hc : cs.length = tk.length) : L (fun m => vM m cs) (fallM tk) = fW tk cs := by
  have p0 : Pl tk.length (2 ^ 0) (2 ^ 0) 0 (numM 1 tk.length) := num_Pl 1 tk.length
  have z := falOut_worth (P := tk.length) tk cs [] 0 (numM 1 tk.length) (by simp) hc hm p0
  have z' : L (fun m => vM m cs) (fallM tk) = L (fun m => vM m cs) (numM 1 tk.length) * fW tk cs := z
  rw [z', L_num, vM_zs]
  omega
theorem wgt_worth {tk cs : Mon} {r : Int} (hm : ∀ m ∈ tk, m ≤ 2) (hs : tk.sum ≤ 8) (hP : tk.length ≤ 900) (hc : cs.length = tk.length) : L (fun m => vM m cs) (wgtM tk r) = r * fW tk cs := by
  rw [L_wgt _ hm hs hP, fall_worth hm hc]
end K64
-- L29
set_option Elab.async false
set_option linter.all false
set_option maxRecDepth 100000
set_option maxHeartbeats 400000
/-! L29: products of max(c - k, 0). -/
namespace K64
open PySem Ev
def mx (i : Int) : Int := if 0 > i then 0 else i
def facG (c : Int) : Nat → Nat → Int
  | _, 0 => 1
  | lo, n + 1 => mx (c - lo) * facG c (lo + 1) n
theorem facG_eq (c : Nat) : ∀ (n lo : Nat), lo ≤ c → facG c lo n = facF c lo n
  | 0, _, _ => rfl
  | n + 1, lo, h => by
    have e : mx ((c : Int) - lo) = (c : Int) - lo := by
      unfold mx
      rw [if_neg (by omega)]
    show mx ((c : Int) - lo) * facG c (lo + 1) n = ((c : Int) - lo) * facF c (lo + 1) n
    rw [e]
    by_cases q : lo + 1 ≤ c
    · rw [facG_eq c n (lo + 1) q]
    · have z : (c : Int) - lo = 0 := by omega
      rw [z, Int.zero_mul, Int.zero_mul]
def gW : Mon → Mon → Int
  | m :: ms, c :: cs => facG c 0 m * gW ms cs
  | _, _ => 1
theorem gW_eq : ∀ ms cs : Mon, gW ms cs = fW ms cs
  | [], _ => by unfold gW fW; rfl
  | _ :: _, [] => by unfold gW fW; rfl
  | m :: ms, c :: cs => by
    show facG c 0 m * gW ms cs = facF c 0 m * fW ms cs
    rw [facG_eq c m 0 (Nat.zero_le _), gW_eq ms cs]
end K64
-- L30
set_option Elab.async false
set_option linter.all false
set_option maxRecDepth 100000
set_option maxHeartbeats 400000
/-! L30: _law_weights at one turn. -/
namespace K64
open PySem Ev
abbrev lwB3 : List St := [St.asg (Tg.v 5) (Ex.bin Op2.mul (Ex.v 5) (Ex.bi Bi.max2 [Ex.bin Op2.sub (Ex.v 7) (Ex.v 8), Ex.c (D.int 0)]))]
theorem lw_rng {n : Nat} {C : Calls} (A B G2 G3 G4 G6 : Option D) (c : Nat) (hc : c ≤ 1000) (S : Store) : ∀ (k lo : Nat) (term : Int) (x8 : Option D), lo + k ≤ 1000 →
    ∃ y8, loopS (fun x ρ1 S2 => match asg (.v 8) x ρ1 with | some ρ2 => svs n C lwB3 ρ2 S2 | none => .bad) (intsFrom (lo : Nat) k) [A, B, G2, G3, G4, some (.int term), G6, some (nD c), x8] S =
      .ok .nx [A, B, G2, G3, G4, some (.int (term * facG c lo k)), G6, some (nD c), y8] S
  | 0, lo, term, x8, _ => ⟨x8, by
    rw [show facG c lo 0 = 1 from rfl, Int.mul_one]
    rfl⟩
  | k + 1, lo, term, x8, h => by
    obtain ⟨y8, e⟩ := lw_rng (n := n) (C := C) A B G2 G3 G4 G6 c hc S k (lo + 1) (term * mx ((c : Int) - lo)) (some (.int (lo : Nat))) (by omega)
    refine ⟨y8, ?_⟩
    show loopS _ (D.int (lo : Nat) :: intsFrom ((lo : Nat) + 1) k) _ _ = _
    rw [loopS_cons]
    show contS (svs n C lwB3 [A, B, G2, G3, G4, some (.int term), G6, some (nD c), some (.int (lo : Nat))] S) _ = _
    have t1 : svs n C lwB3 [A, B, G2, G3, G4, some (.int term), G6, some (nD c), some (.int (lo : Nat))] S = .ok .nx [A, B, G2, G3, G4, some (.int (term * mx ((c : Int) - lo))), G6, some (nD c), some (.int (lo : Nat))] S := by
      have hx : mulOk term (mx ((c : Int) - lo)) = true := mulOk_r (by
        unfold mx
        split <;> omega)
      have q : (ev C (Ex.bi Bi.max2 [Ex.bin Op2.sub (Ex.v 7) (Ex.v 8), Ex.c (D.int 0)])).E [A, B, G2, G3, G4, some (.int term), G6, some (nD c), some (.int (lo : Nat))] S = .ok (.v (.int (mx ((c : Int) - lo)))) S := rfl
      have m : bin2 .mul (.v (.int term)) (.v (.int (mx ((c : Int) - lo)))) S = some (.v (.int (term * mx ((c : Int) - lo)))) := by
        show ((if mulOk term (mx ((c : Int) - lo)) then some (term * mx ((c : Int) - lo)) else none).map fun k => T.v (.int k)) = _
        rw [if_pos hx]
        rfl
      have ev5 : (ev C (Ex.v 5)).E [A, B, G2, G3, G4, some (.int term), G6, some (nD c), some (.int (lo : Nat))] S = .ok (.v (.int term)) S := rfl
      rw [svs_cons, sv_asg, ev_bin, ev5, bind_ok, q, bind_ok, m]
      rfl
    rw [t1, contS_nx]
    have e' : ((lo : Nat) : Int) + 1 = ((lo + 1 : Nat) : Int) := by omega
    rw [e', show term * facG c lo (k + 1) = term * mx ((c : Int) - lo) * facG c (lo + 1) k by
      show term * (mx ((c : Int) - lo) * facG c (lo + 1) k) = _
      rw [Int.mul_assoc]]
    exact e
end K64
-- L31
set_option Elab.async false
set_option linter.all false
set_option maxRecDepth 100000
set_option maxHeartbeats 400000
/-! L31: _law_weights, the loop over pots. -/
namespace K64
open PySem Ev
abbrev lwB2 : List St := [St.for (Tg.v 8) (Ex.bi Bi.range [Ex.v 6]) lwB3]
theorem lw_zip {n : Nat} {C : Calls} (A B G2 G3 G4 : Option D) (S : Store) : ∀ (m cs : Mon) (term : Int) (x6 x7 x8 : Option D), (∀ a ∈ m, a ≤ 1000) → (∀ c ∈ cs, c ≤ 1000) →
    ∃ y6 y7 y8, loopS (fun x ρ1 S2 => match asg (.tup [.v 6, .v 7]) x ρ1 with | some ρ2 => svs n C lwB2 ρ2 S2 | none => .bad) ((m.zip cs).map fun q => .tup [nD q.1, nD q.2]) [A, B, G2, G3, G4, some (.int term), x6, x7, x8] S =
      .ok .nx [A, B, G2, G3, G4, some (.int (term * gW m cs)), y6, y7, y8] S
  | [], cs, term, x6, x7, x8, _, _ => ⟨x6, x7, x8, by show SR.ok .nx [A, B, G2, G3, G4, some (.int term), x6, x7, x8] S = _; rw [show gW [] cs = 1 by unfold gW; rfl, Int.mul_one]⟩
  | a :: m, [], term, x6, x7, x8, _, _ => ⟨x6, x7, x8, by show SR.ok .nx [A, B, G2, G3, G4, some (.int term), x6, x7, x8] S = _; rw [show gW (a :: m) [] = 1 by unfold gW; rfl, Int.mul_one]⟩
  | a :: m, c :: cs, term, x6, x7, x8, ha, hc => by
    have hc0 := hc c List.mem_cons_self
    have ha0 := ha a List.mem_cons_self
    obtain ⟨z8, e1⟩ := lw_rng (n := n) (C := C) A B G2 G3 G4 (some (nD a)) c hc0 S a 0 term x8 (by omega)
    obtain ⟨y6, y7, y8, e⟩ := lw_zip (n := n) (C := C) A B G2 G3 G4 S m cs (term * facG c 0 a) (some (nD a)) (some (nD c)) z8 (fun b hb => ha b (List.mem_cons_of_mem _ hb)) (fun b hb => hc b (List.mem_cons_of_mem _ hb))
    refine ⟨y6, y7, y8, ?_⟩
    rw [List.zip_cons_cons, List.map_cons, loopS_cons]
    show contS (svs n C lwB2 [A, B, G2, G3, G4, some (.int term), some (nD a), some (nD c), x8] S) _ = _
    have t1 : svs n C lwB2 [A, B, G2, G3, G4, some (.int term), some (nD a), some (nD c), x8] S = .ok .nx [A, B, G2, G3, G4, some (.int (term * facG c 0 a)), some (nD a), some (nD c), z8] S := by
      have ev6 : (ev C (Ex.v 6)).E [A, B, G2, G3, G4, some (.int term), some (nD a), some (nD c), x8] S = .ok (.v (nD a)) S := rfl
      have it : (ev C (Ex.bi Bi.range [Ex.v 6])).I [A, B, G2, G3, G4, some (.int term), some (nD a), some (nD c), x8] S = .ok (intsFrom ((0 : Nat) : Int) a, none) S := by
        rw [ev_biI, evs_cons, evs_nil, evTs_cons, ev6, bind_ok, evTs_nil, bind_ok, bind_ok, if_pos (show isIt Bi.range = true from rfl), itF_range a ha0 S]
        rfl
      rw [svs_cons, sv_for, it, thenS_ok]
      show seqS (unlockS none (loopS (fun x ρ1 S2 => match asg (.v 8) x ρ1 with | some ρ2 => svs n C lwB3 ρ2 S2 | none => .bad) (intsFrom ((0 : Nat) : Int) a) [A, B, G2, G3, G4, some (.int term), some (nD a), some (nD c), x8] S)) _ = _
      exact (congrArg (fun r => seqS (unlockS none r) fun ρ1 S1 => svs n C [] ρ1 S1) e1).trans rfl
    rw [t1, contS_nx]
    have e' : term * gW (a :: m) (c :: cs) = term * facG c 0 a * gW m cs := by
      show term * (facG c 0 a * gW m cs) = _
      rw [Int.mul_assoc]
    rw [e']
    exact e
end K64
-- L32
set_option Elab.async false
set_option linter.all false
set_option maxRecDepth 100000
set_option maxHeartbeats 400000
/-! L32: _law_weights, the def. -/
namespace K64
open PySem Ev
abbrev lwB1 : List St := [St.for (Tg.tup [Tg.v 6, Tg.v 7]) (Ex.bi Bi.zip [Ex.v 3, Ex.v 1]) lwB2, St.app (Ex.v 2) (Ex.v 5)]
theorem at_endL {S : Store} {c : Cell} : (S ++ [c])[S.length]? = some c := by
  rw [List.getElem?_append_right (Nat.le_refl _), Nat.sub_self]
  rfl
theorem app_end {C : Calls} {n : Nat} {ρ : Ev.Env} {S : Store} {xs : List D} {d : D} {i j : Nat} (hi : ρ[i]? = some (some (.ref S.length))) (hj : ρ[j]? = some (some d)) (hl : xs.length < lim) :
    sv n C (St.app (Ex.v i) (Ex.v j)) ρ (S ++ [Cell.lst false xs]) = .ok .nx ρ (S ++ [Cell.lst false (xs ++ [d])]) := by
  have ei : (ev C (Ex.v i)).E ρ (S ++ [Cell.lst false xs]) = .ok (.v (.ref S.length)) (S ++ [Cell.lst false xs]) := by
    rw [ev_v, hi]
  have ej : (ev C (Ex.v j)).E ρ (S ++ [Cell.lst false xs]) = .ok (.v d) (S ++ [Cell.lst false xs]) := by
    rw [ev_v, hj]
  have hr : rcv .append (.v (.ref S.length)) (S ++ [Cell.lst false xs]) = true := by
    show (match (S ++ [Cell.lst false xs])[S.length]? with | some (.lst _ xs) => some xs | _ => none).isSome = true
    rw [at_endL]
    rfl
  have hm : meF .append (.v (.ref S.length)) [.v d] (S ++ [Cell.lst false xs]) = .ok (.v .non) (S ++ [Cell.lst false (xs ++ [d])]) := by
    show (match (S ++ [Cell.lst false xs])[S.length]? with
    | some (.lst false xs') => if xs'.length < lim then R.ok (T.v .non) ((S ++ [Cell.lst false xs]).set S.length (.lst false (xs' ++ [d]))) else .bad
    | _ => .bad) = _
    rw [at_endL]
    show (if xs.length < lim then R.ok (T.v .non) ((S ++ [Cell.lst false xs]).set S.length (.lst false (xs ++ [d]))) else .bad) = _
    rw [if_pos hl, List.set_append_right _ _ (Nat.le_refl _), Nat.sub_self]
    rfl
  show thenS (((ev C (Ex.v i)).E ρ (S ++ [Cell.lst false xs])).bind fun t S1 => if rcv .append t S1 then (evM [ev C (Ex.v j)] ρ S1).bind fun ds S2 => meF .append t (ds.map .v) S2 else .bad) ρ (fun _ S1 => SR.ok .nx ρ S1) = _
  rw [ei, bind_ok, if_pos hr, evM_cons', ej, bind_ok, mat_v, bind_ok, evM_nil, bind_ok, bind_ok]
  show thenS (meF .append (.v (.ref S.length)) [.v d] (S ++ [Cell.lst false xs])) ρ (fun _ S1 => SR.ok .nx ρ S1) = _
  rw [hm]
  rfl
theorem t_weights (n : Nat) {tk cs : Mon} {r : Int} (S : Store) (ht : ∀ a ∈ tk, a ≤ 1000) (hc : ∀ c ∈ cs, c ≤ 1000) :
    callN F (n + 1) 18 [.tup [.tup [mD tk, mD tk, .int r]], mD cs] S = .ok (.v (.ref S.length)) (S ++ [Cell.lst false [.int (r * gW tk cs)]]) := by
  rw [callN_at (fd := f__law_weights) rfl rfl]
  obtain ⟨y6, y7, y8, e⟩ := lw_zip (n := n) (C := callN F n) (some (.tup [.tup [mD tk, mD tk, .int r]])) (some (mD cs)) (some (.ref S.length)) (some (mD tk)) (some (mD tk)) (S ++ [Cell.lst false []]) tk cs r none none none ht hc
  have it : (ev (callN F n) (Ex.v 0)).I [some (.tup [.tup [mD tk, mD tk, .int r]]), some (mD cs), some (.ref S.length), none, none, none, none, none, none] (S ++ [Cell.lst false []]) = .ok ([.tup [mD tk, mD tk, .int r]], none) (S ++ [Cell.lst false []]) := rfl
  have zp : (ev (callN F n) (Ex.bi Bi.zip [Ex.v 3, Ex.v 1])).I [some (.tup [.tup [mD tk, mD tk, .int r]]), some (mD cs), some (.ref S.length), some (mD tk), some (mD tk), some (.int r), none, none, none] (S ++ [Cell.lst false []]) = .ok ((tk.zip cs).map fun q => .tup [nD q.1, nD q.2], none) (S ++ [Cell.lst false []]) := by
    show R.ok (zipD (tk.map nD) (cs.map nD), none) (S ++ [Cell.lst false []]) = _
    rw [zipD_m]
  have t1 : svs n (callN F n) lwB1 [some (.tup [.tup [mD tk, mD tk, .int r]]), some (mD cs), some (.ref S.length), some (mD tk), some (mD tk), some (.int r), none, none, none] (S ++ [Cell.lst false []]) = .ok .nx [some (.tup [.tup [mD tk, mD tk, .int r]]), some (mD cs), some (.ref S.length), some (mD tk), some (mD tk), some (.int (r * gW tk cs)), y6, y7, y8] (S ++ [Cell.lst false [.int (r * gW tk cs)]]) := by
    rw [svs_cons, sv_for, zp, thenS_ok]
    refine (congrArg (fun r => seqS (unlockS none r) fun ρ1 S1 => svs n (callN F n) [St.app (Ex.v 2) (Ex.v 5)] ρ1 S1) e).trans ?_
    show seqS (SR.ok .nx [some (.tup [.tup [mD tk, mD tk, .int r]]), some (mD cs), some (.ref S.length), some (mD tk), some (mD tk), some (.int (r * gW tk cs)), y6, y7, y8] (S ++ [Cell.lst false []])) _ = _
    rw [seqS_nx, svs_cons, app_end (xs := []) (d := .int (r * gW tk cs)) rfl rfl (by decide)]
    rfl
  show fin0 (svs n (callN F n) f__law_weights.body [some (.tup [.tup [mD tk, mD tk, .int r]]), some (mD cs), none, none, none, none, none, none, none] S) = _
  unfold f__law_weights
  rw [svs_cons, sv_asg]
  show fin0 (seqS (SR.ok .nx [some (.tup [.tup [mD tk, mD tk, .int r]]), some (mD cs), some (.ref S.length), none, none, none, none, none, none] (S ++ [Cell.lst false []])) _) = _
  rw [seqS_nx, svs_cons, sv_for, it, thenS_ok]
  show fin0 (seqS (unlockS none (loopS (fun x ρ1 S2 => match asg (.tup [.v 3, .v 4, .v 5]) x ρ1 with | some ρ2 => svs n (callN F n) lwB1 ρ2 S2 | none => .bad) [.tup [mD tk, mD tk, .int r]] [some (.tup [.tup [mD tk, mD tk, .int r]]), some (mD cs), some (.ref S.length), none, none, none, none, none, none] (S ++ [Cell.lst false []]))) _) = _
  rw [loopS_cons]
  show fin0 (seqS (unlockS none (contS (svs n (callN F n) lwB1 [some (.tup [.tup [mD tk, mD tk, .int r]]), some (mD cs), some (.ref S.length), some (mD tk), some (mD tk), some (.int r), none, none, none] (S ++ [Cell.lst false []])) _)) _) = _
  rw [t1, contS_nx]
  rfl
/-- the call, as an expression: a list of its own -/
theorem fin_ref {S : Store} {xs : List D} (w : WS S) (hx : D.pures xs = true) : fin S.length (.ok (.v (.ref S.length)) (S ++ [Cell.lst false xs])) = .ok (.l xs) S := by
  have e : fresh S.length (.v (.ref S.length)) (S ++ [Cell.lst false xs]) = .l xs := by
    show (if S.length < S.length then T.v (.ref S.length) else (match (S ++ [Cell.lst false xs])[S.length]? with
    | some (.lst false xs) => .l xs
    | some (.dT false kvs) => .t kvs
    | _ => .v (.ref S.length))) = _
    rw [if_neg (Nat.lt_irrefl _), at_endL]
  show (if (fresh S.length (.v (.ref S.length)) (S ++ [Cell.lst false xs])).bnd S.length && oldOk S.length (S ++ [Cell.lst false xs]) then R.ok (fresh S.length (.v (.ref S.length)) (S ++ [Cell.lst false xs])) ((S ++ [Cell.lst false xs]).take S.length) else .ok (.v (.ref S.length)) (S ++ [Cell.lst false xs])) = _
  have o : oldOk S.length (S ++ [Cell.lst false xs]) = true := by
    unfold oldOk
    rw [List.take_left]
    exact w
  have b : (T.l xs).bnd S.length = true := bnds_pure _ xs hx
  rw [e, b, o, List.take_left]
  rfl
end K64
-- L33
set_option Elab.async false
set_option linter.all false
set_option maxRecDepth 100000
set_option maxHeartbeats 400000
/-! L33: rows of takes. -/
namespace K64
open PySem Ev
def BG (S : Store) : Prop := ∃ b0 b1 b2 cs, BagS S b0 b1 b2 cs ∧ 0 ≤ b0 ∧ (∀ c ∈ cs, (0 : Int) ≤ c) ∧ cs.length ≤ 1000
def OkB (c : Cell) : Prop := ∃ c0 c1 c2, c = bagC c0 c1 c2 ∧ 0 ≤ c0
theorem BG.w {S : Store} (h : BG S) : WS S := by
  obtain ⟨_, _, _, _, h, _⟩ := h
  exact h.w
theorem BG.lt {S : Store} (h : BG S) : 2 < S.length := by
  obtain ⟨_, _, _, _, h, _⟩ := h
  exact (List.getElem?_eq_some_iff.mp h.b).1
theorem BG.set {S : Store} (h : BG S) {c : Cell} (hc : OkB c) : BG (S.set 2 c) := by
  obtain ⟨b0, b1, b2, cs, h, h0, h1, h2⟩ := h
  obtain ⟨c0, c1, c2, rfl, hc⟩ := hc
  exact ⟨c0, c1, c2, cs, h.set c0 c1 c2, hc, h1, h2⟩
theorem BG.same {S : Store} (h : BG S) : ∃ c, OkB c ∧ S.set 2 c = S := by
  obtain ⟨b0, b1, b2, cs, h, h0, h1, h2⟩ := h
  exact ⟨_, ⟨b0, b1, b2, rfl, h0⟩, bag_same h⟩
theorem BG.push {S : Store} (h : BG S) {x : Cell} (w : WS (S ++ [x])) : BG (S ++ [x]) := by
  have hl := h.lt
  obtain ⟨b0, b1, b2, cs, h, h0, h1, h2⟩ := h
  exact ⟨b0, b1, b2, cs, ⟨w, by rw [List.getElem?_append_left (by omega)]; exact h.c, by rw [List.getElem?_append_left (by omega)]; exact h.b⟩, h0, h1, h2⟩
theorem BG.pushed {S : Store} (h : BG S) (x c : Cell) : (S ++ [x]).set 2 c = S.set 2 c ++ [x] := List.set_append_left _ _ h.lt
/-- what takes give -/
def Tk (C : Calls) : Prop := ∀ (S : Store) (M : Nat), BG S → 0 < M → M ≤ 9 → ∃ (v : Nat) (c : Cell), v < M ∧ OkB c ∧ fin S.length (C 17 [.ref 2, .int (M : Nat)] S) = .ok (.v (nD v)) (S.set 2 c)
theorem tk_F (n : Nat) : Tk (callN F (n + 1)) := fun S M h hM hM9 => by
  have hh := h
  obtain ⟨b0, b1, b2, cs, h, h0, h1, h2⟩ := h
  obtain ⟨v, c0, c1, c2, hv, hc, e⟩ := t_take n h h0 h1 h2 hM hM9
  refine ⟨v, _, hv, ⟨c0, c1, c2, rfl, hc⟩, ?_⟩
  rw [e]
  have z := fin_v0 (d := nD v) (h.set c0 c1 c2).w rfl
  rw [List.length_set] at z
  exact z
theorem tk_ev {C : Calls} (hC : Tk C) {ρ : Ev.Env} {b M : Nat} (hb : ρ[b]? = some (some (.ref 2))) (hM : 0 < M) (hM9 : M ≤ 9) {S : Store} (h : BG S) :
    ∃ (v : Nat) (c : Cell), v < M ∧ OkB c ∧ (ev C (.call 17 [.v b, .c (.int (M : Nat))])).E ρ S = .ok (.v (nD v)) (S.set 2 c) := by
  obtain ⟨v, c, hv, hc, e⟩ := hC S M h hM hM9
  refine ⟨v, c, hv, hc, ?_⟩
  have eb : (ev C (Ex.v b)).E ρ S = .ok (.v (.ref 2)) S := by
    rw [ev_v, hb]
  rw [ev_call, evs_cons, evs_cons, evs_nil, evM_cons', eb, bind_ok, mat_v, bind_ok, evM_cons', ev_c, bind_ok, mat_v, bind_ok, evM_nil, bind_ok, bind_ok, bind_ok]
  exact e
theorem row_loop {C : Calls} (hC : Tk C) {ρ : Ev.Env} {b w M : Nat} (hb : ρ[b]? = some (some (.ref 2))) (hbw : w ≠ b) (hw : w < ρ.length) (hM : 0 < M) (hM9 : M ≤ 9) : ∀ (k : Nat) (lo : Int) (S : Store), BG S →
    ∃ (m : Mon) (c : Cell), m.length = k ∧ (∀ a ∈ m, a < M) ∧ OkB c ∧ loopC (stepC [w] (ev C (.call 17 [.v b, .c (.int (M : Nat))])) (.v w) [] ρ) (intsFrom lo k) S = .ok (m.map nD) (S.set 2 c)
  | 0, lo, S, h => by
    obtain ⟨c, hc, e⟩ := h.same
    exact ⟨[], c, rfl, (fun _ z => (by cases z)), hc, (by rw [e]; rfl)⟩
  | k + 1, lo, S, h => by
    have hb' : ((ρ.set w none).set w (some (.int lo)))[b]? = some (some (.ref 2)) := by
      rw [List.getElem?_set_ne hbw, List.getElem?_set_ne hbw]
      exact hb
    obtain ⟨v, c, hv, hc, e⟩ := tk_ev hC hb' hM hM9 h
    obtain ⟨m, c', h1, h2, h3, e'⟩ := row_loop hC hb hbw hw hM hM9 k (lo + 1) (S.set 2 c) (h.set hc)
    refine ⟨v :: m, c', by rw [List.length_cons, h1], fun a ha => ?_, h3, ?_⟩
    · rcases List.mem_cons.mp ha with z | z
      · rw [z]
        exact hv
      · exact h2 a z
    · show loopC _ (D.int lo :: intsFrom (lo + 1) k) S = _
      unfold loopC
      have s1 : stepC [w] (ev C (.call 17 [.v b, .c (.int (M : Nat))])) (.v w) [] ρ (.int lo) S = .ok (some (nD v)) (S.set 2 c) := by
        unfold stepC
        have ea : asg (.v w) (.int lo) (wipeE ρ [w]) = some ((ρ.set w none).set w (some (.int lo))) := by
          show (if w < (ρ.set w none).length then some ((ρ.set w none).set w (some (.int lo))) else none) = _
          rw [List.length_set, if_pos hw]
        rw [ea]
        show ((R.ok true S).bind fun k S3 => if k then ((ev C (.call 17 [.v b, .c (.int (M : Nat))])).E ((ρ.set w none).set w (some (.int lo))) S3).bind fun t S4 => (mat t S4).bind fun d S5 => R.ok (some d) S5 else .ok none S3) = _
        rw [bind_ok, if_pos rfl, e]
        rfl
      rw [s1, bind_ok, e', bind_ok, List.set_set]
      rfl
theorem row_ev {C : Calls} (hC : Tk C) {ρ : Ev.Env} {b w p M P : Nat} (hb : ρ[b]? = some (some (.ref 2))) (hp : ρ[p]? = some (some (.int (P : Nat)))) (hbw : w ≠ b) (hw : w < ρ.length) (hM : 0 < M) (hM9 : M ≤ 9) (hP : P ≤ 1000) {S : Store} (h : BG S) :
    ∃ (m : Mon) (c : Cell), m.length = P ∧ (∀ a ∈ m, a < M) ∧ OkB c ∧ (ev C (.bi .tuple [.lc [w] (.call 17 [.v b, .c (.int (M : Nat))]) (.v w) (.bi .range [.v p]) []])).E ρ S = .ok (.v (mD m)) (S.set 2 c) := by
  obtain ⟨m, c, h1, h2, h3, e⟩ := row_loop hC hb hbw hw hM hM9 P 0 S h
  refine ⟨m, c, h1, h2, h3, ?_⟩
  have it : (ev C (.bi .range [.v p])).I ρ S = .ok (intsFrom 0 P, none) S := by
    have ep : (ev C (Ex.v p)).E ρ S = .ok (.v (nD P)) S := by
      rw [ev_v, hp]
      rfl
    rw [ev_biI, evs_cons, evs_nil, evTs_cons, ep, bind_ok, evTs_nil, bind_ok, bind_ok, if_pos (show isIt Bi.range = true from rfl), itF_range P hP S]
    rfl
  have hl : (intsFrom 0 P).length ≤ lim := by
    have : ∀ (k : Nat) (lo : Int), (intsFrom lo k).length = k := by
      intro k
      induction k with
      | zero => intro lo; rfl
      | succ k ih =>
        intro lo
        show (D.int lo :: intsFrom (lo + 1) k).length = k + 1
        rw [List.length_cons, ih]
    rw [this]
    exact Nat.le_trans hP (by decide)
  have el : (ev C (.lc [w] (.call 17 [.v b, .c (.int (M : Nat))]) (.v w) (.bi .range [.v p]) [])).E ρ S = .ok (.l (m.map nD)) (S.set 2 c) := by
    rw [ev_lc]
    unfold evL
    rw [it, bind_ok]
    show (if (intsFrom 0 P).length ≤ lim then _ else _) = _
    rw [if_pos hl]
    show ((noX (loopC (stepC [w] (ev C (.call 17 [.v b, .c (.int (M : Nat))])) (.v w) [] ρ) (intsFrom 0 P) S)).bind fun ys S2 => R.ok (T.l ys) (lockO S2 none false)) = _
    rw [e]
    rfl
  rw [ev_bi, evs_cons, evs_nil, evTs_cons, el]
  rfl
end K64
-- L34
set_option Elab.async false
set_option linter.all false
set_option maxRecDepth 100000
set_option maxHeartbeats 400000
/-! L34: _law_poly. -/
namespace K64
open PySem Ev
/-- what _law_poly gathers -/
structure Gt (P k : Nat) (p : List Trm) : Prop where
  nd : Nd p
  len : ∀ t ∈ p, t.1.length = P
  ct : p.length ≤ k
  sm : ∀ t ∈ p, ∀ a ∈ t.1, a ≤ 2
  vl : ∀ t ∈ p, t.2.natAbs ≤ 4
theorem mem_putV {p : List Trm} {m : Mon} {v : Int} {t : Trm} (h : t ∈ putM p m v) : t ∈ p ∨ t = (m, v) := by
  unfold putM at h
  split at h
  · obtain ⟨s, hs, e⟩ := List.mem_map.mp h
    by_cases q : s.1 = m
    · rw [if_pos q, q] at e
      exact .inr e.symm
    · rw [if_neg q] at e
      rw [← e]
      exact .inl hs
  · rcases List.mem_append.mp h with z | z
    · exact .inl z
    · exact .inr (List.mem_singleton.mp z)
theorem Gt.put {P k : Nat} {p : List Trm} (h : Gt P k p) {m : Mon} {v : Int} (hm : m.length = P) (hs : ∀ a ∈ m, a ≤ 2) (hv : v.natAbs ≤ 4) : Gt P (k + 1) (putM p m v) where
  nd := nd_put h.nd
  len := fun t ht => by
    rcases mem_putV ht with z | z
    · exact h.len t z
    · rw [z]
      exact hm
  ct := Nat.le_trans (len_put p m v) (Nat.succ_le_succ h.ct)
  sm := fun t ht => by
    rcases mem_putV ht with z | z
    · exact h.sm t z
    · rw [z]
      exact hs
  vl := fun t ht => by
    rcases mem_putV ht with z | z
    · exact h.vl t z
    · rw [z]
      exact hv
theorem nrm_le {b : Nat} : ∀ p : List Trm, (∀ t ∈ p, t.2.natAbs ≤ b) → nrm p ≤ b * p.length
  | [], _ => Nat.zero_le _
  | t :: p, h => by
    have h1 := h t List.mem_cons_self
    have h2 := nrm_le p fun s hs => h s (List.mem_cons_of_mem _ hs)
    show t.2.natAbs + nrm p ≤ b * (p.length + 1)
    rw [Nat.mul_add]
    omega
theorem sum_le {b : Nat} : ∀ m : Mon, (∀ a ∈ m, a ≤ b) → m.sum ≤ b * m.length
  | [], _ => Nat.zero_le _
  | a :: m, h => by
    have h1 := h a List.mem_cons_self
    have h2 := sum_le m fun c hc => h c (List.mem_cons_of_mem _ hc)
    rw [List.sum_cons, List.length_cons, Nat.mul_add]
    omega
theorem Gt.Pl {P k : Nat} {p : List Trm} (h : Gt P k p) (hk : k ≤ 4) (hP : P ≤ 4) : Pl P 4 16 8 (tidy p) where
  can := can_tidy h.nd
  len := fun t ht => h.len t (mem_tidy.mp ht).1
  ct := Nat.le_trans (len_tidy p) (Nat.le_trans h.ct hk)
  nm := by
    have h1 := nrm_tidy p
    have h2 := nrm_le p h.vl
    have h3 := h.ct
    omega
  dg := fun t ht => by
    have h1 := sum_le t.1 (h.sm t (mem_tidy.mp ht).1)
    rw [h.len t (mem_tidy.mp ht).1] at h1
    omega
abbrev pyRow : Ex := Ex.bi Bi.tuple [Ex.lc [5] (Ex.call 17 [Ex.v 0, Ex.c (D.int 3)]) (Tg.v 5) (Ex.bi Bi.range [Ex.v 1]) []]
abbrev pyB : List St := [St.asg (Tg.v 4) pyRow, St.seti (Ex.v 2) (Ex.v 4) (Ex.bin Op2.sub (Ex.call 17 [Ex.v 0, Ex.c (D.int 9)]) (Ex.c (D.int 4)))]
theorem py_turn {C : Calls} {n : Nat} (hC : Tk C) {P k : Nat} (hP : P ≤ 4) {S : Store} (h : BG S) (x3 x4 x5 x6 : Option D) {p : List Trm} (hp : Gt P k p) (hk : k ≤ 4) :
    ∃ (q : List Trm) (c : Cell) (y4 : Option D), Gt P (k + 1) q ∧ OkB c ∧ svs n C pyB [some (.ref 2), some (.int (P : Nat)), some (.ref S.length), x3, x4, x5, x6] (S ++ [Cell.dT false (kD p)]) =
      .ok .nx [some (.ref 2), some (.int (P : Nat)), some (.ref S.length), x3, y4, x5, x6] (S.set 2 c ++ [Cell.dT false (kD q)]) := by
  have h1 : BG (S ++ [Cell.dT false (kD p)]) := h.push (ws_dict h.w p)
  obtain ⟨m, c, m1, m2, hc, e1⟩ := row_ev (M := 3) hC (ρ := [some (.ref 2), some (.int (P : Nat)), some (.ref S.length), x3, x4, x5, x6]) (b := 0) (w := 5) (p := 1) rfl rfl (by decide) (by decide : 5 < 7) (by decide) (by decide) (by omega) h1
  rw [h.pushed] at e1
  have h2 := h.set hc
  have h3 : BG (S.set 2 c ++ [Cell.dT false (kD p)]) := h2.push (ws_dict h2.w p)
  obtain ⟨v, d, hv, hd, e2⟩ := tk_ev (M := 9) hC (ρ := [some (.ref 2), some (.int (P : Nat)), some (.ref S.length), x3, some (mD m), x5, x6]) (b := 0) rfl (by decide) (by decide) h3
  rw [h2.pushed, List.set_set] at e2
  refine ⟨putM p m ((v : Int) - 4), d, some (mD m), hp.put m1 (fun a ha => Nat.le_of_lt_succ (m2 a ha)) (by omega), hd, ?_⟩
  have e3 : (ev C (Ex.bin Op2.sub (Ex.call 17 [Ex.v 0, Ex.c (D.int 9)]) (Ex.c (D.int 4)))).E [some (.ref 2), some (.int (P : Nat)), some (.ref S.length), x3, some (mD m), x5, x6] (S.set 2 c ++ [Cell.dT false (kD p)]) = .ok (.v (.int ((v : Int) - 4))) (S.set 2 d ++ [Cell.dT false (kD p)]) := by
    rw [ev_bin]
    have e2' : (ev C (Ex.call 17 [Ex.v 0, Ex.c (D.int 9)])).E [some (.ref 2), some (.int (P : Nat)), some (.ref S.length), x3, some (mD m), x5, x6] (S.set 2 c ++ [Cell.dT false (kD p)]) = .ok (.v (nD v)) (S.set 2 d ++ [Cell.dT false (kD p)]) := e2
    rw [e2', bind_ok]
    rfl
  have e1' : (ev C pyRow).E [some (.ref 2), some (.int (P : Nat)), some (.ref S.length), x3, x4, x5, x6] (S ++ [Cell.dT false (kD p)]) = .ok (.v (mD m)) (S.set 2 c ++ [Cell.dT false (kD p)]) := e1
  rw [svs_cons, sv_asg, e1', bind_ok, mat_v, thenS_ok]
  show seqS (SR.ok .nx [some (.ref 2), some (.int (P : Nat)), some (.ref S.length), x3, some (mD m), x5, x6] (S.set 2 c ++ [Cell.dT false (kD p)])) _ = _
  rw [seqS_nx, svs_cons, sv_seti, e3, bind_ok, mat_v, thenS_ok]
  have se := set_end (S := S.set 2 d) (p := p) (m := m) (v := (v : Int) - 4) (Nat.lt_of_le_of_lt (Nat.le_trans hp.ct hk) (by decide))
  rw [List.length_set] at se
  show seqS (thenS (optS (setF (.v (.ref S.length)) (.v (mD m)) (.int ((v : Int) - 4)) (S.set 2 d ++ [Cell.dT false (kD p)]))) _ _) _ = _
  rw [se]
  rfl
theorem py_loop {C : Calls} {n : Nat} (hC : Tk C) {P : Nat} (hP : P ≤ 4) : ∀ (j k : Nat) (lo : Int) (S : Store) (x3 x4 x5 x6 : Option D) (p : List Trm), BG S → Gt P k p → k + j ≤ 4 →
    ∃ (q : List Trm) (c : Cell) (y3 y4 : Option D), Gt P 4 q ∧ OkB c ∧ loopS (fun x ρ1 S2 => match asg (.v 3) x ρ1 with | some ρ2 => svs n C pyB ρ2 S2 | none => .bad) (intsFrom lo j) [some (.ref 2), some (.int (P : Nat)), some (.ref S.length), x3, x4, x5, x6] (S ++ [Cell.dT false (kD p)]) =
      .ok .nx [some (.ref 2), some (.int (P : Nat)), some (.ref S.length), y3, y4, x5, x6] (S.set 2 c ++ [Cell.dT false (kD q)])
  | 0, k, lo, S, x3, x4, x5, x6, p, h, hp, hk => by
    obtain ⟨c, hc, e⟩ := h.same
    exact ⟨p, c, x3, x4, ⟨hp.nd, hp.len, Nat.le_trans hp.ct (by omega), hp.sm, hp.vl⟩, hc, by rw [e]; rfl⟩
  | j + 1, k, lo, S, x3, x4, x5, x6, p, h, hp, hk => by
    obtain ⟨q, c, y4, h1, h2, e⟩ := py_turn (n := n) hC hP h (some (.int lo)) x4 x5 x6 hp (by omega)
    obtain ⟨q', c', z3, z4, h3, h4, e'⟩ := py_loop (n := n) hC hP j (k + 1) (lo + 1) (S.set 2 c) (some (.int lo)) y4 x5 x6 q (h.set h2) h1 (by omega)
    rw [List.length_set, List.set_set] at e'
    refine ⟨q', c', z3, z4, h3, h4, ?_⟩
    show loopS _ (D.int lo :: intsFrom (lo + 1) j) _ _ = _
    rw [loopS_cons]
    show contS (svs n C pyB [some (.ref 2), some (.int (P : Nat)), some (.ref S.length), some (.int lo), x4, x5, x6] (S ++ [Cell.dT false (kD p)])) _ = _
    rw [e, contS_nx]
    exact e'
theorem srt_ev {C : Calls} {A B : Option D} {x3 x4 x5 x6 : Option D} {k : Nat} {S : Store} {p : List Trm} (hS : S[k]? = some (.dT false (kD p))) (hl : p.length ≤ 400) :
    (ev C (Ex.bi Bi.tuple [Ex.bi Bi.sorted [Ex.lc [4, 6] (Ex.tup [Ex.v 4, Ex.v 6]) (Tg.tup [Tg.v 4, Tg.v 6]) (Ex.me Me.items (Ex.v 2) []) [Ex.cmp Cm.ne (Ex.v 6) (Ex.c (D.int 0))]]])).E [A, B, some (.ref k), x3, x4, x5, x6] S = .ok (.v (pD (tidy p))) S := by
  have hlen : (kD p).length = p.length := List.length_map _
  have hlk : lockAt S k = false := by
    unfold lockAt
    rw [hS]
  have hasT : asT (.v (.ref k)) S = some (kD p) := by
    show (match S[k]? with | some (.dT _ kvs) => some kvs | _ => none) = _
    rw [hS]
  have it2 : (ev C (Ex.me Me.items (Ex.v 2) [])).I [A, B, some (.ref k), x3, x4, x5, x6] S = .ok (itemD (kD p), some k) S := by
    show (R.ok (T.v (.ref k)) S).bind (fun t S1 => (match Me.items, t, ([] : List Ex) with
        | .items, .v (.ref k), [] => opt ((asT (.v (.ref k)) S1).map fun kvs => (itemD kvs, if lockAt S1 k then none else some k)) S1
        | _, _, _ => .bad)) = _
    rw [bind_ok]
    show opt ((asT (.v (.ref k)) S).map fun kvs => (itemD kvs, if lockAt S k then none else some k)) S = _
    rw [hasT, hlk]
    rfl
  have c2 : (ev C (Ex.lc [4, 6] (Ex.tup [Ex.v 4, Ex.v 6]) (Tg.tup [Tg.v 4, Tg.v 6]) (Ex.me Me.items (Ex.v 2) []) [Ex.cmp Cm.ne (Ex.v 6) (Ex.c (D.int 0))])).E [A, B, some (.ref k), x3, x4, x5, x6] S = .ok (.l ((p.filter fun t => decide (t.2 ≠ 0)).map tD)) S := by
    have e0 : itemD (kD p) = p.map tD := by
      unfold itemD kD
      rw [List.map_map]
      rfl
    rw [e0] at it2
    rw [ev_lc, evL_ok (g := fun x => if (match x with | .tup [_, .int f] => decide (f ≠ 0) | _ => false) then some x else none) it2 (by rw [List.length_map]; exact Nat.le_trans hl (by decide)) (fun x hx => ?_) (lockO_back hS)]
    · rw [fm_if tD (fun t => decide (t.2 ≠ 0)) (fun x => x) (fun x => match x with | .tup [_, .int f] => decide (f ≠ 0) | _ => false) (fun a => rfl)]
    · obtain ⟨t, htp, rfl⟩ := List.mem_map.mp hx
      have e2 : cmp2 .ne (.v (.int t.2)) (.v (.int 0)) (lockO S (some k) true) = some (!decide (t.2 = 0)) := ne_int _ _ _
      by_cases h0 : t.2 = 0
      · rw [decide_eq_true h0, h0] at e2
        simp [stepC, asg, asgs, wipeE, tD, e2, h0]
      · rw [decide_eq_false h0] at e2
        simp [stepC, asg, asgs, wipeE, tD, e2, h0, lim]
  have hfl : (p.filter fun t => decide (t.2 ≠ 0)).length ≤ lim := Nat.le_trans (List.length_filter_le _ _) (Nat.le_trans hl (by decide))
  rw [ev_bi, evs_cons, evs_nil, evTs_cons, ev_bi, evs_cons, evs_nil, evTs_cons, c2, bind_ok, evTs_nil, bind_ok, bind_ok]
  have e1 : biF .sorted [.l ((p.filter fun t => decide (t.2 ≠ 0)).map tD)] S = some (.l ((tidy p).map tD)) := by
    show (if sortable ((p.filter fun t => decide (t.2 ≠ 0)).map tD) then some (T.l (sortD ((p.filter fun t => decide (t.2 ≠ 0)).map tD))) else none) = _
    rw [if_pos (sortable_pD _ hfl), srt_map]
    rfl
  rw [e1]
  rfl
theorem t_poly (n : Nat) {P : Nat} (hP : P ≤ 4) {S : Store} (h : BG S) : ∃ (p : List Trm) (c : Cell), Pl P 4 16 8 p ∧ OkB c ∧ fin S.length (callN F (n + 2) 19 [.ref 2, .int (P : Nat)] S) = .ok (.v (pD p)) (S.set 2 c) := by
  have hC := tk_F n
  have h1 : BG (S ++ [Cell.dT false (kD [])]) := h.push (ws_dict h.w [])
  obtain ⟨v, c, hv, hc, e1⟩ := tk_ev (M := 5) hC (ρ := [some (.ref 2), some (.int (P : Nat)), some (.ref S.length), none, none, none, none]) (b := 0) rfl (by decide) (by decide) h1
  rw [h.pushed] at e1
  have h2 := h.set hc
  obtain ⟨q, c', y3, y4, hq, hc', e2⟩ := py_loop (n := n + 1) hC hP v 0 0 (S.set 2 c) none none none none [] h2 ⟨List.nodup_nil, (fun t z => (by cases z)), Nat.le_refl _, (fun t z => (by cases z)), (fun t z => (by cases z))⟩ (by omega)
  rw [List.length_set, List.set_set] at e2
  have h3 := h.set hc'
  refine ⟨tidy q, c', hq.Pl (Nat.le_refl _) hP, hc', ?_⟩
  have it : (ev (callN F (n + 1)) (Ex.bi Bi.range [Ex.call 17 [Ex.v 0, Ex.c (D.int 5)]])).I [some (.ref 2), some (.int (P : Nat)), some (.ref S.length), none, none, none, none] (S ++ [Cell.dT false (kD [])]) = .ok (intsFrom 0 v, none) (S.set 2 c ++ [Cell.dT false (kD [])]) := by
    have e1' : (ev (callN F (n + 1)) (Ex.call 17 [Ex.v 0, Ex.c (D.int 5)])).E [some (.ref 2), some (.int (P : Nat)), some (.ref S.length), none, none, none, none] (S ++ [Cell.dT false (kD [])]) = .ok (.v (nD v)) (S.set 2 c ++ [Cell.dT false (kD [])]) := e1
    rw [ev_biI, evs_cons, evs_nil, evTs_cons, e1', bind_ok, evTs_nil, bind_ok, bind_ok, if_pos (show isIt Bi.range = true from rfl), itF_range v (by omega)]
    rfl
  have at3 : (S.set 2 c' ++ [Cell.dT false (kD q)])[S.length]? = some (.dT false (kD q)) := by
    have z := at_end (S := S.set 2 c') (c := .dT false (kD q))
    rwa [List.length_set] at z
  have e3 := srt_ev (C := callN F (n + 1)) (A := some (.ref 2)) (B := some (.int (P : Nat))) (x3 := y3) (x4 := y4) (x5 := none) (x6 := none) at3 (Nat.le_trans hq.ct (by decide))
  have e4 : callN F (n + 2) 19 [.ref 2, .int (P : Nat)] S = .ok (.v (pD (tidy q))) (S.set 2 c' ++ [Cell.dT false (kD q)]) := by
    rw [callN_at (fd := f__law_poly) rfl rfl]
    show fin0 (svs (n + 1) (callN F (n + 1)) f__law_poly.body [some (.ref 2), some (.int (P : Nat)), none, none, none, none, none] S) = _
    unfold f__law_poly
    rw [svs_cons, sv_asg, ev_dT0, bind_ok, mat_t, thenS_ok]
    show fin0 (seqS (SR.ok .nx [some (.ref 2), some (.int (P : Nat)), some (.ref S.length), none, none, none, none] (S ++ [Cell.dT false (kD [])])) _) = _
    rw [seqS_nx, svs_cons, sv_for, it, thenS_ok]
    show fin0 (seqS (unlockS none (loopS (fun x ρ1 S2 => match asg (.v 3) x ρ1 with | some ρ2 => svs (n + 1) (callN F (n + 1)) pyB ρ2 S2 | none => .bad) (intsFrom 0 v) [some (.ref 2), some (.int (P : Nat)), some (.ref S.length), none, none, none, none] (S.set 2 c ++ [Cell.dT false (kD [])]))) _) = _
    rw [e2]
    show fin0 (seqS (SR.ok .nx [some (.ref 2), some (.int (P : Nat)), some (.ref S.length), y3, y4, none, none] (S.set 2 c' ++ [Cell.dT false (kD q)])) _) = _
    rw [seqS_nx, svs_cons, sv_ret, e3]
    rfl
  rw [e4]
  have z := fin_v (S := S.set 2 c') (G := [.dT false (kD q)]) (d := pD (tidy q)) h3.w (pD_pure _)
  rwa [List.length_set] at z
end K64
-- L35
set_option Elab.async false
set_option linter.all false
set_option maxRecDepth 100000
set_option maxHeartbeats 400000
/-! L35: the greatest by key. -/
namespace K64
open PySem Ev
def kk (m : Mon) : D := .tup [.int (m.sum : Nat), mD m]
theorem keyOf_t (t : Trm) : keyOf (tD t) = some (kk t.1) := by
  show (intL (t.1.map fun n => D.int (n : Nat))).map (fun ns => D.tup [.int ns.sum, .tup (t.1.map nD)]) = _
  rw [intL_map]
  show some (D.tup [.int (t.1.map fun (n : Nat) => (n : Int)).sum, mD t.1]) = _
  rw [sum_cast]
  rfl
theorem keysOf_p : ∀ p : List Trm, keysOf (p.map tD) = some (p.map fun t => kk t.1)
  | [] => rfl
  | t :: p => by
    show (match keyOf (tD t), keysOf (p.map tD) with | some k, some ks => some (k :: ks) | _, _ => none) = _
    rw [keyOf_t, keysOf_p p]
    rfl
theorem kk_pure (m : Mon) : (kk m).pure = true := by
  show (true && ((mD m).pure && true)) = true
  rw [mD_pure]
  rfl
theorem kk_dep (m : Mon) : (kk m).dep ≤ 2 := by
  have := mD_dep m
  show max 0 (max (mD m).dep 0) + 1 ≤ 2
  omega
theorem keysOk_p (p : List Trm) : keysOk (p.map fun t => kk t.1) = true := by
  unfold keysOk
  rw [Bool.and_eq_true, Bool.and_eq_true]
  refine ⟨⟨?_, ?_⟩, pures_map (f := fun t : Trm => kk t.1) (fun t => kk_pure t.1) p⟩
  · rw [List.all_eq_true]
    intro x hx
    rw [List.all_eq_true]
    intro y hy
    obtain ⟨a, _, rfl⟩ := List.mem_map.mp hx
    obtain ⟨b, _, rfl⟩ := List.mem_map.mp hy
    simp [kk, mD, D.py, D.pys, PySem.W.alike, PySem.W.alikeAll, alike_mD]
  · rw [decide_eq_true_eq]
    exact Nat.le_trans (deps_map (f := fun t : Trm => kk t.1) (fun t => kk_dep t.1) p) (by decide)
theorem kk_lt {a b : Mon} (h : a.sum < b.sum) : PySem.W.dataLt (kk a).py (kk b).py = true := by
  have h' : (a.sum : Int) < (b.sum : Int) := by omega
  simp [PySem.W.dataLt, kk, D.py, D.pys, PySem.W.keyToks, PySem.W.keyToksAll, PyProof.Rows.lexLt, PyProof.Rows.itemLt, h']
theorem kk_ge {a b : Mon} (h : b.sum < a.sum) : PySem.W.dataLt (kk a).py (kk b).py = false := by
  have h' : (b.sum : Int) < (a.sum : Int) := by omega
  have h2 : ¬ (a.sum : Int) < (b.sum : Int) := by omega
  have h3 : ¬ (a.sum : Int) = (b.sum : Int) := by omega
  simp [PySem.W.dataLt, kk, D.py, D.pys, PySem.W.keyToks, PySem.W.keyToksAll, PyProof.Rows.lexLt, PyProof.Rows.itemLt, h', h2, h3]
theorem lt_self (d : PyData) : PySem.W.dataLt d d = false := PyProof.Rows.lex_irrefl (O := PyProof.Rows.itemOrd) _
theorem maxFrom_p {tk : Mon} {r : Int} : ∀ (q : List Trm) (c : Trm), (∀ t ∈ c :: q, t = (tk, r) ∨ t.1.sum < tk.sum) → (tk, r) ∈ c :: q → maxFrom (tD c) (kk c.1) (q.map tD) (q.map fun t => kk t.1) = tD (tk, r)
  | [], c, h, hm => by
    rw [← List.mem_singleton.mp hm]
    rfl
  | t :: q, c, h, hm => by
    show (if PySem.W.dataLt (kk c.1).py (kk t.1).py then maxFrom (tD t) (kk t.1) (q.map tD) (q.map fun t => kk t.1) else maxFrom (tD c) (kk c.1) (q.map tD) (q.map fun t => kk t.1)) = _
    have hq : ∀ s ∈ q, s = (tk, r) ∨ s.1.sum < tk.sum := fun s hs => h s (List.mem_cons_of_mem _ (List.mem_cons_of_mem _ hs))
    have hc := h c List.mem_cons_self
    have ht := h t (List.mem_cons_of_mem _ List.mem_cons_self)
    have go : ∀ d : Trm, (d = c ∨ d = t) → (tk, r) ∈ d :: q → maxFrom (tD d) (kk d.1) (q.map tD) (q.map fun t => kk t.1) = tD (tk, r) := fun d hd hm => maxFrom_p q d (fun s hs => by
      rcases List.mem_cons.mp hs with z | z
      · rw [z]
        rcases hd with y | y
        · rw [y]
          exact hc
        · rw [y]
          exact ht
      · exact hq s z) hm
    rcases hc with z | z
    · have e : PySem.W.dataLt (kk c.1).py (kk t.1).py = false := by
        rcases ht with y | y
        · rw [z, y]
          exact lt_self _
        · exact kk_ge (by rw [z]; exact y)
      rw [e, if_neg Bool.false_ne_true]
      exact go c (.inl rfl) (by rw [z]; exact List.mem_cons_self)
    · rcases ht with y | y
      · rw [kk_lt (by rw [y]; exact z), if_pos rfl]
        exact go t (.inr rfl) (by rw [y]; exact List.mem_cons_self)
      · have hmq : (tk, r) ∈ q := by
          rcases List.mem_cons.mp hm with x | x
          · rw [← x] at z
            exact absurd z (Nat.lt_irrefl _)
          · rcases List.mem_cons.mp x with w | w
            · rw [← w] at y
              exact absurd y (Nat.lt_irrefl _)
            · exact w
        split
        · exact go t (.inr rfl) (List.mem_cons_of_mem _ hmq)
        · exact go c (.inl rfl) (List.mem_cons_of_mem _ hmq)
theorem maxK_p {tk : Mon} {r : Int} {p : List Trm} (hp : Can p) (To : Top tk r p) (hr : r ≠ 0) : maxK (.v (pD p)) = some (.v (tD (tk, r))) := by
  have hm := top_mem hp To hr
  have hall : ∀ t ∈ p, t = (tk, r) ∨ t.1.sum < tk.sum := fun t ht => by
    have h1 := top_leq hp To ht
    have h2 := leq_sum h1
    by_cases e : t.1.sum = tk.sum
    · left
      have e1 := leq_eq h1 e
      have e2 : L (ind t.1) p = t.2 := L_ind p hp.nd ht
      rw [e1, To.o] at e2
      exact Prod.ext e1 e2.symm
    · right
      omega
  cases p with
  | nil => cases hm
  | cons c q =>
    show (match keysOf ((c :: q).map tD) with
      | some (k :: ks) => if keysOk (k :: ks) then some (T.v (maxFrom (tD c) k (q.map tD) ks)) else none
      | _ => none) = _
    rw [keysOf_p]
    show (if keysOk ((c :: q).map fun t => kk t.1) then some (T.v (maxFrom (tD c) (kk c.1) (q.map tD) (q.map fun t => kk t.1))) else none) = _
    rw [keysOk_p, if_pos rfl, maxFrom_p q c hall hm]
end K64
-- L36
set_option Elab.async false
set_option linter.all false
set_option maxRecDepth 100000
set_option maxHeartbeats 400000
/-! L36: side_of. -/
namespace K64
open PySem Ev
def sdD (tk : Mon) (r : Int) (p : List Trm) : D := if r < 1 then .non else if p = wgtM tk r then .tup [mD tk, .int r] else .non
theorem sdD_pure (tk : Mon) (r : Int) (p : List Trm) : (sdD tk r p).pure = true := by
  unfold sdD
  split
  · rfl
  · split
    · show ((mD tk).pure && (true && true)) = true
      rw [mD_pure]
      rfl
    · rfl
abbrev sdOr : Ex := Ex.or [Ex.cmp Cm.lt (Ex.v 3) (Ex.c (D.int 1)), Ex.cmp Cm.ne (Ex.bi Bi.len [Ex.v 2]) (Ex.v 1), Ex.cmp Cm.gt (Ex.bi Bi.sum [Ex.v 2]) (Ex.gc "MOST_TAKEN" (D.int 8))]
theorem sd_or {C : Calls} {tk : Mon} {r : Int} {A : Option D} (hs : tk.sum ≤ 8) (S : Store) : (ev C sdOr).B [A, some (.int (tk.length : Nat)), some (mD tk), some (.int r)] S = .ok (decide (r < 1)) S := by
  have b1 : (ev C (Ex.cmp Cm.lt (Ex.v 3) (Ex.c (D.int 1)))).B [A, some (.int (tk.length : Nat)), some (mD tk), some (.int r)] S = .ok (decide (r < 1)) S := rfl
  have b2 : (ev C (Ex.cmp Cm.ne (Ex.bi Bi.len [Ex.v 2]) (Ex.v 1))).B [A, some (.int (tk.length : Nat)), some (mD tk), some (.int r)] S = .ok false S := by
    have e : cmp2 .ne (.v (.int ((tk.map nD).length : Nat))) (.v (.int (tk.length : Nat))) S = some false := by
      rw [ne_int, List.length_map, decide_eq_true rfl]
      rfl
    show opt (cmp2 .ne (.v (.int ((tk.map nD).length : Nat))) (.v (.int (tk.length : Nat))) S) S = _
    rw [e]
    rfl
  have b3 : (ev C (Ex.cmp Cm.gt (Ex.bi Bi.sum [Ex.v 2]) (Ex.gc "MOST_TAKEN" (D.int 8)))).B [A, some (.int (tk.length : Nat)), some (mD tk), some (.int r)] S = .ok false S := by
    have e0 : biF .sum [.v (mD tk)] S = some (.v (.int (tk.sum : Nat))) := by
      show (intL (tk.map fun n => D.int (n : Nat))).map (fun ns => T.v (.int ns.sum)) = _
      rw [intL_map]
      show some (T.v (.int (tk.map fun (n : Nat) => (n : Int)).sum)) = _
      rw [sum_cast]
    have e1 : (ev C (Ex.bi Bi.sum [Ex.v 2])).E [A, some (.int (tk.length : Nat)), some (mD tk), some (.int r)] S = .ok (.v (.int (tk.sum : Nat))) S := by
      show opt (biF .sum [.v (mD tk)] S) S = _
      rw [e0]
      rfl
    rw [ev_cmpB, e1, bind_ok]
    show R.ok (decide ((8 : Int) < (tk.sum : Nat))) S = _
    rw [decide_eq_false (by omega)]
  rw [ev_orB, evs_cons, evs_cons, evs_cons, evs_nil, evO_cons, b1, bind_ok]
  by_cases h : r < 1
  · rw [decide_eq_true h, if_pos rfl]
  · rw [decide_eq_false h, if_neg Bool.false_ne_true, evO_cons, b2, bind_ok, if_neg Bool.false_ne_true, evO_cons, b3, bind_ok, if_neg Bool.false_ne_true, evO_nil]
theorem t_side (n : Nat) {P c N d : Nat} {tk : Mon} {r : Int} {p : List Trm} (hp : Pl P c N d p) (To : Top tk r p) (hr : r ≠ 0) (hl : tk.length = P) (hm : ∀ m ∈ tk, m ≤ 2) (hs : tk.sum ≤ 8) (hP : P ≤ 900) (hb : r.natAbs < 2 ^ 40) {S : Store} (w : WS S) :
    callN F (n + 7) 13 [pD p, .int (P : Nat)] S = .ok (.v (sdD tk r p)) S := by
  subst hl
  rw [callN_at (fd := f_side_of) rfl rfl]
  have hne : p ≠ [] := fun e => by
    have := top_mem hp.can To hr
    rw [e] at this
    cases this
  have b1 : (ev (callN F (n + 6)) (Ex.cmp Cm.eq (Ex.v 0) (Ex.tup []))).B [some (pD p), some (.int (tk.length : Nat)), none, none] S = .ok false S := by
    show opt (cmp2 .eq (.v (pD p)) (.v (pD [])) S) S = _
    rw [eq_pD, decide_eq_false hne]
    rfl
  have m2 : (ev (callN F (n + 6)) (Ex.v 0).maxk).E [some (pD p), some (.int (tk.length : Nat)), none, none] S = .ok (.v (tD (tk, r))) S := by
    show opt (maxK (.v (pD p))) S = _
    rw [maxK_p hp.can To hr]
    rfl
  have c12 : (ev (callN F (n + 6)) (Ex.call 12 [Ex.v 2, Ex.v 3])).E [some (pD p), some (.int (tk.length : Nat)), some (mD tk), some (.int r)] S = .ok (.v (pD (wgtM tk r))) S := by
    show fin S.length (callN F (n + 6) 12 [mD tk, .int r] S) = _
    rw [t_weight n w hm hs hP hb]
    exact fin_v0 w (pD_pure _)
  have r4 : (ev (callN F (n + 6)) ((Ex.cmp Cm.eq (Ex.v 0) (Ex.call 12 [Ex.v 2, Ex.v 3])).ife (Ex.tup [Ex.v 2, Ex.v 3]) (Ex.c D.non))).E [some (pD p), some (.int (tk.length : Nat)), some (mD tk), some (.int r)] S = .ok (.v (if p = wgtM tk r then .tup [mD tk, .int r] else .non)) S := by
    have b : (ev (callN F (n + 6)) (Ex.cmp Cm.eq (Ex.v 0) (Ex.call 12 [Ex.v 2, Ex.v 3]))).B [some (pD p), some (.int (tk.length : Nat)), some (mD tk), some (.int r)] S = .ok (decide (p = wgtM tk r)) S := by
      have e0 : (ev (callN F (n + 6)) (Ex.v 0)).E [some (pD p), some (.int (tk.length : Nat)), some (mD tk), some (.int r)] S = .ok (.v (pD p)) S := rfl
      rw [ev_cmpB, e0, bind_ok, c12, bind_ok, eq_pD]
      rfl
    rw [ev_ife, b, bind_ok]
    by_cases h : p = wgtM tk r
    · rw [decide_eq_true h, if_pos rfl, if_pos h]
      rfl
    · rw [decide_eq_false h, if_neg Bool.false_ne_true, if_neg h]
      rfl
  show fin0 (svs (n + 6) (callN F (n + 6)) f_side_of.body [some (pD p), some (.int (tk.length : Nat)), none, none] S) = _
  unfold f_side_of
  rw [svs_cons, sv_ite, b1, thenS_ok, if_neg Bool.false_ne_true, svs_nil, seqS_nx, svs_cons, sv_asg, m2, bind_ok, mat_v, thenS_ok]
  show fin0 (seqS (SR.ok .nx [some (pD p), some (.int (tk.length : Nat)), some (mD tk), some (.int r)] S) _) = _
  rw [seqS_nx, svs_cons, sv_ite]
  have b3 := sd_or (C := callN F (n + 6)) (r := r) (A := some (pD p)) hs S
  rw [b3, thenS_ok]
  unfold sdD
  by_cases h : r < 1
  · rw [decide_eq_true h, if_pos rfl, if_pos h]
    rfl
  · rw [decide_eq_false h, if_neg Bool.false_ne_true, if_neg h, svs_nil, seqS_nx, svs_cons]
    show fin0 (seqS (tryS (svs (n + 6) (callN F (n + 6)) [St.ret ((Ex.cmp Cm.eq (Ex.v 0) (Ex.call 12 [Ex.v 2, Ex.v 3])).ife (Ex.tup [Ex.v 2, Ex.v 3]) (Ex.c D.non))] [some (pD p), some (.int (tk.length : Nat)), some (mD tk), some (.int r)] S) "TooLarge" (fun ρ1 S1 => svs (n + 6) (callN F (n + 6)) [St.ret (Ex.c D.non)] ρ1 S1)) _) = _
    rw [svs_cons, sv_ret, r4]
    rfl
theorem t_side0 (n : Nat) {P : Nat} {S : Store} : callN F (n + 1) 13 [.tup [], .int (P : Nat)] S = .ok (.v .non) S := by
  rw [callN_at (fd := f_side_of) rfl rfl]
  have b1 : (ev (callN F n) (Ex.cmp Cm.eq (Ex.v 0) (Ex.tup []))).B [some (pD []), some (.int (P : Nat)), none, none] S = .ok true S := by
    show opt (cmp2 .eq (.v (pD [])) (.v (pD [])) S) S = _
    rw [eq_pD]
    rfl
  show fin0 (svs n (callN F n) f_side_of.body [some (pD []), some (.int (P : Nat)), none, none] S) = _
  unfold f_side_of
  rw [svs_cons, sv_ite, b1, thenS_ok, if_pos rfl]
  rfl
/-! ### of what else -/
theorem top_neg {tk : Mon} {r : Int} {p : List Trm} (To : Top tk r p) : Top tk (-r) (negM p) where
  z := fun φ h => by
    rw [L_neg, To.z φ h]
    rfl
  o := by
    rw [L_neg, To.o]
theorem leq_zs : ∀ m : Mon, leq (zs m.length) m
  | [] => True.intro
  | a :: m => ⟨Nat.zero_le a, leq_zs m⟩
theorem top_plus1 {tk : Mon} {r : Int} {p : List Trm} (nd : Nd p) (To : Top tk r p) : Top tk (if tk = zs tk.length then r + 1 else r) (plusM p (numM 1 tk.length)) where
  z := fun φ h => by
    rw [L_plus φ nd, To.z φ h, L_num, h _ (leq_zs tk)]
    rfl
  o := by
    rw [L_plus _ nd, To.o, L_num]
    unfold ind
    by_cases h : zs tk.length = tk
    · rw [if_pos h, if_pos h.symm, Int.mul_one]
    · rw [if_neg h, if_neg (fun e => h e.symm), Int.mul_zero, Int.add_zero]
theorem plus1_ne {tk : Mon} {r : Int} (p : List Trm) (nd : Nd p) (P : Nat) : plusM p (numM 1 P) ≠ p := fun e => by
  have h := L_plus (ind (zs P)) (q := numM 1 P) nd
  rw [e, L_num] at h
  unfold ind at h
  rw [if_pos rfl] at h
  omega
theorem zs_of_sum : ∀ m : Mon, m.sum = 0 → m = zs m.length
  | [], _ => rfl
  | a :: m, h => by
    rw [List.sum_cons] at h
    have e := zs_of_sum m (by omega)
    have ha : a = 0 := by omega
    rw [List.length_cons]
    show a :: m = 0 :: zs m.length
    rw [ha, ← e]
end K64
-- L37
set_option Elab.async false
set_option linter.all false
set_option maxRecDepth 100000
set_option maxHeartbeats 400000
/-! L37: what is moved; what raises Nothing. -/
namespace K64
open PySem Ev
theorem num_zero (P : Nat) : numM 0 P = [] := rfl
theorem num_ne {s : Int} (h : s ≠ 0) (P : Nat) : numM s P = [(zs P, s)] := by
  unfold numM tidy
  rw [List.filter_cons_of_pos (by simpa using h)]
  rfl
theorem sh_num (s : Int) (P : Nat) : shD P (numM s P) = .int s := by
  by_cases h : s = 0
  · rw [h, num_zero]
    rfl
  · rw [num_ne h]
    show (if zs P = zs P then D.int s else .non) = _
    rw [if_pos rfl]
def mvM (i P : Nat) (s : Int) : List Trm := plusM (eP i P) (numM s P)
theorem mv_Pl {i P : Nat} (h : i < P) (s : Int) : Pl P (1 + 1) (1 + s.natAbs) (max 1 0) (mvM i P s) := plus_Pl (e_Pl h) (num_Pl s P).len (num_Pl s P).ct (num_Pl s P).nm (num_Pl s P).dg
theorem L_mv (φ : Mon → Int) {i P : Nat} (h : i < P) (s : Int) : L φ (mvM i P s) = φ (eM i P) + s * φ (zs P) := by
  unfold mvM
  rw [L_plus φ (e_Pl h).can.nd, L_num]
  show (1 : Int) * φ (eM i P) + 0 + _ = _
  rw [Int.one_mul, Int.add_zero]
theorem mv_back {i P : Nat} (h : i < P) (s : Int) : minusM (mvM i P s) (eP i P) = numM s P := by
  refine can_eq _ _ (minus_Pl (mv_Pl h s) (e_Pl h)).can (num_Pl s P).can fun φ => ?_
  rw [L_minus φ (mv_Pl h s).can.nd, L_mv φ h s, L_num]
  show φ (eM i P) + s * φ (zs P) - ((1 : Int) * φ (eM i P) + 0) = _
  rw [Int.one_mul, Int.add_zero]
  omega
theorem mv_sq {i P : Nat} (h : i < P) (s : Int) : shD P (minusM (timesM (mvM i P s) (mvM i P s)) (eP i P)) = .non := by
  have hp := times_Pl (mv_Pl h s) (mv_Pl h s)
  have l1 : ∀ a b : Mon, a.sum ≠ b.sum → a ≠ b := fun a b q e => q (by rw [e])
  have s2 : (zipAdd (eM i P) (eM i P)).sum = 2 := by rw [zipAdd_sum rfl, eM_sum]
  have s1 : (zipAdd (eM i P) (zs P)).sum = 1 := by rw [zipAdd_sum (by rw [eM_len h, zs_len]), eM_sum, zs_sum]
  have s1' : (zipAdd (zs P) (eM i P)).sum = 1 := by rw [zipAdd_sum (by rw [eM_len h, zs_len]), eM_sum, zs_sum]
  have s0 : (zipAdd (zs P) (zs P)).sum = 0 := by rw [zipAdd_sum rfl, zs_sum]
  have e : L (ind (zipAdd (eM i P) (eM i P))) (minusM (timesM (mvM i P s) (mvM i P s)) (eP i P)) = 1 := by
    rw [L_minus _ hp.can.nd, L_times, L_mv _ h s, L_mv _ h s, L_mv _ h s]
    rw [show L (ind (zipAdd (eM i P) (eM i P))) (eP i P) = (1 : Int) * ind (zipAdd (eM i P) (eM i P)) (eM i P) + 0 from rfl]
    unfold ind
    rw [if_pos rfl, if_neg (l1 _ _ (by rw [s1, s2]; decide)), if_neg (l1 _ _ (by rw [s1', s2]; decide)), if_neg (l1 _ _ (by rw [s0, s2]; decide)), if_neg (l1 _ _ (by rw [eM_sum, s2]; decide))]
    omega
  generalize minusM (timesM (mvM i P s) (mvM i P s)) (eP i P) = q at e
  match q, e with
  | [], e => exact absurd (show (0 : Int) = 1 from e) (by decide)
  | [t], e =>
    show (if t.1 = zs P then D.int t.2 else .non) = _
    by_cases ht : t.1 = zs P
    · exfalso
      have e' : t.2 * ind (zipAdd (eM i P) (eM i P)) t.1 + 0 = 1 := e
      unfold ind at e'
      rw [ht, if_neg (l1 _ _ (by rw [zs_sum, s2]; decide))] at e'
      omega
    · rw [if_neg ht]
  | _ :: _ :: _, e => rfl
/-! ### what raises -/
theorem t_tidied_no (n : Nat) {S : Store} {k P : Nat} {p : List Trm} (w : WS S) (hS : S[k]? = some (.dT false (kD p))) (hl : p.length ≤ 400) (hx : ∃ t ∈ p, t.1.length ≠ P) :
    callN F (n + 2) 3 [.ref k, .int (P : Nat)] S = .exc ⟨"Nothing", []⟩ S := by
  rw [callN_at (fd := f_tidied) rfl rfl]
  have hlen : (kD p).length = p.length := List.length_map _
  have hlk : lockAt S k = false := by
    unfold lockAt
    rw [hS]
  have hasT : asT (.v (.ref k)) S = some (kD p) := by
    show (match S[k]? with | some (.dT _ kvs) => some kvs | _ => none) = _
    rw [hS]
  have it1 : (ev (callN F (n + 1)) (.v 0)).I [some (.ref k), some (.int (P : Nat)), none, none, none] S = .ok ((kD p).map (·.1), some k) S := by
    show (R.ok (T.v (.ref k)) S).bind (fun t S1 => opt (itQ t S1) S1) = _
    rw [bind_ok]
    have e0 : itQ0 (.v (.ref k)) S = none := by
      show (match asL (.v (.ref k)) S with | some xs => some (xs, if lockAt S k then none else some k) | none => none) = _
      have : asL (.v (.ref k)) S = none := by
        show (match S[k]? with | some (.lst _ xs) => some xs | some (.ro xs) => some xs | _ => none) = _
        rw [hS]
      rw [this]
    have e1 : itQ (.v (.ref k)) S = some ((kD p).map (·.1), some k) := by
      unfold itQ
      rw [e0]
      show (asT (.v (.ref k)) S).map (fun kvs => (kvs.map (·.1), if lockAt S k then none else some k)) = _
      rw [hasT, hlk]
      rfl
    rw [e1]
    rfl
  have c1 : (ev (callN F (n + 1)) (.lc [3] (Ex.cmp Cm.eq (Ex.bi Bi.len [Ex.v 3]) (Ex.v 1)) (Tg.v 3) (Ex.v 0) [])).E [some (.ref k), some (.int (P : Nat)), none, none, none] S = .ok (.l (p.map fun t => D.bl (decide (t.1.length = P)))) S := by
    rw [ev_lc, evL_ok (g := fun x => some (.bl (match x with | .tup xs => decide (xs.length = P) | _ => false))) it1 (by rw [List.length_map, hlen]; exact Nat.le_trans hl (by decide)) (fun x hx => ?_) (lockO_back hS)]
    · rw [fm_some]
      unfold kD
      rw [List.map_map, List.map_map]
      refine congrArg (fun l => R.ok (T.l l) S) (List.map_congr_left fun t _ => ?_)
      show D.bl (decide ((t.1.map nD).length = P)) = _
      rw [List.length_map]
    · obtain ⟨y, hy, rfl⟩ := List.mem_map.mp hx
      obtain ⟨t, htp, rfl⟩ := List.mem_map.mp hy
      have e2 : cmp2 .eq (.v (.int t.1.length)) (.v (.int (P : Nat))) (lockO S (some k) true) = some (decide (t.1.length = P)) := by
        rw [eq_int]
        by_cases h : t.1.length = P
        · rw [decide_eq_true h, decide_eq_true (by omega)]
        · rw [decide_eq_false h, decide_eq_false (by omega)]
      have e3 : (t.1.map nD).length = t.1.length := List.length_map _
      simp [stepC, asg, wipeE, biF, asQ, mD, e2]
  have b1 : (ev (callN F (n + 1)) (Ex.bi Bi.all [.lc [3] (Ex.cmp Cm.eq (Ex.bi Bi.len [Ex.v 3]) (Ex.v 1)) (Tg.v 3) (Ex.v 0) []]).not).B [some (.ref k), some (.int (P : Nat)), none, none, none] S = .ok true S := by
    rw [ev_notB]
    show (((ev (callN F (n + 1)) (Ex.bi Bi.all [.lc [3] (Ex.cmp Cm.eq (Ex.bi Bi.len [Ex.v 3]) (Ex.v 1)) (Tg.v 3) (Ex.v 0) []])).E [some (.ref k), some (.int (P : Nat)), none, none, none] S).bind fun t S1 => opt (truth t S1) S1).bind (fun k S1 => R.ok (!k) S1) = _
    rw [ev_bi, evs_cons, evs_nil, evTs_cons, c1, bind_ok, evTs_nil, bind_ok, bind_ok]
    have e1 : biF .all [.l (p.map fun t => D.bl (decide (t.1.length = P)))] S = some (.v (.bl false)) := by
      show (bools (p.map fun t => D.bl (decide (t.1.length = P)))).map (fun bs => T.v (.bl (bs.all id))) = _
      rw [bools_map (fun t : Trm => decide (t.1.length = P)) p]
      show some (T.v (.bl ((p.map fun t => decide (t.1.length = P)).all id))) = _
      have : (p.map fun t => decide (t.1.length = P)).all id = false := by
        obtain ⟨t, ht, h⟩ := hx
        rw [List.all_eq_false]
        exact ⟨false, List.mem_map.mpr ⟨t, ht, decide_eq_false h⟩, by decide⟩
      rw [this]
    rw [e1]
    rfl
  show fin0 (svs (n + 1) (callN F (n + 1)) f_tidied.body [some (.ref k), some (.int (P : Nat)), none, none, none] S) = _
  unfold f_tidied
  rw [svs_cons, sv_ite, b1, thenS_ok, if_pos rfl, svs_cons, sv_raise0]
  rfl
theorem mem_addM (p : List Trm) (m : Mon) (f : Int) : ∃ s ∈ addM p m f, s.1 = m := by
  have h : m ∈ (addM p m f).map (·.1) := by
    unfold addM
    rw [keys_put]
    split
    · rename_i h
      obtain ⟨s, hs, e⟩ := List.any_eq_true.mp h
      exact List.mem_map.mpr ⟨s, hs, by simpa using e⟩
    · exact List.mem_append.mpr (.inr List.mem_cons_self)
  exact List.mem_map.mp h
theorem t_plus_no (n : Nat) {p : List Trm} {P Q : Nat} {f : Int} {S : Store} (w : WS S) (nd : Nd p) (hne : p ≠ []) (hl : p.length ≤ 300) (hp : ∀ t ∈ p, t.1.length = P) (hq : P ≠ Q) :
    callN F (n + 3) 7 [pD p, pD [(zs Q, f)]] S = .exc ⟨"Nothing", []⟩ (S ++ [Cell.dT false (kD (addAll p [(zs Q, f)]))]) := by
  rw [callN_at (fd := f_plus) rfl rfl]
  have lm : (400 : Nat) < lim := by decide
  have hal := addAll_len [(zs Q, f)] p
  rw [List.length_singleton] at hal
  have i1 : (ev (callN F (n + 2)) (Ex.bi Bi.dict [Ex.v 0])).E [some (pD p), some (pD [(zs Q, f)]), none, none, none] S = .ok (.t (kD p)) S := by
    show opt (biF .dict [.v (pD p)] S) S = _
    rw [dict_pD nd (by omega)]
    rfl
  obtain ⟨y3, y4, lp⟩ := plus_loop (n := n + 2) (C := callN F (n + 2)) (some (pD p)) (some (pD [(zs Q, f)])) S [(zs Q, f)] p none none (by rw [List.length_singleton]; omega)
  have it : (ev (callN F (n + 2)) (Ex.v 1)).I [some (pD p), some (pD [(zs Q, f)]), some (.ref S.length), none, none] (S ++ [Cell.dT false (kD p)]) = .ok ([(zs Q, f)].map tD, none) (S ++ [Cell.dT false (kD p)]) := rfl
  have w1 := ws_dict w (addAll p [(zs Q, f)])
  have ep : potsD p [(zs Q, f)] = .int (P : Nat) := by
    cases p with
    | nil => exact absurd rfl hne
    | cons t r =>
      show D.int (t.1.length : Nat) = _
      rw [hp t List.mem_cons_self]
  have c6 : fin (S ++ [Cell.dT false (kD (addAll p [(zs Q, f)]))]).length (callN F (n + 2) 6 [pD p, pD [(zs Q, f)]] (S ++ [Cell.dT false (kD (addAll p [(zs Q, f)]))])) = .ok (.v (.int (P : Nat))) (S ++ [Cell.dT false (kD (addAll p [(zs Q, f)]))]) := by
    rw [t_pots (n + 1) p [(zs Q, f)], ep]
    exact fin_v0 w1 rfl
  have c3 := t_tidied_no n w1 (k := S.length) (p := addAll p [(zs Q, f)]) (P := P) at_end (by omega) (by
    obtain ⟨s, hs, e⟩ := mem_addM p (zs Q) f
    exact ⟨s, hs, by rw [e, zs_len]; exact fun e => hq e.symm⟩)
  have c3' : fin (S ++ [Cell.dT false (kD (addAll p [(zs Q, f)]))]).length (callN F (n + 2) 3 [.ref S.length, .int (P : Nat)] (S ++ [Cell.dT false (kD (addAll p [(zs Q, f)]))])) = .exc ⟨"Nothing", []⟩ (S ++ [Cell.dT false (kD (addAll p [(zs Q, f)]))]) := by
    rw [c3]
    have z := fin_exc (G := []) (x := "Nothing") w1
    rwa [List.append_nil] at z
  have r1 : (ev (callN F (n + 2)) (Ex.call 3 [Ex.v 2, Ex.call 6 [Ex.v 0, Ex.v 1]])).E [some (pD p), some (pD [(zs Q, f)]), some (.ref S.length), y3, y4] (S ++ [Cell.dT false (kD (addAll p [(zs Q, f)]))]) = .exc ⟨"Nothing", []⟩ (S ++ [Cell.dT false (kD (addAll p [(zs Q, f)]))]) := by
    have r6 : (ev (callN F (n + 2)) (Ex.call 6 [Ex.v 0, Ex.v 1])).E [some (pD p), some (pD [(zs Q, f)]), some (.ref S.length), y3, y4] (S ++ [Cell.dT false (kD (addAll p [(zs Q, f)]))]) = .ok (.v (.int (P : Nat))) (S ++ [Cell.dT false (kD (addAll p [(zs Q, f)]))]) := c6
    rw [ev_call, evs_cons, evs_cons, evs_nil, evM_cons', ev_v]
    show fin _ (((evM [ev (callN F (n + 2)) (Ex.call 6 [Ex.v 0, Ex.v 1])] [some (pD p), some (pD [(zs Q, f)]), some (.ref S.length), y3, y4] (S ++ [Cell.dT false (kD (addAll p [(zs Q, f)]))])).bind fun ds S3 => R.ok (D.ref S.length :: ds) S3).bind fun ds S1 => callN F (n + 2) 3 ds S1) = _
    rw [evM_cons', r6]
    exact c3'
  show fin0 (svs (n + 2) (callN F (n + 2)) f_plus.body [some (pD p), some (pD [(zs Q, f)]), none, none, none] S) = _
  unfold f_plus
  rw [svs_cons, sv_asg, i1, bind_ok, mat_t, thenS_ok]
  show fin0 (seqS (SR.ok .nx [some (pD p), some (pD [(zs Q, f)]), some (.ref S.length), none, none] (S ++ [Cell.dT false (kD p)])) _) = _
  rw [seqS_nx, svs_cons, sv_for, it, thenS_ok]
  refine (congrArg (fun r => fin0 (seqS (unlockS none r) fun ρ1 S1 => svs (n + 2) (callN F (n + 2)) [St.ret (Ex.call 3 [Ex.v 2, Ex.call 6 [Ex.v 0, Ex.v 1]])] ρ1 S1)) lp).trans ?_
  show fin0 (seqS (SR.ok .nx [some (pD p), some (pD [(zs Q, f)]), some (.ref S.length), y3, y4] (S ++ [Cell.dT false (kD (addAll p [(zs Q, f)]))])) _) = _
  rw [seqS_nx, svs_cons, sv_ret, r1]
  rfl
end K64
-- L38
set_option Elab.async false
set_option linter.all false
set_option maxRecDepth 100000
set_option maxHeartbeats 400000
/-! L38: expressions and statements, for the law's body. -/
namespace K64
open PySem Ev
def Fn (C : Calls) (f : Nat) (ds : List D) (d : D) : Prop := ∀ S, WS S → fin S.length (C f ds S) = .ok (.v d) S
section
variable {C : Calls} {ρ : Ev.Env} {S : Store} {n : Nat}
theorem x_v {i : Nat} {d : D} (h : ρ[i]? = some (some d)) : (ev C (.v i)).E ρ S = .ok (.v d) S := by
  rw [ev_v, h]
theorem x_c {d : D} : (ev C (.c d)).E ρ S = .ok (.v d) S := rfl
theorem x_1 {f : Nat} {a : Ex} {da d : D} (w : WS S) (ha : (ev C a).E ρ S = .ok (.v da) S) (h : Fn C f [da] d) : (ev C (.call f [a])).E ρ S = .ok (.v d) S := by
  rw [ev_call, evs_cons, evs_nil, evM_cons', ha, bind_ok, mat_v, bind_ok, evM_nil, bind_ok, bind_ok]
  exact h S w
theorem x_2 {f : Nat} {a b : Ex} {da db d : D} (w : WS S) (ha : (ev C a).E ρ S = .ok (.v da) S) (hb : (ev C b).E ρ S = .ok (.v db) S) (h : Fn C f [da, db] d) : (ev C (.call f [a, b])).E ρ S = .ok (.v d) S := by
  rw [ev_call, evs_cons, evs_cons, evs_nil, evM_cons', ha, bind_ok, mat_v, bind_ok, evM_cons', hb, bind_ok, mat_v, bind_ok, evM_nil, bind_ok, bind_ok, bind_ok]
  exact h S w
theorem x_3 {f : Nat} {a b c : Ex} {da db dc d : D} (w : WS S) (ha : (ev C a).E ρ S = .ok (.v da) S) (hb : (ev C b).E ρ S = .ok (.v db) S) (hc : (ev C c).E ρ S = .ok (.v dc) S) (h : Fn C f [da, db, dc] d) : (ev C (.call f [a, b, c])).E ρ S = .ok (.v d) S := by
  rw [ev_call, evs_cons, evs_cons, evs_cons, evs_nil, evM_cons', ha, bind_ok, mat_v, bind_ok, evM_cons', hb, bind_ok, mat_v, bind_ok, evM_cons', hc, bind_ok, mat_v, bind_ok, evM_nil, bind_ok, bind_ok, bind_ok, bind_ok]
  exact h S w
theorem b_ne {a b : Ex} {p q : List Trm} (ha : (ev C a).E ρ S = .ok (.v (pD p)) S) (hb : (ev C b).E ρ S = .ok (.v (pD q)) S) (e : p = q) : (ev C (.cmp .ne a b)).B ρ S = .ok false S := by
  rw [ev_cmpB, ha, bind_ok, hb, bind_ok, ne_pD, decide_eq_true e]
  rfl
theorem b_neI {a b : Ex} {i j : Int} (ha : (ev C a).E ρ S = .ok (.v (.int i)) S) (hb : (ev C b).E ρ S = .ok (.v (.int j)) S) (e : i = j) : (ev C (.cmp .ne a b)).B ρ S = .ok false S := by
  rw [ev_cmpB, ha, bind_ok, hb, bind_ok, ne_int, decide_eq_true e]
  rfl
theorem b_noN {a : Ex} {d : D} (ha : (ev C a).E ρ S = .ok (.v d) S) : (ev C (.cmp .noN a (.c .non))).B ρ S = .ok (!(T.v d).isNon) S := by
  rw [ev_cmpB, ha, bind_ok]
  rfl
theorem b_or : ∀ {es : List Ex}, (∀ e ∈ es, (ev C e).B ρ S = .ok false S) → (ev C (.or es)).B ρ S = .ok false S := by
  intro es
  rw [ev_orB]
  induction es with
  | nil => intro _; rfl
  | cons e es ih =>
    intro h
    rw [evs_cons, evO_cons, h e List.mem_cons_self, bind_ok, if_neg Bool.false_ne_true]
    exact ih fun x hx => h x (List.mem_cons_of_mem _ hx)
theorem b_or3 {a b c : Ex} (ha : (ev C a).B ρ S = .ok false S) (hb : (ev C b).B ρ S = .ok false S) (hc : (ev C c).B ρ S = .ok false S) : (ev C (.or [a, b, c])).B ρ S = .ok false S := b_or fun e he => by
  simp at he
  rcases he with rfl | rfl | rfl <;> assumption
theorem b_or2 {a b : Ex} (ha : (ev C a).B ρ S = .ok false S) (hb : (ev C b).B ρ S = .ok false S) : (ev C (.or [a, b])).B ρ S = .ok false S := b_or fun e he => by
  simp at he
  rcases he with rfl | rfl <;> assumption
theorem s_asg {i : Nat} {e : Ex} {d : D} {S' : Store} (hi : i < ρ.length) (h : (ev C e).E ρ S = .ok (.v d) S') : sv n C (.asg (.v i) e) ρ S = .ok .nx (ρ.set i (some d)) S' := by
  rw [sv_asg, h, bind_ok, mat_v, thenS_ok]
  show (match (if i < ρ.length then some (ρ.set i (some d)) else none) with | some ρ' => SR.ok .nx ρ' S' | none => .bad) = _
  rw [if_pos hi]
theorem s_par {i j : Nat} {a b : Ex} {x y : D} {S1 S2 : Store} (hi : i < ρ.length) (hj : j < ρ.length) (ha : (ev C a).E ρ S = .ok (.v x) S1) (hb : (ev C b).E ρ S1 = .ok (.v y) S2) : sv n C (.par i j a b) ρ S = .ok .nx ((ρ.set i (some x)).set j (some y)) S2 := by
  rw [sv_par, evM_cons', ha, bind_ok, mat_v, bind_ok, evM_cons', hb, bind_ok, mat_v, bind_ok, evM_nil, bind_ok, bind_ok, thenS_ok]
  show (if i < ρ.length ∧ j < ρ.length then SR.ok .nx ((ρ.set i (some x)).set j (some y)) S2 else .bad) = _
  rw [if_pos ⟨hi, hj⟩]
theorem s_asg2 {i j : Nat} {a b : Ex} {x y : D} {S1 S2 : Store} (hi : i < ρ.length) (hj : j < ρ.length) (ha : (ev C a).E ρ S = .ok (.v x) S1) (hb : (ev C b).E ρ S1 = .ok (.v y) S2) : sv n C (.asg (.tup [.v i, .v j]) (.tup [a, b])) ρ S = .ok .nx ((ρ.set i (some x)).set j (some y)) S2 := by
  rw [sv_asg, ev_tup, evs_cons, evs_cons, evs_nil, evM_cons', ha, bind_ok, mat_v, bind_ok, evM_cons', hb, bind_ok, mat_v, bind_ok, evM_nil, bind_ok, bind_ok, bind_ok, if_pos (show [x, y].length ≤ lim from (show 2 ≤ lim by decide)), bind_ok, mat_v, thenS_ok]
  have e : asg (.tup [.v i, .v j]) (.tup [x, y]) ρ = some ((ρ.set i (some x)).set j (some y)) := by
    show (if i < ρ.length then some (ρ.set i (some x)) else none).bind (fun ρ' => (if j < ρ'.length then some (ρ'.set j (some y)) else none).bind fun ρ' => some ρ') = _
    rw [if_pos hi]
    show (if j < (ρ.set i (some x)).length then some ((ρ.set i (some x)).set j (some y)) else none).bind (fun ρ' => some ρ') = _
    rw [List.length_set, if_pos hj]
    rfl
  rw [e]
theorem s_no {t : Ex} {a : List St} {S' : Store} (h : (ev C t).B ρ S = .ok false S') : sv n C (.ite t a []) ρ S = .ok .nx ρ S' := by
  rw [sv_ite, h, thenS_ok, if_neg Bool.false_ne_true, svs_nil]
theorem s_step {s : St} {r : List St} {ρ1 : Ev.Env} {S1 : Store} (h : sv n C s ρ S = .ok .nx ρ1 S1) : svs n C (s :: r) ρ S = svs n C r ρ1 S1 := by
  rw [svs_cons, h, seqS_nx]
theorem b_isNo {e : Ex} (w : WS S) (h : (ev C e).E ρ S = .exc ⟨"Nothing", []⟩ S) : (ev C (Ex.isNo "Nothing" e).not).B ρ S = .ok false S := by
  have e1 : (ev C (Ex.isNo "Nothing" e)).B ρ S = .ok true S := by
    show (match fin S.length ((ev C e).E ρ S) with
      | .ok _ S1 => R.ok false S1
      | .exc x S1 => if x.cls = "Nothing" then .ok true S1 else .bad
      | .bad => .bad) = _
    rw [h]
    have z := fin_exc (G := []) (x := "Nothing") w
    rw [List.append_nil] at z
    rw [z]
    rfl
  rw [ev_notB, e1, bind_ok]
  rfl
end
/-! ### the calls -/
def LC : Calls := callN F 11
theorem fn_plus {P c c' N N' d d' : Nat} {p q : List Trm} (hp : Pl P c N d p) (hq : Pl P c' N' d' q) (h1 : c + c' ≤ 400) (h2 : N + N' < 2 ^ 64) (h3 : max d d' < 2 ^ 64) : Fn LC 7 [pD p, pD q] (pD (plusM p q)) := fun S w =>
  (g_plus (n := 8) hp hq.len hq.ct hq.nm hq.dg h1 h2 h3).call (pD_pure _) w
theorem fn_minus {P c c' N N' d d' : Nat} {p q : List Trm} (hp : Pl P c N d p) (hq : Pl P c' N' d' q) (h1 : c + c' ≤ 400) (h2 : N + N' < 2 ^ 64) (h3 : max d d' < 2 ^ 64) : Fn LC 9 [pD p, pD q] (pD (minusM p q)) := fun S w => by
  show fin S.length (callN F (7 + 4) 9 [pD p, pD q] S) = _
  rw [g_minus hp hq h1 h2 h3 w]
  exact fin_v0 w (pD_pure _)
theorem fn_times {P c c' N N' d d' : Nat} {p q : List Trm} (hp : Pl P c N d p) (hq : Pl P c' N' d' q) (hP : P ≤ 1000) (h0 : N < 2 ^ 64) (h1 : c * c' ≤ 400) (h2 : N * N' < 2 ^ 64) (h3 : d + d' < 2 ^ 64) : Fn LC 10 [pD p, pD q] (pD (timesM p q)) := fun S w =>
  (g_times (n := 8) hp hq hP h0 h1 h2 h3).call (pD_pure _) w
theorem fn_neg {p : List Trm} (h : p.length ≤ lim) : Fn LC 8 [pD p] (pD (negM p)) := fun S w => by
  show fin S.length (callN F (10 + 1) 8 [pD p] S) = _
  rw [t_negative 10 S h]
  exact fin_v0 w (pD_pure _)
theorem fn_num {i : Int} {P : Nat} (hi : i.natAbs < 2 ^ 64) (hP : P ≤ 1000) : Fn LC 4 [.int i, .int (P : Nat)] (pD (numM i P)) := fun S w => by
  show fin S.length (callN F (8 + 3) 4 [.int i, .int (P : Nat)] S) = _
  rw [t_number 8 i P hi hP w]
  exact fin_v0 w (pD_pure _)
theorem fn_cnt {i P : Nat} (h : i < P) (hP : P ≤ 900) : Fn LC 5 [.int (i : Nat), .int (P : Nat)] (pD (eP i P)) := fun S w => by
  show fin S.length (callN F (8 + 3) 5 [.int (i : Nat), .int (P : Nat)] S) = _
  rw [t_count 8 w h hP]
  exact fin_v0 w (pD_pure _)
theorem fn_fall {tk : Mon} (hm : ∀ m ∈ tk, m ≤ 2) (hs : tk.sum ≤ 8) (hP : tk.length ≤ 900) : Fn LC 11 [mD tk] (pD (fallM tk)) := fun S w => by
  show fin S.length (callN F (6 + 5) 11 [mD tk] S) = _
  rw [t_falling 6 w hm hs hP]
  exact fin_v0 w (pD_pure _)
theorem fn_wgt {tk : Mon} {r : Int} (hm : ∀ m ∈ tk, m ≤ 2) (hs : tk.sum ≤ 8) (hP : tk.length ≤ 900) (hr : r.natAbs < 2 ^ 40) : Fn LC 12 [mD tk, .int r] (pD (wgtM tk r)) := fun S w => by
  show fin S.length (callN F (5 + 6) 12 [mD tk, .int r] S) = _
  rw [t_weight 5 w hm hs hP hr]
  exact fin_v0 w (pD_pure _)
theorem fn_side {P c N d : Nat} {tk : Mon} {r : Int} {p : List Trm} (hp : Pl P c N d p) (To : Top tk r p) (hr : r ≠ 0) (hl : tk.length = P) (hm : ∀ m ∈ tk, m ≤ 2) (hs : tk.sum ≤ 8) (hP : P ≤ 900) (hb : r.natAbs < 2 ^ 40) : Fn LC 13 [pD p, .int (P : Nat)] (sdD tk r p) := fun S w => by
  show fin S.length (callN F (4 + 7) 13 [pD p, .int (P : Nat)] S) = _
  rw [t_side 4 hp To hr hl hm hs hP hb w]
  exact fin_v0 w (sdD_pure _ _ _)
theorem fn_side0 {P : Nat} : Fn LC 13 [.tup [], .int (P : Nat)] .non := fun S w => by
  show fin S.length (callN F (10 + 1) 13 [.tup [], .int (P : Nat)] S) = _
  rw [t_side0 10]
  exact fin_v0 w rfl
theorem shD_pure (P : Nat) : ∀ p : List Trm, (shD P p).pure = true
  | [] => rfl
  | [t] => by
    show (if t.1 = zs P then D.int t.2 else .non).pure = true
    split <;> rfl
  | _ :: _ :: _ => rfl
theorem fn_shift {i P c N d : Nat} {p : List Trm} (hp : Pl P c N d p) (h : i < P) (hP : P ≤ 900) (h1 : c + 1 ≤ 400) (h2 : N + 1 < 2 ^ 60) (h3 : d < 2 ^ 60) : Fn LC 14 [pD p, .int (i : Nat), .int (P : Nat)] (shD P (minusM p (eP i P))) := fun S w => by
  show fin S.length (callN F (6 + 5) 14 [pD p, .int (i : Nat), .int (P : Nat)] S) = _
  rw [t_shift 6 w hp h hP h1 h2 h3]
  exact fin_v0 w (shD_pure _ _)
theorem fn_worth {p : List Trm} {cs : Mon} (hc : ∀ c ∈ cs, c ≤ 1000) (hp : ∀ t ∈ p, ∀ a ∈ t.1, a ≤ 1000) : Fn LC 15 [pD p, mD cs] (.int (L (fun m => vM m cs) p)) := fun S w => by
  show fin S.length (callN F (10 + 1) 15 [pD p, mD cs] S) = _
  rw [t_worth 10 S hc hp]
  exact fin_v0 w rfl
theorem fn_at {p : List Trm} {cs : Mon} (hc : ∀ c ∈ cs, c ≤ 1000) (hp : ∀ t ∈ p, ∀ a ∈ t.1, a ≤ 1000) : Fn LC 20 [pD p, mD cs] (.int (L (fun m => vM m cs) p)) := fun S w => by
  show fin S.length (callN F (10 + 1) 20 [pD p, mD cs] S) = _
  rw [t_at 10 S hc hp]
  exact fin_v0 w rfl
theorem tk_LC : Tk LC := tk_F 10
theorem poly_LC {P : Nat} (hP : P ≤ 4) {S : Store} (h : BG S) : ∃ (p : List Trm) (c : Cell), Pl P 4 16 8 p ∧ OkB c ∧ fin S.length (LC 19 [.ref 2, .int (P : Nat)] S) = .ok (.v (pD p)) (S.set 2 c) := t_poly 9 hP h
theorem no_cnt {P : Nat} {S : Store} (w : WS S) : fin S.length (LC 5 [.int (P : Nat), .int (P : Nat)] S) = .exc ⟨"Nothing", []⟩ S := by
  show fin S.length (callN F (8 + 3) 5 [.int (P : Nat), .int (P : Nat)] S) = _
  rw [t_count_no 8 w (Nat.le_refl P)]
  have z := fin_exc (G := []) (x := "Nothing") w
  rwa [List.append_nil] at z
theorem no_plus {p : List Trm} {P : Nat} {S : Store} (w : WS S) (nd : Nd p) (hne : p ≠ []) (hl : p.length ≤ 300) (hp : ∀ t ∈ p, t.1.length = P) : fin S.length (LC 7 [pD p, pD (numM 1 (P + 1))] S) = .exc ⟨"Nothing", []⟩ S := by
  show fin S.length (callN F (8 + 3) 7 [pD p, pD (numM 1 (P + 1))] S) = _
  rw [num_ne (by decide), t_plus_no 8 w nd hne hl hp (by omega)]
  exact fin_exc w
theorem fn_wts {tk cs : Mon} {r : Int} {S : Store} (w : WS S) (ht : ∀ a ∈ tk, a ≤ 1000) (hc : ∀ c ∈ cs, c ≤ 1000) : fin S.length (LC 18 [.tup [.tup [mD tk, mD tk, .int r]], mD cs] S) = .ok (.l [.int (r * gW tk cs)]) S := by
  show fin S.length (callN F (10 + 1) 18 [.tup [.tup [mD tk, mD tk, .int r]], mD cs] S) = _
  rw [t_weights 10 S ht hc]
  exact fin_ref w rfl
end K64
-- L39
set_option Elab.async false
set_option linter.all false
set_option maxRecDepth 100000
set_option maxHeartbeats 400000
/-! L39: loops over four polynomials. -/
namespace K64
open PySem Ev
section
variable {C : Calls} {ρ : Ev.Env} {S : Store} {n : Nat}
theorem loopC4 {f : D → Store → R (Option D)} {a b c d a' b' c' d' : D} (h1 : f a S = .ok (some a') S) (h2 : f b S = .ok (some b') S) (h3 : f c S = .ok (some c') S) (h4 : f d S = .ok (some d') S) : loopC f [a, b, c, d] S = .ok [a', b', c', d'] S := by
  unfold loopC
  rw [h1, bind_ok]
  unfold loopC
  rw [h2, bind_ok]
  unfold loopC
  rw [h3, bind_ok]
  unfold loopC
  rw [h4, bind_ok]
  rfl
theorem evL_at {own : List Nat} {elt : Sm} {tg : Tg} {it : Sm} {conds : List Sm} {xs ys : List D} {o : Option Nat} (hi : it.I ρ S = .ok (xs, o) S) (hl : xs.length ≤ lim)
    (h : loopC (stepC own elt tg conds ρ) xs (lockO S o true) = .ok ys (lockO S o true)) (hk : lockO (lockO S o true) o false = S) : evL own elt tg it conds ρ S = .ok (.l ys) S := by
  unfold evL
  rw [hi, bind_ok]
  show (if xs.length ≤ lim then _ else _) = _
  rw [if_pos hl]
  show ((noX (loopC (stepC own elt tg conds ρ) xs (lockO S o true))).bind fun ys S2 => R.ok (T.l ys) (lockO S2 o false)) = _
  rw [h]
  show R.ok (T.l _) (lockO (lockO S o true) o false) = _
  rw [hk]
theorem step1 {w : Nat} {e : Ex} {x d : D} (hw : w < ρ.length) (h : (ev C e).E ((ρ.set w none).set w (some x)) S = .ok (.v d) S) : stepC [w] (ev C e) (.v w) [] ρ x S = .ok (some d) S := by
  unfold stepC
  have ea : asg (.v w) x (wipeE ρ [w]) = some ((ρ.set w none).set w (some x)) := by
    show (if w < (ρ.set w none).length then some ((ρ.set w none).set w (some x)) else none) = _
    rw [List.length_set, if_pos hw]
  rw [ea]
  show ((R.ok true S).bind fun k S3 => if k then ((ev C e).E ((ρ.set w none).set w (some x)) S3).bind fun t S4 => (mat t S4).bind fun d S5 => R.ok (some d) S5 else .ok none S3) = _
  rw [bind_ok, if_pos rfl, h]
  rfl
theorem lock_lst {k : Nat} {xs : List D} (h : S[k]? = some (.lst false xs)) : lockO S (some k) true = S.set k (.lst true xs) := by
  show setLock S k true = _
  unfold setLock
  rw [h]
theorem lockL_back {k : Nat} {xs : List D} (h : S[k]? = some (.lst false xs)) : lockO (lockO S (some k) true) (some k) false = S := by
  have hk : k < S.length := (List.getElem?_eq_some_iff.mp h).1
  rw [lock_lst h]
  show setLock (S.set k (.lst true xs)) k false = S
  unfold setLock
  rw [List.getElem?_set_self hk]
  show (S.set k (.lst true xs)).set k (.lst false xs) = S
  rw [List.set_set]
  apply List.ext_getElem?
  intro i
  by_cases e : k = i
  · subst e
    rw [List.getElem?_set_self hk, h]
  · rw [List.getElem?_set_ne e]
theorem ws_set {k : Nat} {c : Cell} (w : WS S) (hc : c.bnd S.length = true) : WS (S.set k c) := by
  unfold WS
  rw [List.length_set, List.all_eq_true]
  intro x hx
  rcases List.mem_or_eq_of_mem_set hx with z | z
  · exact List.all_eq_true.mp w x z
  · rw [z]
    exact hc
theorem ws_lock {k : Nat} {xs : List D} (w : WS S) (h : S[k]? = some (.lst false xs)) : WS (lockO S (some k) true) := by
  rw [lock_lst h]
  exact ws_set w (List.all_eq_true.mp w (.lst false xs) (List.mem_of_getElem? h))
theorem it_lst {i k : Nat} {xs : List D} (hi : ρ[i]? = some (some (.ref k))) (h : S[k]? = some (.lst false xs)) : (ev C (.v i)).I ρ S = .ok (xs, some k) S := by
  have e : itQ (.v (.ref k)) S = some (xs, some k) := by
    have e0 : itQ0 (.v (.ref k)) S = some (xs, some k) := by
      show (match asL (.v (.ref k)) S with | some xs => some (xs, if lockAt S k then none else some k) | none => none) = _
      have e1 : asL (.v (.ref k)) S = some xs := by
        show (match S[k]? with | some (.lst _ xs) => some xs | some (.ro xs) => some xs | _ => none) = _
        rw [h]
      have e2 : lockAt S k = false := by
        unfold lockAt
        rw [h]
      rw [e1, e2]
      rfl
    unfold itQ
    rw [e0]
  show ((ev C (.v i)).E ρ S).bind (fun t S1 => opt (itQ t S1) S1) = _
  rw [x_v hi, bind_ok, e]
  rfl
theorem eqvAll_int : ∀ ns : List Int, PyData.eqvAll (D.pys (ns.map D.int)) (D.pys (ns.map D.int)) = true
  | [] => by simp [D.pys, PyData.eqvAll]
  | i :: ns => by
    show PyData.eqvAll (.int i :: D.pys (ns.map D.int)) (.int i :: D.pys (ns.map D.int)) = true
    rw [PyData.eqvAll, eqvAll_int ns, PyData.eqv]
    simp
theorem pures_int : ∀ ns : List Int, D.pures (ns.map D.int) = true := fun ns => pures_map (f := D.int) (fun _ => rfl) ns
theorem ne_lst {xs : List D} (hp : D.pures xs = true) (hd : D.deps xs ≤ 50) (h : PyData.eqvAll (D.pys xs) (D.pys xs) = true) : cmp2 .ne (.l xs) (.l xs) S = some false := by
  have e : toPy (.l xs) S = some (.list (D.pys xs)) := by
    show (if D.pures xs then some (PyData.list (D.pys xs)) else none) = _
    rw [if_pos hp]
  show (eqT (.l xs) (.l xs) S).map (fun k => !k) = _
  unfold eqT
  rw [e]
  show (if min (PyData.list (D.pys xs)).depth (PyData.list (D.pys xs)).depth ≤ 60 then some (PyData.eqv (.list (D.pys xs)) (.list (D.pys xs))) else none).map (fun k => !k) = _
  have d : (PyData.list (D.pys xs)).depth ≤ 60 := by
    rw [PyData.depth, pys_dep]
    omega
  rw [if_pos (Nat.le_trans (Nat.min_le_left _ _) d), PyData.eqv, h]
  rfl
theorem b_neL {a b : Ex} {xs ys : List D} (ha : (ev C a).E ρ S = .ok (.l xs) S) (hb : (ev C b).E ρ S = .ok (.l ys) S) (e : xs = ys) (hp : D.pures xs = true) (hd : D.deps xs ≤ 50) (h : PyData.eqvAll (D.pys xs) (D.pys xs) = true) : (ev C (.cmp .ne a b)).B ρ S = .ok false S := by
  subst e
  rw [ev_cmpB, ha, bind_ok, hb, bind_ok, ne_lst hp hd h]
  rfl
theorem loopS_inv {I : Ev.Env → Store → Prop} {f : D → Ev.Env → Store → SR} : ∀ (xs : List D), (∀ x ∈ xs, ∀ ρ S, I ρ S → ∃ ρ' S', f x ρ S = .ok .nx ρ' S' ∧ I ρ' S') → ∀ ρ S, I ρ S → ∃ ρ' S', loopS f xs ρ S = .ok .nx ρ' S' ∧ I ρ' S'
  | [], _, ρ, S, h => ⟨ρ, S, rfl, h⟩
  | x :: xs, hf, ρ, S, h => by
    obtain ⟨ρ1, S1, e1, h1⟩ := hf x List.mem_cons_self ρ S h
    obtain ⟨ρ2, S2, e2, h2⟩ := loopS_inv xs (fun y hy => hf y (List.mem_cons_of_mem _ hy)) ρ1 S1 h1
    refine ⟨ρ2, S2, ?_, h2⟩
    rw [loopS_cons, e1, contS_nx]
    exact e2
/-- one turn of a for -/
def turnS (n : Nat) (C : Calls) (tg : Tg) (body : List St) : D → Ev.Env → Store → SR := fun x ρ1 S2 => match asg tg x ρ1 with
  | some ρ2 => svs n C body ρ2 S2
  | none => .bad
theorem turn_v {i : Nat} {body : List St} {x : D} (hi : i < ρ.length) : turnS n C (.v i) body x ρ S = svs n C body (ρ.set i (some x)) S := by
  show (match (if i < ρ.length then some (ρ.set i (some x)) else none) with | some ρ2 => svs n C body ρ2 S | none => .bad) = _
  rw [if_pos hi]
theorem s_for {tg : Tg} {it : Ex} {body : List St} {xs : List D} {o : Option Nat} {S1 S2 : Store} {ρ2 : Ev.Env} (hi : (ev C it).I ρ S = .ok (xs, o) S1) (h : loopS (turnS n C tg body) xs ρ (lockO S1 o true) = .ok .nx ρ2 S2) : sv n C (.for tg it body) ρ S = .ok .nx ρ2 (lockO S2 o false) := by
  have e : sv n C (.for tg it body) ρ S = thenS ((ev C it).I ρ S) ρ fun w S1 => unlockS w.2 (loopS (turnS n C tg body) w.1 ρ (lockO S1 w.2 true)) := rfl
  rw [e, hi, thenS_ok]
  show unlockS o (loopS (turnS n C tg body) xs ρ (lockO S1 o true)) = _
  rw [h]
  rfl
theorem x_l4 {a b c d : Ex} {x y z t : D} (ha : (ev C a).E ρ S = .ok (.v x) S) (hb : (ev C b).E ρ S = .ok (.v y) S) (hc : (ev C c).E ρ S = .ok (.v z) S) (hd : (ev C d).E ρ S = .ok (.v t) S) : (ev C (.lst [a, b, c, d])).E ρ S = .ok (.l [x, y, z, t]) S := by
  rw [ev_lst, evs_cons, evs_cons, evs_cons, evs_cons, evs_nil, evM_cons', ha, bind_ok, mat_v, bind_ok, evM_cons', hb, bind_ok, mat_v, bind_ok, evM_cons', hc, bind_ok, mat_v, bind_ok, evM_cons', hd, bind_ok, mat_v, bind_ok, evM_nil, bind_ok, bind_ok, bind_ok, bind_ok, bind_ok, if_pos (show [x, y, z, t].length ≤ lim from (show 4 ≤ lim by decide))]
theorem s_asgL {i : Nat} {e : Ex} {xs : List D} (hi : i < ρ.length) (h : (ev C e).E ρ S = .ok (.l xs) S) : sv n C (.asg (.v i) e) ρ S = .ok .nx (ρ.set i (some (.ref S.length))) (S ++ [Cell.lst false xs]) := by
  rw [sv_asg, h, bind_ok, mat_l, thenS_ok]
  show (match (if i < ρ.length then some (ρ.set i (some (.ref S.length))) else none) with | some ρ' => SR.ok .nx ρ' (S ++ [Cell.lst false xs]) | none => .bad) = _
  rw [if_pos hi]
theorem x_mul {a b : Ex} {i j : Int} (ha : (ev C a).E ρ S = .ok (.v (.int i)) S) (hb : (ev C b).E ρ S = .ok (.v (.int j)) S) (h : i.natAbs < 2 ^ 64) : (ev C (.bin .mul a b)).E ρ S = .ok (.v (.int (i * j))) S := by
  rw [ev_bin, ha, bind_ok, hb, bind_ok]
  show opt ((if mulOk i j then some (i * j) else none).map fun k => T.v (.int k)) S = _
  rw [if_pos (mulOk_of h)]
  rfl
theorem x_add {a b : Ex} {i j : Int} {S1 S2 : Store} (ha : (ev C a).E ρ S = .ok (.v (.int i)) S1) (hb : (ev C b).E ρ S1 = .ok (.v (.int j)) S2) : (ev C (.bin .add a b)).E ρ S = .ok (.v (.int (i + j))) S2 := by
  rw [ev_bin, ha, bind_ok, hb, bind_ok]
  rfl
theorem x_sub {a b : Ex} {i j : Int} {S1 S2 : Store} (ha : (ev C a).E ρ S = .ok (.v (.int i)) S1) (hb : (ev C b).E ρ S1 = .ok (.v (.int j)) S2) : (ev C (.bin .sub a b)).E ρ S = .ok (.v (.int (i - j))) S2 := by
  rw [ev_bin, ha, bind_ok, hb, bind_ok]
  rfl
theorem x_neg {a : Ex} {i : Int} (ha : (ev C a).E ρ S = .ok (.v (.int i)) S) : (ev C (.neg a)).E ρ S = .ok (.v (.int (-i))) S := by
  rw [ev_neg, ha, bind_ok]
end
end K64
-- L40
set_option Elab.async false
set_option linter.all false
set_option maxRecDepth 100000
set_option maxHeartbeats 400000
/-! L40: the loop over counts. -/
namespace K64
open PySem Ev
def told4 (p q : List Trm) : List D := [pD (plusM p q), pD (minusM p q), pD (timesM p q), pD (negM p)]
/-- what holds behind the first statements of a lap -/
structure Lp (ρ : Ev.Env) (S : Store) (P : Nat) (p q : List Trm) (k : Nat) : Prop where
  len : ρ.length = 20
  h1 : ρ[1]? = some (some (.ref 2))
  h3 : ρ[3]? = some (some (.int (P : Nat)))
  h4 : ρ[4]? = some (some (pD p))
  h5 : ρ[5]? = some (some (pD q))
  h6 : ρ[6]? = some (some (.ref k))
  bg : BG S
  at_ : S[k]? = some (.lst false (told4 p q))
  k2 : 2 ≠ k
theorem Lp.set {ρ : Ev.Env} {S : Store} {P k : Nat} {p q : List Trm} (h : Lp ρ S P p q k) {j : Nat} (hj : 6 < j) (x : Option D) : Lp (ρ.set j x) S P p q k where
  len := by rw [List.length_set, h.len]
  h1 := by rw [List.getElem?_set_ne (by omega)]; exact h.h1
  h3 := by rw [List.getElem?_set_ne (by omega)]; exact h.h3
  h4 := by rw [List.getElem?_set_ne (by omega)]; exact h.h4
  h5 := by rw [List.getElem?_set_ne (by omega)]; exact h.h5
  h6 := by rw [List.getElem?_set_ne (by omega)]; exact h.h6
  bg := h.bg
  at_ := h.at_
  k2 := h.k2
theorem Lp.st {ρ : Ev.Env} {S : Store} {P k : Nat} {p q : List Trm} (h : Lp ρ S P p q k) {c : Cell} (hc : OkB c) : Lp ρ (S.set 2 c) P p q k where
  len := h.len
  h1 := h.h1
  h3 := h.h3
  h4 := h.h4
  h5 := h.h5
  h6 := h.h6
  bg := h.bg.set hc
  at_ := by rw [List.getElem?_set_ne h.k2]; exact h.at_
  k2 := h.k2
theorem get_set {ρ : Ev.Env} {i : Nat} {x : Option D} (h : i < ρ.length) : (ρ.set i x)[i]? = some x := List.getElem?_set_self h
theorem get_ne {ρ : Ev.Env} {i j : Nat} {x : Option D} (h : i ≠ j) : (ρ.set i x)[j]? = ρ[j]? := List.getElem?_set_ne h
theorem mem_sum {a : Nat} : ∀ {m : Mon}, a ∈ m → a ≤ m.sum
  | b :: m, h => by
    rw [List.sum_cons]
    rcases List.mem_cons.mp h with z | z
    · omega
    · have := mem_sum z
      omega
theorem Pl.exps {P c N d : Nat} {p : List Trm} (h : Pl P c N d p) (hd : d ≤ 1000) : ∀ t ∈ p, ∀ a ∈ t.1, a ≤ 1000 := fun t ht a ha => Nat.le_trans (mem_sum ha) (Nat.le_trans (h.dg t ht) hd)
/-! ### how great a worth is -/
theorem vM_le {b : Nat} (hb : 1 ≤ b) : ∀ m cs : Mon, (∀ c ∈ cs, c ≤ b) → (vM m cs).natAbs ≤ b ^ m.sum
  | [], cs, _ => by
    rw [show vM [] cs = 1 by unfold vM; rfl]
    exact Nat.le_refl _
  | a :: m, [], _ => by
    rw [show vM (a :: m) [] = 1 by unfold vM; rfl]
    exact Nat.pow_pos hb
  | a :: m, c :: cs, h => by
    have h1 := vM_le hb m cs fun x hx => h x (List.mem_cons_of_mem _ hx)
    have h2 : ((c : Int) ^ a).natAbs ≤ b ^ a := by
      rw [Int.natAbs_pow, Int.natAbs_natCast]
      exact Nat.pow_le_pow_left (h c List.mem_cons_self) a
    show ((c : Int) ^ a * vM m cs).natAbs ≤ b ^ (a :: m).sum
    rw [Int.natAbs_mul, List.sum_cons, Nat.pow_add]
    exact Nat.mul_le_mul h2 h1
theorem L_le {φ : Mon → Int} {B : Nat} : ∀ p : List Trm, (∀ t ∈ p, (φ t.1).natAbs ≤ B) → (L φ p).natAbs ≤ nrm p * B
  | [], _ => Nat.zero_le _
  | t :: p, h => by
    have h1 := L_le p fun s hs => h s (List.mem_cons_of_mem _ hs)
    have h2 := h t List.mem_cons_self
    show (t.2 * φ t.1 + L φ p).natAbs ≤ (t.2.natAbs + nrm p) * B
    have h3 := Int.natAbs_add_le (t.2 * φ t.1) (L φ p)
    rw [Int.natAbs_mul] at h3
    have h4 := Nat.mul_le_mul_left t.2.natAbs h2
    rw [Nat.add_mul]
    omega
theorem worth_le {P c N d b : Nat} {p : List Trm} {cs : Mon} (hp : Pl P c N d p) (hb : 1 ≤ b) (hc : ∀ x ∈ cs, x ≤ b) : (L (fun m => vM m cs) p).natAbs ≤ N * b ^ d :=
  Nat.le_trans (L_le p fun t ht => Nat.le_trans (vM_le hb t.1 cs hc) (Nat.pow_le_pow_right hb (hp.dg t ht))) (Nat.mul_le_mul_right _ hp.nm)
abbrev cRow (M : Int) : Ex := Ex.bi Bi.tuple [Ex.lc [15] (Ex.call 17 [Ex.v 1, Ex.c (D.int M)]) (Tg.v 15) (Ex.bi Bi.range [Ex.v 3]) []]
abbrev neA : Ex := Ex.cmp Cm.ne (Ex.lc [11] (Ex.call 15 [Ex.v 11, Ex.v 8]) (Tg.v 11) (Ex.v 6) []) (Ex.lst [Ex.bin Op2.add (Ex.v 9) (Ex.v 10), Ex.bin Op2.sub (Ex.v 9) (Ex.v 10), Ex.bin Op2.mul (Ex.v 9) (Ex.v 10), (Ex.v 9).neg])
abbrev B4 : List St := [St.asg (Tg.v 8) (cRow 6), St.par 9 10 (Ex.call 20 [Ex.v 4, Ex.v 8]) (Ex.call 20 [Ex.v 5, Ex.v 8]), St.ite (Ex.or [neA, Ex.cmp Cm.ne (Ex.call 15 [Ex.v 4, Ex.v 8]) (Ex.v 9)]) [St.ret (Ex.c (D.bl false))] []]
theorem told_ev {ρ : Ev.Env} {S : Store} {P k : Nat} {p q : List Trm} {cs : Mon} (h : Lp ρ S P p q k) (hP : P ≤ 4) (hp : Pl P 4 16 8 p) (hq : Pl P 4 16 8 q) (hc : cs.length = P) (hc1 : ∀ c ∈ cs, c ≤ 1000) (h8 : ρ[8]? = some (some (mD cs))) :
    (ev LC (Ex.lc [11] (Ex.call 15 [Ex.v 11, Ex.v 8]) (Tg.v 11) (Ex.v 6) [])).E ρ S = .ok (.l ([L (fun m => vM m cs) p + L (fun m => vM m cs) q, L (fun m => vM m cs) p - L (fun m => vM m cs) q, L (fun m => vM m cs) p * L (fun m => vM m cs) q, -L (fun m => vM m cs) p].map D.int)) S := by
  have w := ws_lock h.bg.w h.at_
  have one : ∀ (x : List Trm) (i : Int), (∀ t ∈ x, ∀ a ∈ t.1, a ≤ 1000) → L (fun m => vM m cs) x = i → stepC [11] (ev LC (Ex.call 15 [Ex.v 11, Ex.v 8])) (.v 11) [] ρ (pD x) (lockO S (some k) true) = .ok (some (.int i)) (lockO S (some k) true) := fun x i hx e => by
    refine step1 (by rw [h.len]; decide) ?_
    refine x_2 w (x_v (get_set (by rw [List.length_set, h.len]; decide))) (x_v (by rw [get_ne (by decide), get_ne (by decide)]; exact h8)) ?_
    rw [← e]
    exact fn_worth hc1 hx
  have pp := plus_Pl hp hq.len hq.ct hq.nm hq.dg
  have pm := minus_Pl hp hq
  have pt := times_Pl hp hq
  have pn := neg_Pl hp
  rw [ev_lc]
  exact evL_at (it_lst h.h6 h.at_) (show 4 ≤ lim by decide) (loopC4
    (one _ _ (pp.exps (by decide)) (L_plus _ hp.can.nd))
    (one _ _ (pm.exps (by decide)) (L_minus _ hp.can.nd))
    (one _ _ (pt.exps (by decide)) (worth_times hp hq hc))
    (one _ _ (pn.exps (by decide)) (L_neg _ _))) (lockL_back h.at_)
theorem turn4 {ρ : Ev.Env} {S : Store} {P k : Nat} {p q : List Trm} (h : Lp ρ S P p q k) (hP : P ≤ 4) (hp : Pl P 4 16 8 p) (hq : Pl P 4 16 8 q) (x : D) :
    ∃ ρ' S', turnS 11 LC (.v 7) B4 x ρ S = .ok .nx ρ' S' ∧ Lp ρ' S' P p q k := by
  rw [turn_v (by rw [h.len]; decide)]
  have g1 := h.set (j := 7) (by decide) (some x)
  obtain ⟨cs, c, c1, c2, c3, e1⟩ := row_ev (M := 6) tk_LC (w := 15) g1.h1 g1.h3 (by decide) (by rw [g1.len]; decide) (by decide) (by decide) (by omega) g1.bg
  have c4 : ∀ a ∈ cs, a ≤ 1000 := fun a ha => Nat.le_trans (Nat.le_of_lt (c2 a ha)) (by decide)
  have g2 := (g1.set (j := 8) (by decide) (some (mD cs))).st c3
  have k8 : ((ρ.set 7 (some x)).set 8 (some (mD cs)))[8]? = some (some (mD cs)) := get_set (by rw [g1.len]; decide)
  have s2 := s_par (n := 11) (i := 9) (j := 10) (by rw [g2.len]; decide) (by rw [g2.len]; decide) (x_2 g2.bg.w (x_v g2.h4) (x_v k8) (fn_at c4 (hp.exps (by decide)))) (x_2 g2.bg.w (x_v g2.h5) (x_v k8) (fn_at c4 (hq.exps (by decide))))
  have g3 := (g2.set (j := 9) (by decide) (some (.int (L (fun m => vM m cs) p)))).set (j := 10) (by decide) (some (.int (L (fun m => vM m cs) q)))
  refine ⟨_, _, ?_, g3⟩
  have k8' : ((((ρ.set 7 (some x)).set 8 (some (mD cs))).set 9 (some (.int (L (fun m => vM m cs) p)))).set 10 (some (.int (L (fun m => vM m cs) q))))[8]? = some (some (mD cs)) := by
    rw [get_ne (by decide), get_ne (by decide)]
    exact k8
  have k9 : ((((ρ.set 7 (some x)).set 8 (some (mD cs))).set 9 (some (.int (L (fun m => vM m cs) p)))).set 10 (some (.int (L (fun m => vM m cs) q))))[9]? = some (some (.int (L (fun m => vM m cs) p))) := by
    rw [get_ne (by decide)]
    exact get_set (by rw [g2.len]; decide)
  have k10 : ((((ρ.set 7 (some x)).set 8 (some (mD cs))).set 9 (some (.int (L (fun m => vM m cs) p)))).set 10 (some (.int (L (fun m => vM m cs) q))))[10]? = some (some (.int (L (fun m => vM m cs) q))) := get_set (by rw [List.length_set, g2.len]; decide)
  have wl := worth_le (b := 5) hp (by decide) (fun a ha => Nat.le_of_lt_succ (c2 a ha))
  have b1 := b_neL (told_ev g3 hP hp hq c1 c4 k8') (x_l4 (x_add (x_v k9) (x_v k10)) (x_sub (x_v k9) (x_v k10)) (x_mul (x_v k9) (x_v k10) (Nat.lt_of_le_of_lt wl (by decide))) (x_neg (x_v k9))) rfl (pures_int _) (by show 0 ≤ 50; decide) (eqvAll_int _)
  have b2 := b_neI (x_2 g3.bg.w (x_v g3.h4) (x_v k8') (fn_worth c4 (hp.exps (by decide)))) (x_v k9) rfl
  exact (s_step (s_asg (by rw [g1.len]; decide) e1)).trans ((s_step s2).trans ((s_step (s_no (b_or2 b1 b2))).trans svs_nil))
theorem loop4 {ρ : Ev.Env} {S : Store} {P k : Nat} {p q : List Trm} (h : Lp ρ S P p q k) (hP : P ≤ 4) (hp : Pl P 4 16 8 p) (hq : Pl P 4 16 8 q) :
    ∃ ρ' S', sv 11 LC (.for (.v 7) (.bi .range [.c (.int 4)]) B4) ρ S = .ok .nx ρ' S' ∧ Lp ρ' S' P p q k := by
  obtain ⟨ρ', S', e, h'⟩ := loopS_inv (I := fun ρ S => Lp ρ S P p q k) (f := turnS 11 LC (.v 7) B4) (intsFrom 0 4) (fun x _ ρ S h => turn4 h hP hp hq x) ρ S h
  refine ⟨ρ', S', ?_, h'⟩
  have it : (ev LC (.bi .range [.c (.int 4)])).I ρ S = .ok (intsFrom 0 4, none) S := rfl
  exact s_for it e
end K64
-- L41
set_option Elab.async false
set_option linter.all false
set_option maxRecDepth 100000
set_option maxHeartbeats 400000
/-! L41: the loop over what is told. -/
namespace K64
open PySem Ev
section
variable {C : Calls} {ρ : Ev.Env} {S : Store}
theorem x_list {i : Nat} {x : List Trm} (h : ρ[i]? = some (some (pD x))) : (ev C (.bi .list [.v i])).E ρ S = .ok (.l (x.map tD)) S := by
  rw [ev_bi, evs_cons, evs_nil, evTs_cons, x_v h, bind_ok, evTs_nil, bind_ok, bind_ok]
  rfl
theorem x_sorted {i : Nat} {x : List Trm} (h : ρ[i]? = some (some (pD x))) (hs : Srt x) (hl : x.length ≤ lim) : (ev C (.bi .sorted [.v i])).E ρ S = .ok (.l (x.map tD)) S := by
  rw [ev_bi, evs_cons, evs_nil, evTs_cons, x_v h, bind_ok, evTs_nil, bind_ok, bind_ok]
  have e : biF .sorted [.v (pD x)] S = some (.l (x.map tD)) := by
    show (if sortable (x.map tD) then some (T.l (sortD (x.map tD))) else none) = _
    rw [if_pos (sortable_pD _ hl), srt_map, srt_id x hs]
  rw [e]
  rfl
theorem x_lenD {i : Nat} {x : List Trm} (h : ρ[i]? = some (some (pD x))) (hn : Nd x) (hl : x.length ≤ lim) : (ev C (.bi .len [.bi .dict [.v i]])).E ρ S = .ok (.v (.int (x.length : Nat))) S := by
  have e : (ev C (.bi .dict [.v i])).E ρ S = .ok (.t (kD x)) S := by
    rw [ev_bi, evs_cons, evs_nil, evTs_cons, x_v h, bind_ok, evTs_nil, bind_ok, bind_ok, dict_pD hn hl]
    rfl
  rw [ev_bi, evs_cons, evs_nil, evTs_cons, e, bind_ok, evTs_nil, bind_ok, bind_ok]
  show R.ok (T.v (.int ((kD x).length : Nat))) S = _
  have : (kD x).length = x.length := List.length_map _
  rw [this]
theorem x_len {i : Nat} {x : List Trm} (h : ρ[i]? = some (some (pD x))) : (ev C (.bi .len [.v i])).E ρ S = .ok (.v (.int (x.length : Nat))) S := by
  rw [ev_bi, evs_cons, evs_nil, evTs_cons, x_v h, bind_ok, evTs_nil, bind_ok, bind_ok]
  show R.ok (T.v (.int ((x.map tD).length : Nat))) S = _
  rw [List.length_map]
abbrev badC : Ex := Ex.lc [18, 19] (Ex.c (D.int 1)) (Tg.tup [Tg.v 18, Tg.v 19]) (Ex.v 11) [Ex.or [Ex.cmp Cm.eq (Ex.v 19) (Ex.c (D.int 0)), Ex.cmp Cm.ne (Ex.bi Bi.len [Ex.v 18]) (Ex.v 3)]]
theorem x_bad {x : List Trm} {P : Nat} (hl : ρ.length = 20) (h3 : ρ[3]? = some (some (.int (P : Nat)))) (h : ρ[11]? = some (some (pD x))) (hx : ∀ t ∈ x, t.1.length = P) (hz : ∀ t ∈ x, t.2 ≠ 0) (hn : x.length ≤ lim) : (ev C badC).E ρ S = .ok (.l []) S := by
  have it : (ev C (Ex.v 11)).I ρ S = .ok (x.map tD, none) S := by
    show ((ev C (.v 11)).E ρ S).bind (fun t S1 => opt (itQ t S1) S1) = _
    rw [x_v h]
    rfl
  rw [ev_lc, evL_ok (g := fun _ => none) it (by rw [List.length_map]; exact hn) (fun y hy => ?_) rfl]
  · congr 2
    exact List.filterMap_eq_nil_iff.mpr fun _ _ => rfl
  · obtain ⟨t, ht, rfl⟩ := List.mem_map.mp hy
    have ea : asg (.tup [.v 18, .v 19]) (tD t) (wipeE ρ [18, 19]) = some ((((ρ.set 19 none).set 18 none).set 18 (some (mD t.1))).set 19 (some (.int t.2))) := by
      show (if 18 < ((ρ.set 19 none).set 18 none).length then some (((ρ.set 19 none).set 18 none).set 18 (some (mD t.1))) else none).bind (fun ρ' => (if 19 < ρ'.length then some (ρ'.set 19 (some (.int t.2))) else none).bind fun ρ' => some ρ') = _
      rw [if_pos (by rw [List.length_set, List.length_set, hl]; decide)]
      show (if 19 < (((ρ.set 19 none).set 18 none).set 18 (some (mD t.1))).length then some ((((ρ.set 19 none).set 18 none).set 18 (some (mD t.1))).set 19 (some (.int t.2))) else none).bind (fun ρ' => some ρ') = _
      rw [if_pos (by rw [List.length_set, List.length_set, List.length_set, hl]; decide)]
      rfl
    unfold stepC
    rw [ea]
    have k19 : ((((ρ.set 19 none).set 18 none).set 18 (some (mD t.1))).set 19 (some (.int t.2)))[19]? = some (some (.int t.2)) := get_set (by rw [List.length_set, List.length_set, List.length_set, hl]; decide)
    have k18 : ((((ρ.set 19 none).set 18 none).set 18 (some (mD t.1))).set 19 (some (.int t.2)))[18]? = some (some (mD t.1)) := by
      rw [get_ne (by decide)]
      exact get_set (by rw [List.length_set, List.length_set, hl]; decide)
    have k3 : ((((ρ.set 19 none).set 18 none).set 18 (some (mD t.1))).set 19 (some (.int t.2)))[3]? = some (some (.int (P : Nat))) := by
      rw [get_ne (by decide), get_ne (by decide), get_ne (by decide), get_ne (by decide)]
      exact h3
    generalize ((((ρ.set 19 none).set 18 none).set 18 (some (mD t.1))).set 19 (some (.int t.2))) = σ at k19 k18 k3
    have b1 : (ev C (Ex.cmp Cm.eq (Ex.v 19) (Ex.c (D.int 0)))).B σ S = .ok false S := by
      rw [ev_cmpB, x_v k19, bind_ok, ev_c, bind_ok, eq_int, decide_eq_false (hz t ht)]
      rfl
    have l18 : (ev C (Ex.bi Bi.len [Ex.v 18])).E σ S = .ok (.v (.int (P : Nat))) S := by
      rw [ev_bi, evs_cons, evs_nil, evTs_cons, x_v k18, bind_ok, evTs_nil, bind_ok, bind_ok]
      show R.ok (T.v (.int ((t.1.map nD).length : Nat))) S = _
      rw [List.length_map, hx t ht]
    have b2 := b_neI l18 (x_v k3) rfl
    have bo := b_or2 b1 b2
    show ((((ev C (Ex.or [Ex.cmp Cm.eq (Ex.v 19) (Ex.c (D.int 0)), Ex.cmp Cm.ne (Ex.bi Bi.len [Ex.v 18]) (Ex.v 3)])).B σ S).bind fun k S1 => if k then evC [] σ S1 else R.ok false S1).bind fun k S3 => if k then ((ev C (Ex.c (D.int 1))).E σ S3).bind fun t S4 => (mat t S4).bind fun d S5 => R.ok (some d) S5 else .ok none S3) = _
    rw [bo]
    rfl
end
abbrev B5 : List St := [St.ite (Ex.or [Ex.cmp Cm.ne (Ex.bi Bi.list [Ex.v 11]) (Ex.bi Bi.sorted [Ex.v 11]), Ex.cmp Cm.ne badC (Ex.lst []), Ex.cmp Cm.lt (Ex.bi Bi.len [Ex.bi Bi.dict [Ex.v 11]]) (Ex.bi Bi.len [Ex.v 11])]) [St.ret (Ex.c (D.bl false))] []]
theorem turn5 {C : Calls} {n : Nat} {ρ : Ev.Env} {S : Store} {x : List Trm} {P c N d : Nat} (hl : ρ.length = 20) (h3 : ρ[3]? = some (some (.int (P : Nat)))) (hx : Pl P c N d x) (hc : c ≤ lim) :
    turnS n C (.v 11) B5 (pD x) ρ S = .ok .nx (ρ.set 11 (some (pD x))) S := by
  rw [turn_v (by rw [hl]; decide)]
  have k11 : (ρ.set 11 (some (pD x)))[11]? = some (some (pD x)) := get_set (by rw [hl]; decide)
  have k3 : (ρ.set 11 (some (pD x)))[3]? = some (some (.int (P : Nat))) := by
    rw [get_ne (by decide)]
    exact h3
  have hlim : x.length ≤ lim := Nat.le_trans hx.ct hc
  have e5 : PyData.eqvAll (D.pys (x.map tD)) (D.pys (x.map tD)) = true := by
    rw [eqv_p]
    exact decide_eq_true rfl
  have b1 := b_neL (C := C) (S := S) (x_list k11) (x_sorted k11 hx.can.s hlim) rfl (pD_pure x) (Nat.le_trans (deps_map (f := tD) tD_dep x) (by decide)) e5
  have b2 := b_neL (C := C) (S := S) (ys := []) (x_bad (by rw [List.length_set]; exact hl) k3 k11 hx.len hx.can.nz hlim) (b := Ex.lst []) rfl rfl rfl (by show 0 ≤ 50; decide) (by simp [D.pys, PyData.eqvAll])
  have b3 : (ev C (Ex.cmp Cm.lt (Ex.bi Bi.len [Ex.bi Bi.dict [Ex.v 11]]) (Ex.bi Bi.len [Ex.v 11]))).B (ρ.set 11 (some (pD x))) S = .ok false S := by
    rw [ev_cmpB, x_lenD k11 hx.can.nd hlim, bind_ok, x_len k11, bind_ok]
    show R.ok (decide ((x.length : Int) < (x.length : Int))) S = _
    rw [decide_eq_false (by omega)]
  exact (s_step (s_no (b_or3 b1 b2 b3))).trans svs_nil
theorem loop5 {ρ : Ev.Env} {S : Store} {P k : Nat} {p q : List Trm} (h : Lp ρ S P p q k) (hP : P ≤ 4) (hp : Pl P 4 16 8 p) (hq : Pl P 4 16 8 q) :
    ∃ ρ', sv 11 LC (.for (.v 11) (.v 6) B5) ρ S = .ok .nx ρ' S ∧ Lp ρ' S P p q k := by
  have pp := plus_Pl hp hq.len hq.ct hq.nm hq.dg
  have pm := minus_Pl hp hq
  have pt := times_Pl hp hq
  have pn := neg_Pl hp
  have one : ∀ (x : List Trm) (c N d : Nat), Pl P c N d x → c ≤ lim → ∀ (ρ : Ev.Env) (S' : Store), (S' = lockO S (some k) true ∧ Lp ρ S P p q k) → ∃ ρ' S'', turnS 11 LC (.v 11) B5 (pD x) ρ S' = .ok .nx ρ' S'' ∧ (S'' = lockO S (some k) true ∧ Lp ρ' S P p q k) := fun x c N d hx hc ρ S' h =>
    ⟨_, S', turn5 h.2.len h.2.h3 hx hc, h.1, h.2.set (by decide) _⟩
  obtain ⟨ρ', S', e, e2, h'⟩ := loopS_inv (I := fun ρ S' => S' = lockO S (some k) true ∧ Lp ρ S P p q k) (f := turnS 11 LC (.v 11) B5) (told4 p q) (fun x hx => by
    unfold told4 at hx
    simp at hx
    rcases hx with rfl | rfl | rfl | rfl
    · exact one _ _ _ _ pp (by decide)
    · exact one _ _ _ _ pm (by decide)
    · exact one _ _ _ _ pt (by decide)
    · exact one _ _ _ _ pn (by decide)) ρ (lockO S (some k) true) ⟨rfl, h⟩
  refine ⟨ρ', ?_, h'⟩
  have z := s_for (n := 11) (it_lst (C := LC) h.h6 h.at_) e
  rw [e2, lockL_back h.at_] at z
  exact z
end K64
-- L42
set_option Elab.async false
set_option linter.all false
set_option maxRecDepth 100000
set_option maxHeartbeats 400000
/-! L42: the tests of a lap. -/
namespace K64
open PySem Ev
section
variable {ρ : Ev.Env} {S : Store}
theorem x_2s {C : Calls} {f : Nat} {a b : Ex} {da db d : D} {S' : Store} (ha : (ev C a).E ρ S = .ok (.v da) S) (hb : (ev C b).E ρ S = .ok (.v db) S) (h : fin S.length (C f [da, db] S) = .ok (.v d) S') : (ev C (.call f [a, b])).E ρ S = .ok (.v d) S' := by
  rw [ev_call, evs_cons, evs_cons, evs_nil, evM_cons', ha, bind_ok, mat_v, bind_ok, evM_cons', hb, bind_ok, mat_v, bind_ok, evM_nil, bind_ok, bind_ok, bind_ok]
  exact h
theorem x_2r {C : Calls} {f : Nat} {a b : Ex} {da db : D} {r : R T} (ha : (ev C a).E ρ S = .ok (.v da) S) (hb : (ev C b).E ρ S = .ok (.v db) S) (h : fin S.length (C f [da, db] S) = r) : (ev C (.call f [a, b])).E ρ S = r := by
  rw [ev_call, evs_cons, evs_cons, evs_nil, evM_cons', ha, bind_ok, mat_v, bind_ok, evM_cons', hb, bind_ok, mat_v, bind_ok, evM_nil, bind_ok, bind_ok, bind_ok]
  exact h
theorem tk_ev2 {C : Calls} (hC : Tk C) {b p M : Nat} (hb : ρ[b]? = some (some (.ref 2))) (hp : ρ[p]? = some (some (.int (M : Nat)))) (hM : 0 < M) (hM9 : M ≤ 9) (h : BG S) :
    ∃ (v : Nat) (c : Cell), v < M ∧ OkB c ∧ (ev C (.call 17 [.v b, .v p])).E ρ S = .ok (.v (nD v)) (S.set 2 c) := by
  obtain ⟨v, c, hv, hc, e⟩ := hC S M h hM hM9
  exact ⟨v, c, hv, hc, x_2s (x_v hb) (x_v hp) e⟩
theorem ne_tD (t : Trm) : cmp2 .ne (.v (tD t)) (.v (tD t)) S = some false := by
  have e : toPy (.v (tD t)) S = some (tD t).py := by
    show (if (tD t).pure then some (tD t).py else none) = _
    rw [if_pos (tD_pure t)]
  show (eqT (.v (tD t)) (.v (tD t)) S).map (fun k => !k) = _
  unfold eqT
  rw [e]
  show (if min (tD t).py.depth (tD t).py.depth ≤ 60 then some (PyData.eqv (tD t).py (tD t).py) else none).map (fun k => !k) = _
  have d : (tD t).py.depth ≤ 60 := by
    rw [py_dep]
    exact Nat.le_trans (tD_dep t) (by decide)
  rw [if_pos (Nat.le_trans (Nat.min_le_left _ _) d), eqv_t, decide_eq_true rfl]
  rfl
theorem b_neT {C : Calls} {a b : Ex} {t s : Trm} (ha : (ev C a).E ρ S = .ok (.v (tD t)) S) (hb : (ev C b).E ρ S = .ok (.v (tD s)) S) (e : t = s) : (ev C (.cmp .ne a b)).B ρ S = .ok false S := by
  subst e
  rw [ev_cmpB, ha, bind_ok, hb, bind_ok, ne_tD]
  rfl
theorem b_noN0 {C : Calls} {a : Ex} {d : D} (ha : (ev C a).E ρ S = .ok (.v d) S) (hd : d = .non) : (ev C (.cmp .noN a (.c .non))).B ρ S = .ok false S := by
  subst hd
  rw [b_noN ha]
  rfl
variable {P : Nat} {p : List Trm}
theorem b6 (w : WS S) (hP : P ≤ 4) (h3 : ρ[3]? = some (some (.int (P : Nat)))) (h4 : ρ[4]? = some (some (pD p))) (hp : Pl P 4 16 8 p) :
    (ev LC (Ex.or [Ex.cmp Cm.ne (Ex.call 9 [Ex.v 4, Ex.v 4]) (Ex.tup []), Ex.cmp Cm.ne (Ex.call 7 [Ex.v 4, Ex.call 4 [Ex.c (D.int 0), Ex.v 3]]) (Ex.v 4), Ex.cmp Cm.ne (Ex.call 10 [Ex.v 4, Ex.call 4 [Ex.c (D.int 1), Ex.v 3]]) (Ex.v 4), Ex.cmp Cm.ne (Ex.call 8 [Ex.call 8 [Ex.v 4]]) (Ex.v 4)])).B ρ S = .ok false S := by
  have v4 : (ev LC (Ex.v 4)).E ρ S = .ok (.v (pD p)) S := x_v h4
  have v3 : (ev LC (Ex.v 3)).E ρ S = .ok (.v (.int (P : Nat))) S := x_v h3
  have t0 : (ev LC (Ex.tup [])).E ρ S = .ok (.v (pD [])) S := rfl
  have n0 := x_2 w (x_c (C := LC) (ρ := ρ) (S := S) (d := .int 0)) v3 (fn_num (i := 0) (P := P) (by decide) (by omega))
  have n1 := x_2 w (x_c (C := LC) (ρ := ρ) (S := S) (d := .int 1)) v3 (fn_num (i := 1) (P := P) (by decide) (by omega))
  have l4 := hp.ct
  have c1 := b_ne (x_2 w v4 v4 (fn_minus hp hp (by decide) (by decide) (by decide))) t0 (minus_self hp.can)
  have c2 := b_ne (x_2 w v4 n0 (fn_plus hp (num_Pl 0 P) (by decide) (by decide) (by decide))) v4 (plus_zero hp.can P)
  have c3 := b_ne (x_2 w v4 n1 (fn_times hp (num_Pl 1 P) (by omega) (by decide) (by decide) (by decide) (by decide))) v4 (times_one hp)
  have m4 : (4 : Nat) ≤ lim := by decide
  have c4 := b_ne (x_1 w (x_1 w v4 (fn_neg (by omega))) (fn_neg (by rw [show (negM p).length = p.length from List.length_map _]; omega))) v4 (neg_neg p)
  refine b_or fun e he => ?_
  simp at he
  rcases he with rfl | rfl | rfl | rfl <;> assumption
variable {tk : Mon} {r : Int}
theorem sd_wgt (hr : 1 ≤ r) : sdD tk r (wgtM tk r) = tD (tk, r) := by
  unfold sdD
  rw [if_neg (by omega), if_pos rfl]
  rfl
theorem b9 (w : WS S) (hP : P ≤ 4) (hl : tk.length = P) (hm : ∀ m ∈ tk, m ≤ 2) (hr : 1 ≤ r) (hr9 : r ≤ 9) (h3 : ρ[3]? = some (some (.int (P : Nat)))) (h12 : ρ[12]? = some (some (mD tk))) (h13 : ρ[13]? = some (some (.int r))) (h14 : ρ[14]? = some (some (pD (wgtM tk r)))) :
    (ev LC (Ex.or [Ex.cmp Cm.ne (Ex.call 13 [Ex.v 14, Ex.v 3]) (Ex.tup [Ex.v 12, Ex.v 13]), Ex.cmp Cm.ne (Ex.call 10 [Ex.call 11 [Ex.v 12], Ex.call 4 [Ex.v 13, Ex.v 3]]) (Ex.v 14), Ex.cmp Cm.noN (Ex.call 13 [Ex.tup [], Ex.v 3]) (Ex.c D.non)])).B ρ S = .ok false S := by
  subst hl
  have hs : tk.sum ≤ 8 := Nat.le_trans (sum_le tk hm) (by omega)
  have hw := wgt_Pl (r := r) hm hs (by omega)
  have hT := wgt_top (r := r) hm hs (by omega)
  have hb : r.natAbs < 2 ^ 40 := by omega
  have e13 := x_2 w (x_v h14) (x_v h3) (fn_side hw hT (by omega) rfl hm hs (by omega) hb)
  rw [sd_wgt hr] at e13
  have et : (ev LC (Ex.tup [Ex.v 12, Ex.v 13])).E ρ S = .ok (.v (tD (tk, r))) S := by
    rw [ev_tup, evs_cons, evs_cons, evs_nil, evM_cons', x_v h12, bind_ok, mat_v, bind_ok, evM_cons', x_v h13, bind_ok, mat_v, bind_ok, evM_nil, bind_ok, bind_ok, bind_ok]
    rfl
  have hf := fall_Pl tk hm hs (by omega)
  have hb8 : 2 ^ tk.sum ≤ 2 ^ 8 := Nat.pow_le_pow_right (by decide) hs
  have eN := x_2 w (x_v h13) (x_v h3) (fn_num (i := r) (P := tk.length) (by omega) (by omega))
  have hN : 2 ^ tk.sum * r.natAbs ≤ 2 ^ 8 * 9 := Nat.mul_le_mul hb8 (by omega)
  have eF := x_2 w (x_1 w (x_v h12) (fn_fall hm hs (by omega))) eN (fn_times hf (num_Pl r tk.length) (by omega) (by omega) (by omega) (by omega) (by omega))
  have e0 : (ev LC (Ex.tup [])).E ρ S = .ok (.v (.tup [])) S := rfl
  exact b_or3 (b_neT e13 et rfl) (b_ne eF (x_v h14) (wgt_comm hm hs (by omega))) (b_noN0 (x_2 w e0 (x_v h3) fn_side0) rfl)
theorem b11 {cs : Mon} (w : WS S) (hP : P ≤ 4) (hl : tk.length = P) (hm : ∀ m ∈ tk, m ≤ 2) (hr : 1 ≤ r) (hr9 : r ≤ 9) (hc : cs.length = P) (hc1 : ∀ c ∈ cs, c ≤ 1000) (h3 : ρ[3]? = some (some (.int (P : Nat)))) (h8 : ρ[8]? = some (some (mD cs))) (h12 : ρ[12]? = some (some (mD tk))) (h13 : ρ[13]? = some (some (.int r))) (h14 : ρ[14]? = some (some (pD (wgtM tk r)))) :
    (ev LC (Ex.or [Ex.cmp Cm.ne (Ex.call 15 [Ex.v 14, Ex.v 8]) ((Ex.call 18 [Ex.tup [Ex.tup [Ex.v 12, Ex.v 12, Ex.v 13]], Ex.v 8]).ix (Ex.c (D.int 0))), Ex.cmp Cm.noN (Ex.call 13 [Ex.call 8 [Ex.v 14], Ex.v 3]) (Ex.c D.non)])).B ρ S = .ok false S := by
  subst hl
  have hs : tk.sum ≤ 8 := Nat.le_trans (sum_le tk hm) (by omega)
  have hw := wgt_Pl (r := r) hm hs (by omega)
  have hT := wgt_top (r := r) hm hs (by omega)
  have e15 := x_2 w (x_v h14) (x_v h8) (fn_worth hc1 (hw.exps (by omega)))
  have et : (ev LC (Ex.tup [Ex.tup [Ex.v 12, Ex.v 12, Ex.v 13]])).E ρ S = .ok (.v (.tup [.tup [mD tk, mD tk, .int r]])) S := by
    have ei : (ev LC (Ex.tup [Ex.v 12, Ex.v 12, Ex.v 13])).E ρ S = .ok (.v (.tup [mD tk, mD tk, .int r])) S := by
      rw [ev_tup, evs_cons, evs_cons, evs_cons, evs_nil, evM_cons', x_v h12, bind_ok, mat_v, bind_ok, evM_cons', x_v h12, bind_ok, mat_v, bind_ok, evM_cons', x_v h13, bind_ok, mat_v, bind_ok, evM_nil, bind_ok, bind_ok, bind_ok, bind_ok]
      rfl
    rw [ev_tup, evs_cons, evs_nil, evM_cons', ei, bind_ok, mat_v, bind_ok, evM_nil, bind_ok, bind_ok]
    rfl
  have e18 : (ev LC ((Ex.call 18 [Ex.tup [Ex.tup [Ex.v 12, Ex.v 12, Ex.v 13]], Ex.v 8]).ix (Ex.c (D.int 0)))).E ρ S = .ok (.v (.int (r * gW tk cs))) S := by
    rw [ev_ix, x_2r et (x_v h8) (fn_wts w (fun a ha => Nat.le_trans (hm a ha) (by decide)) hc1), bind_ok]
    rfl
  have hb40 : (-r).natAbs < 2 ^ 40 := by omega
  have eneg := x_2 w (x_1 w (x_v h14) (fn_neg (Nat.le_trans hw.ct (Nat.le_trans (Nat.mul_le_mul_left 1 (Nat.pow_le_pow_right (by decide) hs)) (by decide))))) (x_v h3) (fn_side (neg_Pl hw) (top_neg hT) (by omega) rfl hm hs (by omega) hb40)
  refine b_or2 (b_neI e15 e18 ?_) (b_noN0 eneg ?_)
  · rw [wgt_worth hm hs (by omega) hc, gW_eq]
  · unfold sdD
    rw [if_pos (by omega)]
theorem b12 (w : WS S) (hP : P ≤ 4) (hl : tk.length = P) (hm : ∀ m ∈ tk, m ≤ 2) (hr : 1 ≤ r) (hr9 : r ≤ 9) (h3 : ρ[3]? = some (some (.int (P : Nat)))) (h12 : ρ[12]? = some (some (mD tk))) (h14 : ρ[14]? = some (some (pD (wgtM tk r)))) :
    (ev LC (Ex.and [Ex.cmp Cm.noN (Ex.call 13 [Ex.call 7 [Ex.v 14, Ex.call 4 [Ex.c (D.int 1), Ex.v 3]], Ex.v 3]) (Ex.c D.non), Ex.cmp Cm.gt (Ex.bi Bi.sum [Ex.v 12]) (Ex.c (D.int 0))])).B ρ S = .ok false S := by
  subst hl
  have hs : tk.sum ≤ 8 := Nat.le_trans (sum_le tk hm) (by omega)
  have hw := wgt_Pl (r := r) hm hs (by omega)
  have hT := wgt_top (r := r) hm hs (by omega)
  have v3 : (ev LC (Ex.v 3)).E ρ S = .ok (.v (.int (tk.length : Nat))) S := x_v h3
  have n1 := x_2 w (x_c (C := LC) (ρ := ρ) (S := S) (d := .int 1)) v3 (fn_num (i := 1) (P := tk.length) (by decide) (by omega))
  have hb8 : 2 ^ tk.sum ≤ 2 ^ 8 := Nat.pow_le_pow_right (by decide) hs
  have hN : r.natAbs * 2 ^ tk.sum ≤ 9 * 2 ^ 8 := Nat.mul_le_mul (by omega) hb8
  have np := num_Pl 1 tk.length
  have ep := x_2 w (x_v h14) n1 (fn_plus hw np (by omega) (by simp; omega) (by omega))
  have pp := plus_Pl hw np.len np.ct np.nm np.dg
  have tp := top_plus1 hw.can.nd hT
  have hr2 : ∀ (b : Prop) [Decidable b], (if b then r + 1 else r) ≠ 0 ∧ (if b then r + 1 else r).natAbs < 2 ^ 40 := fun b _ => by
    split <;> omega
  have es := x_2 w ep v3 (fn_side pp tp (hr2 _).1 rfl hm hs (by omega) (hr2 _).2)
  have e0 : biF .sum [.v (mD tk)] S = some (.v (.int (tk.sum : Nat))) := by
    show (intL (tk.map fun n => D.int (n : Nat))).map (fun ns => T.v (.int ns.sum)) = _
    rw [intL_map]
    show some (T.v (.int (tk.map fun (n : Nat) => (n : Int)).sum)) = _
    rw [sum_cast]
  have e1 : (ev LC (Ex.cmp Cm.gt (Ex.bi Bi.sum [Ex.v 12]) (Ex.c (D.int 0)))).B ρ S = .ok (decide ((0 : Int) < (tk.sum : Nat))) S := by
    rw [ev_cmpB, ev_bi, evs_cons, evs_nil, evTs_cons, x_v h12, bind_ok, evTs_nil, bind_ok, bind_ok, e0]
    rfl
  rw [ev_andB, evs_cons, evs_cons, evs_nil, evC_cons, b_noN es, bind_ok]
  by_cases h0 : tk.sum = 0
  · rw [evC_cons, e1, decide_eq_false (by omega)]
    cases (!(T.v (sdD tk (if tk = zs tk.length then r + 1 else r) (plusM (wgtM tk r) (numM 1 tk.length)))).isNon) <;> rfl
  · have hne : tk ≠ zs tk.length := fun e => h0 (by rw [e]; exact zs_sum _)
    rw [if_neg hne]
    have : sdD tk r (plusM (wgtM tk r) (numM 1 tk.length)) = .non := by
      unfold sdD
      rw [if_neg (by omega), if_neg (plus1_ne (tk := tk) (r := r) _ hw.can.nd _)]
    rw [this]
    rfl
theorem b15 {i : Nat} {s : Int} (w : WS S) (hP : P ≤ 4) (hi : i < P) (hs : s.natAbs ≤ 4) (h3 : ρ[3]? = some (some (.int (P : Nat)))) (h15 : ρ[15]? = some (some (.int (i : Nat)))) (h16 : ρ[16]? = some (some (.int s))) (h17 : ρ[17]? = some (some (pD (mvM i P s)))) :
    (ev LC (Ex.or [Ex.cmp Cm.ne (Ex.call 14 [Ex.v 17, Ex.v 15, Ex.v 3]) (Ex.v 16), Ex.cmp Cm.noN (Ex.call 14 [Ex.call 10 [Ex.v 17, Ex.v 17], Ex.v 15, Ex.v 3]) (Ex.c D.non)])).B ρ S = .ok false S := by
  have hv : Pl P 2 5 1 (mvM i P s) := (mv_Pl hi s).mono (by decide) (by omega) (by decide)
  have e1 := x_3 w (x_v h17) (x_v h15) (x_v h3) (fn_shift hv hi (by omega) (by decide) (by decide) (by decide))
  rw [mv_back hi, sh_num] at e1
  have e2 := x_3 w (x_2 w (x_v h17) (x_v h17) (fn_times hv hv (by omega) (by decide) (by decide) (by decide) (by decide))) (x_v h15) (x_v h3) (fn_shift (times_Pl hv hv) hi (by omega) (by decide) (by decide) (by decide))
  rw [mv_sq hi] at e2
  exact b_or2 (b_neI e1 (x_v h16) rfl) (b_noN0 e2 rfl)
theorem b16 (w : WS S) (h3 : ρ[3]? = some (some (.int (P : Nat)))) : (ev LC (Ex.isNo "Nothing" (Ex.call 5 [Ex.v 3, Ex.v 3])).not).B ρ S = .ok false S := b_isNo w (x_2r (x_v h3) (x_v h3) (no_cnt w))
theorem b17 (w : WS S) (hP : P ≤ 4) (hp : Pl P 4 16 8 p) (h3 : ρ[3]? = some (some (.int (P : Nat)))) (h4 : ρ[4]? = some (some (pD p))) :
    (ev LC (Ex.and [Ex.cmp Cm.ne (Ex.v 4) (Ex.tup []), (Ex.isNo "Nothing" (Ex.call 7 [Ex.v 4, Ex.call 4 [Ex.c (D.int 1), Ex.bin Op2.add (Ex.v 3) (Ex.c (D.int 1))]])).not])).B ρ S = .ok false S := by
  have b1 : (ev LC (Ex.cmp Cm.ne (Ex.v 4) (Ex.tup []))).B ρ S = .ok (!decide (p = [])) S := by
    rw [ev_cmpB, x_v h4, bind_ok]
    show opt (cmp2 .ne (.v (pD p)) (.v (pD [])) S) S = _
    rw [ne_pD]
    rfl
  rw [ev_andB, evs_cons, evs_cons, evs_nil, evC_cons, b1, bind_ok]
  by_cases h : p = []
  · rw [decide_eq_true h]
    rfl
  · rw [decide_eq_false h]
    have v3 : (ev LC (Ex.bin Op2.add (Ex.v 3) (Ex.c (D.int 1)))).E ρ S = .ok (.v (.int ((P + 1 : Nat) : Int))) S := by
      have z := x_add (x_v (C := LC) (S := S) h3) (x_c (C := LC) (ρ := ρ) (S := S) (d := .int 1))
      rw [z]
      congr 3
    have n1 := x_2 w (x_c (C := LC) (ρ := ρ) (S := S) (d := .int 1)) v3 (fn_num (i := 1) (P := P + 1) (by decide) (by omega))
    have b2 := b_isNo w (x_2r (x_v h4) n1 (no_plus w hp.can.nd h (Nat.le_trans hp.ct (by decide)) hp.len))
    rw [show (!false) = true from rfl, if_pos rfl, evC_cons, b2]
    rfl
end
end K64
-- L43
set_option Elab.async false
set_option linter.all false
set_option maxRecDepth 100000
set_option maxHeartbeats 1000000
/-! L43: a lap; the law. -/
namespace K64
open PySem Ev
abbrev lapA : List St := [St.asg (Tg.v 3) (Ex.bin Op2.add (Ex.c (D.int 1)) (Ex.call 17 [Ex.v 1, Ex.c (D.int 4)])),
        St.asg (Tg.tup [Tg.v 4, Tg.v 5]) (Ex.tup [Ex.call 19 [Ex.v 1, Ex.v 3], Ex.call 19 [Ex.v 1, Ex.v 3]]),
        St.asg (Tg.v 6) (Ex.lst [Ex.call 7 [Ex.v 4, Ex.v 5], Ex.call 9 [Ex.v 4, Ex.v 5], Ex.call 10 [Ex.v 4, Ex.v 5], Ex.call 8 [Ex.v 4]])]
theorem lap_A {ρ : Ev.Env} {S : Store} (hl : ρ.length = 20) (h1 : ρ[1]? = some (some (.ref 2))) (hS : BG S) (r : List St) :
    ∃ ρ' S' P p q k, 1 ≤ P ∧ P ≤ 4 ∧ Pl P 4 16 8 p ∧ Pl P 4 16 8 q ∧ Lp ρ' S' P p q k ∧ svs 11 LC (lapA ++ r) ρ S = svs 11 LC r ρ' S' := by
  obtain ⟨v, c, hv, hc, e3⟩ := tk_ev (M := 4) tk_LC h1 (by decide) (by decide) hS
  have e3' := x_add (x_c (C := LC) (ρ := ρ) (S := S) (d := .int 1)) e3
  have eP : (1 : Int) + (v : Int) = ((1 + v : Nat) : Int) := by omega
  rw [eP] at e3'
  have g1 := hS.set hc
  have l1 : (ρ.set 3 (some (.int ((1 + v : Nat) : Int)))).length = 20 := by rw [List.length_set]; exact hl
  have k1 : (ρ.set 3 (some (.int ((1 + v : Nat) : Int))))[1]? = some (some (.ref 2)) := by rw [get_ne (by decide)]; exact h1
  have k3 : (ρ.set 3 (some (.int ((1 + v : Nat) : Int))))[3]? = some (some (.int ((1 + v : Nat) : Int))) := get_set (by rw [hl]; decide)
  obtain ⟨p, c1, hp, hc1, e4⟩ := poly_LC (P := 1 + v) (by omega) g1
  have g2 := g1.set hc1
  obtain ⟨q, c2, hq, hc2, e5⟩ := poly_LC (P := 1 + v) (by omega) g2
  have g3 := g2.set hc2
  rw [List.set_set] at g3 e5
  have g3' := g3
  rw [List.set_set] at g3
  have s45 := s_asg2 (n := 11) (i := 4) (j := 5) (by rw [l1]; decide) (by rw [l1]; decide) (x_2s (x_v k1) (x_v k3) e4) (by rw [List.set_set]; exact x_2s (x_v k1) (x_v k3) (by rw [List.set_set] at e5; exact e5))
  have m4 : ((((ρ.set 3 (some (.int ((1 + v : Nat) : Int)))).set 4 (some (pD p))).set 5 (some (pD q))))[4]? = some (some (pD p)) := by
    rw [get_ne (by decide)]
    exact get_set (by rw [l1]; decide)
  have m5 : ((((ρ.set 3 (some (.int ((1 + v : Nat) : Int)))).set 4 (some (pD p))).set 5 (some (pD q))))[5]? = some (some (pD q)) := get_set (by rw [List.length_set, l1]; decide)
  have hlt := g3.lt
  have pp := fn_plus hp hq (by decide) (by decide) (by decide)
  have pm := fn_minus hp hq (by decide) (by decide) (by decide)
  have pt := fn_times hp hq (by omega) (by decide) (by decide) (by decide) (by decide)
  have pn := fn_neg (p := p) (Nat.le_trans hp.ct (by decide))
  have s6 := s_asgL (n := 11) (i := 6) (S := S.set 2 c2) (by rw [List.length_set, List.length_set, l1]; decide) (x_l4 (x_2 g3.w (x_v m4) (x_v m5) pp) (x_2 g3.w (x_v m4) (x_v m5) pm) (x_2 g3.w (x_v m4) (x_v m5) pt) (x_1 g3.w (x_v m4) pn))
  have lp : Lp ((((ρ.set 3 (some (.int ((1 + v : Nat) : Int)))).set 4 (some (pD p))).set 5 (some (pD q))).set 6 (some (.ref (S.set 2 c2).length))) (S.set 2 c2 ++ [Cell.lst false (told4 p q)]) (1 + v) p q (S.set 2 c2).length := by
    refine ⟨?_, ?_, ?_, ?_, ?_, ?_, ?_, ?_, ?_⟩
    · rw [List.length_set, List.length_set, List.length_set, l1]
    · rw [get_ne (by decide), get_ne (by decide), get_ne (by decide)]
      exact k1
    · rw [get_ne (by decide), get_ne (by decide), get_ne (by decide)]
      exact k3
    · rw [get_ne (by decide)]
      exact m4
    · rw [get_ne (by decide)]
      exact m5
    · exact get_set (by rw [List.length_set, List.length_set, l1]; decide)
    · refine g3.push (WS.push g3.w (bnds_pure _ (told4 p q) ?_) cell_mono)
      show ((pD (plusM p q)).pure && ((pD (minusM p q)).pure && ((pD (timesM p q)).pure && ((pD (negM p)).pure && true)))) = true
      rw [pD_pure, pD_pure, pD_pure, pD_pure]
      rfl
    · exact at_endL
    · omega
  exact ⟨_, _, 1 + v, p, q, _, by omega, by omega, hp, hq, lp, (s_step (s_asg (by rw [hl]; decide) e3')).trans ((s_step s45).trans (s_step s6))⟩
end K64
-- L44
set_option Elab.async false
set_option linter.all false
set_option maxRecDepth 100000
set_option maxHeartbeats 2000000
/-! L44: a lap, its second part. -/
namespace K64
open PySem Ev
abbrev i6 : Ex := (Ex.or [Ex.cmp Cm.ne (Ex.call 9 [Ex.v 4, Ex.v 4]) (Ex.tup []), Ex.cmp Cm.ne (Ex.call 7 [Ex.v 4, Ex.call 4 [Ex.c (D.int 0), Ex.v 3]]) (Ex.v 4), Ex.cmp Cm.ne (Ex.call 10 [Ex.v 4, Ex.call 4 [Ex.c (D.int 1), Ex.v 3]]) (Ex.v 4), Ex.cmp Cm.ne (Ex.call 8 [Ex.call 8 [Ex.v 4]]) (Ex.v 4)])
abbrev i9 : Ex := (Ex.or [Ex.cmp Cm.ne (Ex.call 13 [Ex.v 14, Ex.v 3]) (Ex.tup [Ex.v 12, Ex.v 13]), Ex.cmp Cm.ne (Ex.call 10 [Ex.call 11 [Ex.v 12], Ex.call 4 [Ex.v 13, Ex.v 3]]) (Ex.v 14), Ex.cmp Cm.noN (Ex.call 13 [Ex.tup [], Ex.v 3]) (Ex.c D.non)])
abbrev i11 : Ex := (Ex.or [Ex.cmp Cm.ne (Ex.call 15 [Ex.v 14, Ex.v 8]) ((Ex.call 18 [Ex.tup [Ex.tup [Ex.v 12, Ex.v 12, Ex.v 13]], Ex.v 8]).ix (Ex.c (D.int 0))), Ex.cmp Cm.noN (Ex.call 13 [Ex.call 8 [Ex.v 14], Ex.v 3]) (Ex.c D.non)])
abbrev i12 : Ex := (Ex.and [Ex.cmp Cm.noN (Ex.call 13 [Ex.call 7 [Ex.v 14, Ex.call 4 [Ex.c (D.int 1), Ex.v 3]], Ex.v 3]) (Ex.c D.non), Ex.cmp Cm.gt (Ex.bi Bi.sum [Ex.v 12]) (Ex.c (D.int 0))])
abbrev i15 : Ex := (Ex.or [Ex.cmp Cm.ne (Ex.call 14 [Ex.v 17, Ex.v 15, Ex.v 3]) (Ex.v 16), Ex.cmp Cm.noN (Ex.call 14 [Ex.call 10 [Ex.v 17, Ex.v 17], Ex.v 15, Ex.v 3]) (Ex.c D.non)])
abbrev i16 : Ex := (Ex.isNo "Nothing" (Ex.call 5 [Ex.v 3, Ex.v 3])).not
abbrev i17 : Ex := (Ex.and [Ex.cmp Cm.ne (Ex.v 4) (Ex.tup []), (Ex.isNo "Nothing" (Ex.call 7 [Ex.v 4, Ex.call 4 [Ex.c (D.int 1), Ex.bin Op2.add (Ex.v 3) (Ex.c (D.int 1))]])).not])
abbrev rF : List St := [St.ret (Ex.c (D.bl false))]
abbrev lapB : List St := [St.for (Tg.v 7) (Ex.bi Bi.range [Ex.c (D.int 4)]) B4, St.for (Tg.v 11) (Ex.v 6) B5, St.ite i6 rF [],
  St.par 12 13 (cRow 3) (Ex.bin Op2.add (Ex.c (D.int 1)) (Ex.call 17 [Ex.v 1, Ex.c (D.int 9)])), St.asg (Tg.v 14) (Ex.call 12 [Ex.v 12, Ex.v 13]), St.ite i9 rF [],
  St.asg (Tg.v 8) (cRow 5), St.ite i11 rF [], St.ite i12 rF [],
  St.par 15 16 (Ex.call 17 [Ex.v 1, Ex.v 3]) (Ex.bin Op2.sub (Ex.call 17 [Ex.v 1, Ex.c (D.int 9)]) (Ex.c (D.int 4))), St.asg (Tg.v 17) (Ex.call 7 [Ex.call 5 [Ex.v 15, Ex.v 3], Ex.call 4 [Ex.v 16, Ex.v 3]]), St.ite i15 rF [], St.ite i16 rF [], St.ite i17 rF []]
theorem lap_B {ρ : Ev.Env} {S : Store} {P k : Nat} {p q : List Trm} (h : Lp ρ S P p q k) (hP1 : 1 ≤ P) (hP : P ≤ 4) (hp : Pl P 4 16 8 p) (hq : Pl P 4 16 8 q) :
    ∃ ρ' S', svs 11 LC lapB ρ S = .ok .nx ρ' S' ∧ ρ'.length = 20 ∧ ρ'[1]? = some (some (.ref 2)) ∧ BG S' := by
  obtain ⟨ρ1, S1, e1, h1⟩ := loop4 h hP hp hq
  obtain ⟨ρ2, e2, h2⟩ := loop5 h1 hP hp hq
  have e3 := s_no (n := 11) (a := rF) (b6 h2.bg.w hP h2.h3 h2.h4 hp)
  obtain ⟨tk, c, hl, hm', hc, er⟩ := row_ev (M := 3) tk_LC (w := 15) h2.h1 h2.h3 (by decide) (by rw [h2.len]; decide) (by decide) (by decide) (by omega) h2.bg
  have hm : ∀ m ∈ tk, m ≤ 2 := fun m z => Nat.le_of_lt_succ (hm' m z)
  have h3 := h2.st hc
  obtain ⟨v, c', hv, hc', ev⟩ := tk_ev (M := 9) tk_LC h3.h1 (by decide) (by decide) h3.bg
  have h4 := h3.st hc'
  have e4 := s_par (n := 11) (i := 12) (j := 13) (by rw [h2.len]; decide) (by rw [h2.len]; decide) er (x_add (x_c (C := LC) (d := .int 1)) ev)
  have hs : tk.sum ≤ 8 := Nat.le_trans (sum_le tk hm) (by omega)
  have hr : (1 : Int) ≤ 1 + (v : Int) := by omega
  have hr9 : (1 : Int) + (v : Int) ≤ 9 := by omega
  generalize hrr : (1 : Int) + (v : Int) = r at e4 hr hr9
  have h5 := (h4.set (j := 12) (by decide) (some (mD tk))).set (j := 13) (by decide) (some (.int r))
  have k12 : ((ρ2.set 12 (some (mD tk))).set 13 (some (.int r)))[12]? = some (some (mD tk)) := by
    rw [get_ne (by decide)]
    exact get_set (by rw [h2.len]; decide)
  have k13 : ((ρ2.set 12 (some (mD tk))).set 13 (some (.int r)))[13]? = some (some (.int r)) := get_set (by rw [List.length_set, h2.len]; decide)
  generalize (ρ2.set 12 (some (mD tk))).set 13 (some (.int r)) = ρ3 at e4 h5 k12 k13
  generalize ((S1.set 2 c).set 2 c') = S2 at e4 h5 h4
  have e5 := s_asg (n := 11) (i := 14) (by rw [h5.len]; decide) (x_2 h5.bg.w (x_v k12) (x_v k13) (fn_wgt hm hs (by omega) (by omega)))
  have h6 := h5.set (j := 14) (by decide) (some (pD (wgtM tk r)))
  have l12 : (ρ3.set 14 (some (pD (wgtM tk r))))[12]? = some (some (mD tk)) := by
    rw [get_ne (by decide)]
    exact k12
  have l13 : (ρ3.set 14 (some (pD (wgtM tk r))))[13]? = some (some (.int r)) := by
    rw [get_ne (by decide)]
    exact k13
  have l14 : (ρ3.set 14 (some (pD (wgtM tk r))))[14]? = some (some (pD (wgtM tk r))) := get_set (by rw [h5.len]; decide)
  generalize ρ3.set 14 (some (pD (wgtM tk r))) = ρ4 at e5 h6 l12 l13 l14
  have e6 := s_no (n := 11) (a := rF) (b9 h6.bg.w hP hl hm hr hr9 h6.h3 l12 l13 l14)
  obtain ⟨cs, d, cl, c2, hd, ec⟩ := row_ev (M := 5) tk_LC (w := 15) h6.h1 h6.h3 (by decide) (by rw [h6.len]; decide) (by decide) (by decide) (by omega) h6.bg
  have c4 : ∀ a ∈ cs, a ≤ 1000 := fun a ha => Nat.le_trans (Nat.le_of_lt (c2 a ha)) (by decide)
  have e7 := s_asg (n := 11) (i := 8) (by rw [h6.len]; decide) ec
  have h7 := (h6.st hd).set (j := 8) (by decide) (some (mD cs))
  have n12 : (ρ4.set 8 (some (mD cs)))[12]? = some (some (mD tk)) := by
    rw [get_ne (by decide)]
    exact l12
  have n13 : (ρ4.set 8 (some (mD cs)))[13]? = some (some (.int r)) := by
    rw [get_ne (by decide)]
    exact l13
  have n14 : (ρ4.set 8 (some (mD cs)))[14]? = some (some (pD (wgtM tk r))) := by
    rw [get_ne (by decide)]
    exact l14
  have n8 : (ρ4.set 8 (some (mD cs)))[8]? = some (some (mD cs)) := get_set (by rw [h6.len]; decide)
  generalize ρ4.set 8 (some (mD cs)) = ρ5 at e7 h7 n12 n13 n14 n8
  generalize S2.set 2 d = S3 at e7 h7
  have e8 := s_no (n := 11) (a := rF) (b11 h7.bg.w hP hl hm hr hr9 cl c4 h7.h3 n8 n12 n13 n14)
  have e9 := s_no (n := 11) (a := rF) (b12 h7.bg.w hP hl hm hr hr9 h7.h3 n12 n14)
  obtain ⟨i, d1, hi, hd1, ei⟩ := tk_ev2 tk_LC h7.h1 h7.h3 (by omega) (by omega) h7.bg
  have h8 := h7.st hd1
  obtain ⟨u, d2, hu, hd2, eu⟩ := tk_ev (M := 9) tk_LC h8.h1 (by decide) (by decide) h8.bg
  have h9 := h8.st hd2
  have e10 := s_par (n := 11) (i := 15) (j := 16) (by rw [h7.len]; decide) (by rw [h7.len]; decide) ei (x_sub eu (x_c (C := LC) (d := .int 4)))
  have hs4 : ((u : Int) - 4).natAbs ≤ 4 := by omega
  generalize (u : Int) - 4 = s at e10 hs4
  have h10 := (h9.set (j := 15) (by decide) (some (.int (i : Nat)))).set (j := 16) (by decide) (some (.int s))
  have o15 : ((ρ5.set 15 (some (.int (i : Nat)))).set 16 (some (.int s)))[15]? = some (some (.int (i : Nat))) := by
    rw [get_ne (by decide)]
    exact get_set (by rw [h7.len]; decide)
  have o16 : ((ρ5.set 15 (some (.int (i : Nat)))).set 16 (some (.int s)))[16]? = some (some (.int s)) := get_set (by rw [List.length_set, h7.len]; decide)
  have e10' : sv 11 LC (St.par 15 16 (Ex.call 17 [Ex.v 1, Ex.v 3]) (Ex.bin Op2.sub (Ex.call 17 [Ex.v 1, Ex.c (D.int 9)]) (Ex.c (D.int 4)))) ρ5 S3 = .ok .nx ((ρ5.set 15 (some (.int (i : Nat)))).set 16 (some (.int s))) ((S3.set 2 d1).set 2 d2) := e10
  generalize (ρ5.set 15 (some (.int (i : Nat)))).set 16 (some (.int s)) = ρ6 at e10' h10 o15 o16
  generalize (S3.set 2 d1).set 2 d2 = S4 at e10' h10
  have np := num_Pl s P
  have e11 := s_asg (n := 11) (i := 17) (by rw [h10.len]; decide) (x_2 h10.bg.w (x_2 h10.bg.w (x_v o15) (x_v h10.h3) (fn_cnt hi (by omega))) (x_2 h10.bg.w (x_v o16) (x_v h10.h3) (fn_num (i := s) (P := P) (by omega) (by omega))) (fn_plus (e_Pl hi) np (by decide) (by omega) (by decide)))
  have h11 := h10.set (j := 17) (by decide) (some (pD (mvM i P s)))
  have q15 : (ρ6.set 17 (some (pD (mvM i P s))))[15]? = some (some (.int (i : Nat))) := by
    rw [get_ne (by decide)]
    exact o15
  have q16 : (ρ6.set 17 (some (pD (mvM i P s))))[16]? = some (some (.int s)) := by
    rw [get_ne (by decide)]
    exact o16
  have q17 : (ρ6.set 17 (some (pD (mvM i P s))))[17]? = some (some (pD (mvM i P s))) := get_set (by rw [h10.len]; decide)
  have e12 := s_no (n := 11) (a := rF) (b15 h11.bg.w hP hi hs4 h11.h3 q15 q16 q17)
  have e13 := s_no (n := 11) (a := rF) (b16 h11.bg.w h11.h3)
  have e14 := s_no (n := 11) (a := rF) (b17 h11.bg.w hP hp h11.h3 h11.h4)
  refine ⟨_, _, ?_, h11.len, h11.h1, h11.bg⟩
  exact (s_step e1).trans ((s_step e2).trans ((s_step e3).trans ((s_step e4).trans ((s_step e5).trans ((s_step e6).trans ((s_step e7).trans ((s_step e8).trans ((s_step e9).trans ((s_step e10').trans ((s_step e11).trans ((s_step e12).trans ((s_step e13).trans ((s_step e14).trans svs_nil)))))))))))))
end K64
-- L45
set_option Elab.async false
set_option linter.all false
set_option maxRecDepth 100000
set_option maxHeartbeats 2000000
/-! L45: the law. -/
namespace K64
open PySem Ev
abbrev lapS : St := St.for (Tg.v 2) (Ex.bi Bi.range [Ex.c (D.int 4)]) (lapA ++ lapB)
theorem law_body : f_law.body = [St.asg (Tg.v 1) (Ex.call 16 [Ex.v 0]), lapS, St.ret (Ex.c (D.bl true))] := rfl
theorem plain : LawEv F 12 21 := fun ns hl _ => by
  obtain ⟨cs, h0, h1, eb⟩ := t_bag 10 ns hl
  have ec : (ev LC (Ex.call 16 [Ex.v 0])).E [some (.ref 0), none, none, none, none, none, none, none, none, none, none, none, none, none, none, none, none, none, none, none] [Cell.ro (ns.map D.int)] = .ok (.l [.int 0, .int 1234567891, .int 0, .ref 1]) [.ro (ns.map D.int), .lst false (cs.map D.int)] := by
    show fin 1 (LC 16 [.ref 0] [Cell.ro (ns.map D.int)]) = _
    have eb' : LC 16 [.ref 0] [Cell.ro (ns.map D.int)] = .ok (.l [.int 0, .int 1234567891, .int 0, .ref 1]) [.ro (ns.map D.int), .lst false (cs.map D.int)] := eb
    rw [eb']
    rfl
  have bg : BG [.ro (ns.map D.int), .lst false (cs.map D.int), bagC 0 1234567891 0] := by
    refine ⟨0, 1234567891, 0, cs, ⟨?_, rfl, rfl⟩, Int.le_refl _, h0, h1⟩
    show (D.bnds 3 (ns.map D.int) && (D.bnds 3 (cs.map D.int) && (true && true))) = true
    rw [bnds_pure _ _ (pures_int ns), bnds_pure _ _ (pures_int cs)]
    rfl
  obtain ⟨ρ', S', el, hI⟩ := loopS_inv (I := fun ρ S => ρ.length = 20 ∧ ρ[1]? = some (some (.ref 2)) ∧ BG S) (f := turnS 11 LC (.v 2) (lapA ++ lapB)) (Ev.intsFrom 0 4) (fun x _ ρ S h => by
    obtain ⟨hl, h1, hS⟩ := h
    rw [turn_v (by rw [hl]; decide)]
    obtain ⟨ρ1, S1, P, p, q, k, hP1, hP, hp, hq, lp, e1⟩ := lap_A (ρ := ρ.set 2 (some x)) (S := S) (by rw [List.length_set]; exact hl) (by rw [get_ne (by decide)]; exact h1) hS lapB
    obtain ⟨ρ2, S2, e2, r⟩ := lap_B lp hP1 hP hp hq
    exact ⟨ρ2, S2, e1.trans e2, r⟩)
    [some (.ref 0), some (.ref 2), none, none, none, none, none, none, none, none, none, none, none, none, none, none, none, none, none, none] [.ro (ns.map D.int), .lst false (cs.map D.int), bagC 0 1234567891 0] ⟨rfl, rfl, bg⟩
  have e2 : sv 11 LC lapS _ _ = _ := s_for (C := LC) (n := 11) (it := Ex.bi Bi.range [Ex.c (D.int 4)]) (o := none) rfl el
  refine ⟨S', ?_⟩
  rw [callN_at (fd := f_law) rfl rfl]
  show fin0 (svs 11 LC f_law.body [some (.ref 0), none, none, none, none, none, none, none, none, none, none, none, none, none, none, none, none, none, none, none] [Cell.ro (ns.map D.int)]) = _
  rw [law_body, svs_cons, sv_asg, ec, bind_ok, mat_l, thenS_ok]
  show fin0 (seqS (SR.ok .nx [some (.ref 0), some (.ref 2), none, none, none, none, none, none, none, none, none, none, none, none, none, none, none, none, none, none] [.ro (ns.map D.int), .lst false (cs.map D.int), bagC 0 1234567891 0]) _) = _
  rw [seqS_nx, svs_cons, e2, seqS_nx, svs_cons, sv_ret]
  rfl
end K64
-- H64n
set_option Elab.async false
set_option linter.all false
set_option maxRecDepth 100000
set_option maxHeartbeats 0
/-! End64: the head of law k64, its defs as compiled, its end. -/
namespace K64
open PySem PySem.Spec PyProof.Rows L2 Ev
def top (i : Nat) : Stmt := PySem.Challenge.pw_thrownpots_k64_polynomials_of_weights.main.body.getD i (.Pass ⟨0, 0, 0, 0⟩)
abbrev dd (x : Str) (i : Nat) : He.DefD := ⟨(x, none), x, x, defArgs (top i), defBody (top i), defScope (top i), [], []⟩
def fn : List He.DefD := [dd "is_integer" 6, dd "is_count" 7, dd "is_small" 12, dd "tidied" 13, dd "number" 14, dd "count_of" 15, dd "pots_of" 16, dd "plus" 17, dd "negative" 18, dd "minus" 19, dd "times" 20, dd "falling" 21, dd "weight_of_side" 22, dd "side_of" 23, dd "shift_of" 24, dd "worth_at" 25, dd "_law_bag" 27, dd "_law_take" 28, dd "_law_weights" 29, dd "_law_poly" 30, dd "_law_at" 31, dd "_law_is_nothing" 32, dd "law" 33]
def fa : List He.Fa := [.glo "is_integer", .glo "is_count", .glo "is_small", .glo "tidied", .glo "number", .glo "count_of", .glo "pots_of", .glo "plus", .glo "negative", .glo "minus", .glo "times", .glo "falling", .glo "weight_of_side", .glo "side_of", .glo "shift_of", .glo "worth_at", .glo "_law_bag", .glo "_law_take", .glo "_law_weights", .glo "_law_poly", .glo "_law_at", .glo "_law_is_nothing", .glo "law", .free "len", .free "isinstance", .free "int", .free "bool", .free "all", .free "tuple", .free "sorted", .free "sum", .free "dict", .free "max", .free "enumerate", .free "range", .free "zip", .free "list", .free "abs", .glo "Nothing", .glo "TooLarge", .exc "Nothing", .exm "Nothing" "Nothing" true, .exm "Nothing" "TooLarge" false, .exm "TooLarge" "Nothing" false, .exm "TooLarge" "TooLarge" true, .int "MOST_TERMS" 400, .int "MOST_TAKEN" 8, .int "MOST_FIGURES" 400]
def tf : List He.Defn := [("side_of", none), ("law", none)]
def exB (K : PySem.W.Frag) : Bool := decide ((He.cT K ("side_of", none)).2 ≠ (He.cT K ("law", none)).2)
abbrev R : PySem.W.OpenRow := PySem.W.OpenLaw.row PySem.Challenge.rw_thrownpots_k64_polynomials_of_weights
abbrev hk : PySem.W.Hook := He.hookX 4 fa fn [] tf exB
def ob (s : PySem.W.SharedT) : He.AlX := He.obsX 4 fa fn [] tf exB (HandSHeadRun.getT s)
theorem ob_eq (s : PySem.W.SharedT) : ob s = hk.obs s.abs := He.obsX_eq (HandSHeadRun.getT_eq s)
def loose : List Str := ["_wall", "PotsError", "Nothing", "TooLarge", "is_integer", "is_count", "MOST_TERMS", "MOST_TAKEN", "MOST_FIGURES", "is_small", "tidied", "number", "count_of", "pots_of", "plus", "negative", "minus", "times", "falling", "weight_of_side", "side_of", "shift_of", "worth_at", "_law_bag", "_law_take", "_law_weights", "_law_poly", "_law_at", "_law_is_nothing"]
def U (T : List (Addr × Str)) : Tb where
  fnm := ["is_integer", "is_count", "is_small", "tidied", "number", "count_of", "pots_of", "plus", "negative", "minus", "times", "falling", "weight_of_side", "side_of", "shift_of", "worth_at", "_law_bag", "_law_take", "_law_weights", "_law_poly", "_law_at", "law"]
  T := T
  exc := ["Nothing", "TooLarge"]
  exr := ["Nothing"]
  con := [("MOST_TERMS", .int 400), ("MOST_TAKEN", .int 8), ("MOST_FIGURES", .int 400)]
  no := some ("_law_is_nothing", "Nothing")
  blt := ["len", "isinstance", "int", "bool", "all", "tuple", "sorted", "sum", "dict", "max", "enumerate", "range", "zip", "list", "abs"]
  F := F
end K64
-- H64a
set_option Elab.async false
set_option linter.all false
set_option maxRecDepth 100000
set_option maxHeartbeats 0
namespace K64
open PySem PySem.Spec PyProof.Rows L2 Ev
theorem run (w : World) : HandSHeadRun.RunEq R (PySem.W.view R.prog [33]) hk ob 4000 loose w := by
  intro os
  kernel_rfl
end K64
-- H64b
set_option Elab.async false
set_option linter.all false
set_option maxRecDepth 100000
set_option maxHeartbeats 0
namespace K64
open PySem PySem.Spec PyProof.Rows L2 Ev
theorem c_is_integer (T : List (Addr × Str)) : cSs Lall (U T) 40 ⟨n_is_integer, defScope (top 6), locB (defScope (top 6)), false⟩ 40 (defBody (top 6)) = some f_is_integer.body := by kernel_rfl
theorem c_is_count (T : List (Addr × Str)) : cSs Lall (U T) 40 ⟨n_is_count, defScope (top 7), locB (defScope (top 7)), false⟩ 40 (defBody (top 7)) = some f_is_count.body := by kernel_rfl
theorem c_is_small (T : List (Addr × Str)) : cSs Lall (U T) 40 ⟨n_is_small, defScope (top 12), locB (defScope (top 12)), false⟩ 40 (defBody (top 12)) = some f_is_small.body := by kernel_rfl
theorem c_tidied (T : List (Addr × Str)) : cSs Lall (U T) 40 ⟨n_tidied, defScope (top 13), locB (defScope (top 13)), false⟩ 40 (defBody (top 13)) = some f_tidied.body := by kernel_rfl
theorem c_number (T : List (Addr × Str)) : cSs Lall (U T) 40 ⟨n_number, defScope (top 14), locB (defScope (top 14)), false⟩ 40 (defBody (top 14)) = some f_number.body := by kernel_rfl
theorem c_count_of (T : List (Addr × Str)) : cSs Lall (U T) 40 ⟨n_count_of, defScope (top 15), locB (defScope (top 15)), false⟩ 40 (defBody (top 15)) = some f_count_of.body := by kernel_rfl
theorem c_pots_of (T : List (Addr × Str)) : cSs Lall (U T) 40 ⟨n_pots_of, defScope (top 16), locB (defScope (top 16)), false⟩ 40 (defBody (top 16)) = some f_pots_of.body := by kernel_rfl
theorem c_plus (T : List (Addr × Str)) : cSs Lall (U T) 40 ⟨n_plus, defScope (top 17), locB (defScope (top 17)), false⟩ 40 (defBody (top 17)) = some f_plus.body := by kernel_rfl
theorem c_negative (T : List (Addr × Str)) : cSs Lall (U T) 40 ⟨n_negative, defScope (top 18), locB (defScope (top 18)), false⟩ 40 (defBody (top 18)) = some f_negative.body := by kernel_rfl
theorem c_minus (T : List (Addr × Str)) : cSs Lall (U T) 40 ⟨n_minus, defScope (top 19), locB (defScope (top 19)), false⟩ 40 (defBody (top 19)) = some f_minus.body := by kernel_rfl
theorem c_times (T : List (Addr × Str)) : cSs Lall (U T) 40 ⟨n_times, defScope (top 20), locB (defScope (top 20)), false⟩ 40 (defBody (top 20)) = some f_times.body := by kernel_rfl
theorem c_falling (T : List (Addr × Str)) : cSs Lall (U T) 40 ⟨n_falling, defScope (top 21), locB (defScope (top 21)), false⟩ 40 (defBody (top 21)) = some f_falling.body := by kernel_rfl
theorem c_weight_of_side (T : List (Addr × Str)) : cSs Lall (U T) 40 ⟨n_weight_of_side, defScope (top 22), locB (defScope (top 22)), false⟩ 40 (defBody (top 22)) = some f_weight_of_side.body := by kernel_rfl
theorem c_side_of (T : List (Addr × Str)) : cSs Lall (U T) 40 ⟨n_side_of, defScope (top 23), locB (defScope (top 23)), true⟩ 40 (defBody (top 23)) = some f_side_of.body := by kernel_rfl
theorem c_shift_of (T : List (Addr × Str)) : cSs Lall (U T) 40 ⟨n_shift_of, defScope (top 24), locB (defScope (top 24)), false⟩ 40 (defBody (top 24)) = some f_shift_of.body := by kernel_rfl
theorem c_worth_at (T : List (Addr × Str)) : cSs Lall (U T) 40 ⟨n_worth_at, defScope (top 25), locB (defScope (top 25)), false⟩ 40 (defBody (top 25)) = some f_worth_at.body := by kernel_rfl
theorem c__law_bag (T : List (Addr × Str)) : cSs Lall (U T) 40 ⟨n__law_bag, defScope (top 27), locB (defScope (top 27)), false⟩ 40 (defBody (top 27)) = some f__law_bag.body := by kernel_rfl
theorem c__law_take (T : List (Addr × Str)) : cSs Lall (U T) 40 ⟨n__law_take, defScope (top 28), locB (defScope (top 28)), false⟩ 40 (defBody (top 28)) = some f__law_take.body := by kernel_rfl
theorem c__law_weights (T : List (Addr × Str)) : cSs Lall (U T) 40 ⟨n__law_weights, defScope (top 29), locB (defScope (top 29)), false⟩ 40 (defBody (top 29)) = some f__law_weights.body := by kernel_rfl
theorem c__law_poly (T : List (Addr × Str)) : cSs Lall (U T) 40 ⟨n__law_poly, defScope (top 30), locB (defScope (top 30)), false⟩ 40 (defBody (top 30)) = some f__law_poly.body := by kernel_rfl
theorem c__law_at (T : List (Addr × Str)) : cSs Lall (U T) 40 ⟨n__law_at, defScope (top 31), locB (defScope (top 31)), false⟩ 40 (defBody (top 31)) = some f__law_at.body := by kernel_rfl
theorem c_law (T : List (Addr × Str)) : cSs Lall (U T) 40 ⟨n_law, defScope (top 33), locB (defScope (top 33)), true⟩ 40 (defBody (top 33)) = some f_law.body := by kernel_rfl
end K64
-- H64c
set_option Elab.async false
set_option linter.all false
set_option maxRecDepth 100000
set_option maxHeartbeats 0
namespace K64
open PySem PySem.Spec PyProof.Rows L2 Ev
theorem uniqT {P1 P2 : Addr} {q1 q2 : Str} (hne : P1 ≠ P2) : (∀ p ∈ [(P1, q1), (P2, q2)], p.1 = P1 → p.2 = q1) ∧ (∀ p ∈ [(P1, q1), (P2, q2)], p.1 = P2 → p.2 = q2) := by
  refine ⟨fun p hp hq => ?_, fun p hp hq => ?_⟩
  · rcases List.mem_cons.mp hp with z | hp
    · rw [z]
    · rw [List.mem_singleton.mp hp] at hq
      exact absurd hq.symm hne
  · rcases List.mem_cons.mp hp with z | hp
    · rw [z] at hq
      exact absurd hq hne
    · rw [List.mem_singleton.mp hp]
section
variable {P : Program} {w : World} {K : PySem.W.Frag} {h : Heap} {mg : Str → Option Value} {base : Heap} {T : List (Addr × Str)}
theorem sd (c : He.SaysX fa fn [] tf exB w h K) : He.SaysD fa fn K := c.t.d
theorem d_is_integer (c : He.SaysX fa fn [] tf exB w h K) (X : K.In h) (G : h.Ns mainGlobals mg) : DefK (U T) (gxOf (U T) P w K mg base) 0 "is_integer" := by
  obtain ⟨fd, FD⟩ := (sd c).def_ 0 (d := dd "is_integer" 6) rfl
  exact ⟨⟨_, _, _, _, fd, n_is_integer, n_is_integer.take 1, f_is_integer, 40, 40, false, He.glo_ok X G ((sd c).fact 0 (f := .glo "is_integer") rfl), FD, FD.bindsN (fun _ _ _ _ _ _ us hl => match us, hl with | [_], _ => rfl), ⟨rfl, rfl, rfl, by decide +kernel, rfl, by decide +kernel, by decide +kernel⟩, rfl, rfl, rfl, c_is_integer T, fun h => by cases h⟩⟩
theorem d_is_count (c : He.SaysX fa fn [] tf exB w h K) (X : K.In h) (G : h.Ns mainGlobals mg) : DefK (U T) (gxOf (U T) P w K mg base) 1 "is_count" := by
  obtain ⟨fd, FD⟩ := (sd c).def_ 1 (d := dd "is_count" 7) rfl
  exact ⟨⟨_, _, _, _, fd, n_is_count, n_is_count.take 1, f_is_count, 40, 40, false, He.glo_ok X G ((sd c).fact 1 (f := .glo "is_count") rfl), FD, FD.bindsN (fun _ _ _ _ _ _ us hl => match us, hl with | [_], _ => rfl), ⟨rfl, rfl, rfl, by decide +kernel, rfl, by decide +kernel, by decide +kernel⟩, rfl, rfl, rfl, c_is_count T, fun h => by cases h⟩⟩
theorem d_is_small (c : He.SaysX fa fn [] tf exB w h K) (X : K.In h) (G : h.Ns mainGlobals mg) : DefK (U T) (gxOf (U T) P w K mg base) 2 "is_small" := by
  obtain ⟨fd, FD⟩ := (sd c).def_ 2 (d := dd "is_small" 12) rfl
  exact ⟨⟨_, _, _, _, fd, n_is_small, n_is_small.take 1, f_is_small, 40, 40, false, He.glo_ok X G ((sd c).fact 2 (f := .glo "is_small") rfl), FD, FD.bindsN (fun _ _ _ _ _ _ us hl => match us, hl with | [_], _ => rfl), ⟨rfl, rfl, rfl, by decide +kernel, rfl, by decide +kernel, by decide +kernel⟩, rfl, rfl, rfl, c_is_small T, fun h => by cases h⟩⟩
theorem d_tidied (c : He.SaysX fa fn [] tf exB w h K) (X : K.In h) (G : h.Ns mainGlobals mg) : DefK (U T) (gxOf (U T) P w K mg base) 3 "tidied" := by
  obtain ⟨fd, FD⟩ := (sd c).def_ 3 (d := dd "tidied" 13) rfl
  exact ⟨⟨_, _, _, _, fd, n_tidied, n_tidied.take 2, f_tidied, 40, 40, false, He.glo_ok X G ((sd c).fact 3 (f := .glo "tidied") rfl), FD, FD.bindsN (fun _ _ _ _ _ _ us hl => match us, hl with | [_, _], _ => rfl), ⟨rfl, rfl, rfl, by decide +kernel, rfl, by decide +kernel, by decide +kernel⟩, rfl, rfl, rfl, c_tidied T, fun h => by cases h⟩⟩
theorem d_number (c : He.SaysX fa fn [] tf exB w h K) (X : K.In h) (G : h.Ns mainGlobals mg) : DefK (U T) (gxOf (U T) P w K mg base) 4 "number" := by
  obtain ⟨fd, FD⟩ := (sd c).def_ 4 (d := dd "number" 14) rfl
  exact ⟨⟨_, _, _, _, fd, n_number, n_number.take 2, f_number, 40, 40, false, He.glo_ok X G ((sd c).fact 4 (f := .glo "number") rfl), FD, FD.bindsN (fun _ _ _ _ _ _ us hl => match us, hl with | [_, _], _ => rfl), ⟨rfl, rfl, rfl, by decide +kernel, rfl, by decide +kernel, by decide +kernel⟩, rfl, rfl, rfl, c_number T, fun h => by cases h⟩⟩
theorem d_count_of (c : He.SaysX fa fn [] tf exB w h K) (X : K.In h) (G : h.Ns mainGlobals mg) : DefK (U T) (gxOf (U T) P w K mg base) 5 "count_of" := by
  obtain ⟨fd, FD⟩ := (sd c).def_ 5 (d := dd "count_of" 15) rfl
  exact ⟨⟨_, _, _, _, fd, n_count_of, n_count_of.take 2, f_count_of, 40, 40, false, He.glo_ok X G ((sd c).fact 5 (f := .glo "count_of") rfl), FD, FD.bindsN (fun _ _ _ _ _ _ us hl => match us, hl with | [_, _], _ => rfl), ⟨rfl, rfl, rfl, by decide +kernel, rfl, by decide +kernel, by decide +kernel⟩, rfl, rfl, rfl, c_count_of T, fun h => by cases h⟩⟩
theorem d_pots_of (c : He.SaysX fa fn [] tf exB w h K) (X : K.In h) (G : h.Ns mainGlobals mg) : DefK (U T) (gxOf (U T) P w K mg base) 6 "pots_of" := by
  obtain ⟨fd, FD⟩ := (sd c).def_ 6 (d := dd "pots_of" 16) rfl
  exact ⟨⟨_, _, _, _, fd, n_pots_of, n_pots_of.take 2, f_pots_of, 40, 40, false, He.glo_ok X G ((sd c).fact 6 (f := .glo "pots_of") rfl), FD, FD.bindsN (fun _ _ _ _ _ _ us hl => match us, hl with | [_, _], _ => rfl), ⟨rfl, rfl, rfl, by decide +kernel, rfl, by decide +kernel, by decide +kernel⟩, rfl, rfl, rfl, c_pots_of T, fun h => by cases h⟩⟩
theorem d_plus (c : He.SaysX fa fn [] tf exB w h K) (X : K.In h) (G : h.Ns mainGlobals mg) : DefK (U T) (gxOf (U T) P w K mg base) 7 "plus" := by
  obtain ⟨fd, FD⟩ := (sd c).def_ 7 (d := dd "plus" 17) rfl
  exact ⟨⟨_, _, _, _, fd, n_plus, n_plus.take 2, f_plus, 40, 40, false, He.glo_ok X G ((sd c).fact 7 (f := .glo "plus") rfl), FD, FD.bindsN (fun _ _ _ _ _ _ us hl => match us, hl with | [_, _], _ => rfl), ⟨rfl, rfl, rfl, by decide +kernel, rfl, by decide +kernel, by decide +kernel⟩, rfl, rfl, rfl, c_plus T, fun h => by cases h⟩⟩
theorem d_negative (c : He.SaysX fa fn [] tf exB w h K) (X : K.In h) (G : h.Ns mainGlobals mg) : DefK (U T) (gxOf (U T) P w K mg base) 8 "negative" := by
  obtain ⟨fd, FD⟩ := (sd c).def_ 8 (d := dd "negative" 18) rfl
  exact ⟨⟨_, _, _, _, fd, n_negative, n_negative.take 1, f_negative, 40, 40, false, He.glo_ok X G ((sd c).fact 8 (f := .glo "negative") rfl), FD, FD.bindsN (fun _ _ _ _ _ _ us hl => match us, hl with | [_], _ => rfl), ⟨rfl, rfl, rfl, by decide +kernel, rfl, by decide +kernel, by decide +kernel⟩, rfl, rfl, rfl, c_negative T, fun h => by cases h⟩⟩
theorem d_minus (c : He.SaysX fa fn [] tf exB w h K) (X : K.In h) (G : h.Ns mainGlobals mg) : DefK (U T) (gxOf (U T) P w K mg base) 9 "minus" := by
  obtain ⟨fd, FD⟩ := (sd c).def_ 9 (d := dd "minus" 19) rfl
  exact ⟨⟨_, _, _, _, fd, n_minus, n_minus.take 2, f_minus, 40, 40, false, He.glo_ok X G ((sd c).fact 9 (f := .glo "minus") rfl), FD, FD.bindsN (fun _ _ _ _ _ _ us hl => match us, hl with | [_, _], _ => rfl), ⟨rfl, rfl, rfl, by decide +kernel, rfl, by decide +kernel, by decide +kernel⟩, rfl, rfl, rfl, c_minus T, fun h => by cases h⟩⟩
theorem d_times (c : He.SaysX fa fn [] tf exB w h K) (X : K.In h) (G : h.Ns mainGlobals mg) : DefK (U T) (gxOf (U T) P w K mg base) 10 "times" := by
  obtain ⟨fd, FD⟩ := (sd c).def_ 10 (d := dd "times" 20) rfl
  exact ⟨⟨_, _, _, _, fd, n_times, n_times.take 2, f_times, 40, 40, false, He.glo_ok X G ((sd c).fact 10 (f := .glo "times") rfl), FD, FD.bindsN (fun _ _ _ _ _ _ us hl => match us, hl with | [_, _], _ => rfl), ⟨rfl, rfl, rfl, by decide +kernel, rfl, by decide +kernel, by decide +kernel⟩, rfl, rfl, rfl, c_times T, fun h => by cases h⟩⟩
theorem d_falling (c : He.SaysX fa fn [] tf exB w h K) (X : K.In h) (G : h.Ns mainGlobals mg) : DefK (U T) (gxOf (U T) P w K mg base) 11 "falling" := by
  obtain ⟨fd, FD⟩ := (sd c).def_ 11 (d := dd "falling" 21) rfl
  exact ⟨⟨_, _, _, _, fd, n_falling, n_falling.take 1, f_falling, 40, 40, false, He.glo_ok X G ((sd c).fact 11 (f := .glo "falling") rfl), FD, FD.bindsN (fun _ _ _ _ _ _ us hl => match us, hl with | [_], _ => rfl), ⟨rfl, rfl, rfl, by decide +kernel, rfl, by decide +kernel, by decide +kernel⟩, rfl, rfl, rfl, c_falling T, fun h => by cases h⟩⟩
theorem d_weight_of_side (c : He.SaysX fa fn [] tf exB w h K) (X : K.In h) (G : h.Ns mainGlobals mg) : DefK (U T) (gxOf (U T) P w K mg base) 12 "weight_of_side" := by
  obtain ⟨fd, FD⟩ := (sd c).def_ 12 (d := dd "weight_of_side" 22) rfl
  exact ⟨⟨_, _, _, _, fd, n_weight_of_side, n_weight_of_side.take 2, f_weight_of_side, 40, 40, false, He.glo_ok X G ((sd c).fact 12 (f := .glo "weight_of_side") rfl), FD, FD.bindsN (fun _ _ _ _ _ _ us hl => match us, hl with | [_, _], _ => rfl), ⟨rfl, rfl, rfl, by decide +kernel, rfl, by decide +kernel, by decide +kernel⟩, rfl, rfl, rfl, c_weight_of_side T, fun h => by cases h⟩⟩
theorem d_side_of (c : He.SaysX fa fn [] tf exB w h K) (hT : T = [((He.cT K ("side_of", none)).2, lamQ "side_of"), ((He.cT K ("law", none)).2, lamQ "law")]) (hne : (He.cT K ("side_of", none)).2 ≠ (He.cT K ("law", none)).2) (hTB : ∀ p ∈ tf.map (He.cT K), LamX.TabB base mg p.1 p.2) (X : K.In h) (G : h.Ns mainGlobals mg) : DefK (U T) (gxOf (U T) P w K mg base) 13 "side_of" := by
  obtain ⟨fd, FD⟩ := (sd c).def_ 13 (d := dd "side_of" 23) rfl
  obtain ⟨oc, od, dV, kV, doc, pm, an, cdv, ct, osl, e, lk, hcd, h4, h5⟩ := id FD.ex
  obtain ⟨cc, hcc⟩ := He.codeIn_ref hcd
  have ec : fd.code = .ref (He.cT K ("side_of", none)).1 := by
    have e1 : He.codeOf K ("side_of", none) = cc := He.codeOf_eq lk (by rw [e]; exact hcc)
    show fd.code = .ref (He.codeOf K ("side_of", none))
    rw [e1, e]
    exact hcc
  exact ⟨⟨_, _, _, _, fd, n_side_of, n_side_of.take 2, f_side_of, 40, 40, true, He.glo_ok X G ((sd c).fact 13 (f := .glo "side_of") rfl), FD, FD.bindsN (fun _ _ _ _ _ _ us hl => match us, hl with | [_, _], _ => rfl), ⟨rfl, rfl, rfl, by decide +kernel, rfl, by decide +kernel, by decide +kernel⟩, rfl, rfl, rfl, c_side_of T, fun _ => ⟨_, _, ec, hTB (He.cT K ("side_of", none)) (by simp [tf]), by show (_, _) ∈ T; rw [hT]; simp, fun p hp hq => (uniqT hne).1 p (by rw [← hT]; exact hp) hq⟩⟩⟩
theorem d_shift_of (c : He.SaysX fa fn [] tf exB w h K) (X : K.In h) (G : h.Ns mainGlobals mg) : DefK (U T) (gxOf (U T) P w K mg base) 14 "shift_of" := by
  obtain ⟨fd, FD⟩ := (sd c).def_ 14 (d := dd "shift_of" 24) rfl
  exact ⟨⟨_, _, _, _, fd, n_shift_of, n_shift_of.take 3, f_shift_of, 40, 40, false, He.glo_ok X G ((sd c).fact 14 (f := .glo "shift_of") rfl), FD, FD.bindsN (fun _ _ _ _ _ _ us hl => match us, hl with | [_, _, _], _ => rfl), ⟨rfl, rfl, rfl, by decide +kernel, rfl, by decide +kernel, by decide +kernel⟩, rfl, rfl, rfl, c_shift_of T, fun h => by cases h⟩⟩
theorem d_worth_at (c : He.SaysX fa fn [] tf exB w h K) (X : K.In h) (G : h.Ns mainGlobals mg) : DefK (U T) (gxOf (U T) P w K mg base) 15 "worth_at" := by
  obtain ⟨fd, FD⟩ := (sd c).def_ 15 (d := dd "worth_at" 25) rfl
  exact ⟨⟨_, _, _, _, fd, n_worth_at, n_worth_at.take 2, f_worth_at, 40, 40, false, He.glo_ok X G ((sd c).fact 15 (f := .glo "worth_at") rfl), FD, FD.bindsN (fun _ _ _ _ _ _ us hl => match us, hl with | [_, _], _ => rfl), ⟨rfl, rfl, rfl, by decide +kernel, rfl, by decide +kernel, by decide +kernel⟩, rfl, rfl, rfl, c_worth_at T, fun h => by cases h⟩⟩
theorem d__law_bag (c : He.SaysX fa fn [] tf exB w h K) (X : K.In h) (G : h.Ns mainGlobals mg) : DefK (U T) (gxOf (U T) P w K mg base) 16 "_law_bag" := by
  obtain ⟨fd, FD⟩ := (sd c).def_ 16 (d := dd "_law_bag" 27) rfl
  exact ⟨⟨_, _, _, _, fd, n__law_bag, n__law_bag.take 1, f__law_bag, 40, 40, false, He.glo_ok X G ((sd c).fact 16 (f := .glo "_law_bag") rfl), FD, FD.bindsN (fun _ _ _ _ _ _ us hl => match us, hl with | [_], _ => rfl), ⟨rfl, rfl, rfl, by decide +kernel, rfl, by decide +kernel, by decide +kernel⟩, rfl, rfl, rfl, c__law_bag T, fun h => by cases h⟩⟩
theorem d__law_take (c : He.SaysX fa fn [] tf exB w h K) (X : K.In h) (G : h.Ns mainGlobals mg) : DefK (U T) (gxOf (U T) P w K mg base) 17 "_law_take" := by
  obtain ⟨fd, FD⟩ := (sd c).def_ 17 (d := dd "_law_take" 28) rfl
  exact ⟨⟨_, _, _, _, fd, n__law_take, n__law_take.take 2, f__law_take, 40, 40, false, He.glo_ok X G ((sd c).fact 17 (f := .glo "_law_take") rfl), FD, FD.bindsN (fun _ _ _ _ _ _ us hl => match us, hl with | [_, _], _ => rfl), ⟨rfl, rfl, rfl, by decide +kernel, rfl, by decide +kernel, by decide +kernel⟩, rfl, rfl, rfl, c__law_take T, fun h => by cases h⟩⟩
theorem d__law_weights (c : He.SaysX fa fn [] tf exB w h K) (X : K.In h) (G : h.Ns mainGlobals mg) : DefK (U T) (gxOf (U T) P w K mg base) 18 "_law_weights" := by
  obtain ⟨fd, FD⟩ := (sd c).def_ 18 (d := dd "_law_weights" 29) rfl
  exact ⟨⟨_, _, _, _, fd, n__law_weights, n__law_weights.take 2, f__law_weights, 40, 40, false, He.glo_ok X G ((sd c).fact 18 (f := .glo "_law_weights") rfl), FD, FD.bindsN (fun _ _ _ _ _ _ us hl => match us, hl with | [_, _], _ => rfl), ⟨rfl, rfl, rfl, by decide +kernel, rfl, by decide +kernel, by decide +kernel⟩, rfl, rfl, rfl, c__law_weights T, fun h => by cases h⟩⟩
theorem d__law_poly (c : He.SaysX fa fn [] tf exB w h K) (X : K.In h) (G : h.Ns mainGlobals mg) : DefK (U T) (gxOf (U T) P w K mg base) 19 "_law_poly" := by
  obtain ⟨fd, FD⟩ := (sd c).def_ 19 (d := dd "_law_poly" 30) rfl
  exact ⟨⟨_, _, _, _, fd, n__law_poly, n__law_poly.take 2, f__law_poly, 40, 40, false, He.glo_ok X G ((sd c).fact 19 (f := .glo "_law_poly") rfl), FD, FD.bindsN (fun _ _ _ _ _ _ us hl => match us, hl with | [_, _], _ => rfl), ⟨rfl, rfl, rfl, by decide +kernel, rfl, by decide +kernel, by decide +kernel⟩, rfl, rfl, rfl, c__law_poly T, fun h => by cases h⟩⟩
theorem d__law_at (c : He.SaysX fa fn [] tf exB w h K) (X : K.In h) (G : h.Ns mainGlobals mg) : DefK (U T) (gxOf (U T) P w K mg base) 20 "_law_at" := by
  obtain ⟨fd, FD⟩ := (sd c).def_ 20 (d := dd "_law_at" 31) rfl
  exact ⟨⟨_, _, _, _, fd, n__law_at, n__law_at.take 2, f__law_at, 40, 40, false, He.glo_ok X G ((sd c).fact 20 (f := .glo "_law_at") rfl), FD, FD.bindsN (fun _ _ _ _ _ _ us hl => match us, hl with | [_, _], _ => rfl), ⟨rfl, rfl, rfl, by decide +kernel, rfl, by decide +kernel, by decide +kernel⟩, rfl, rfl, rfl, c__law_at T, fun h => by cases h⟩⟩
theorem d_law (c : He.SaysX fa fn [] tf exB w h K) (hT : T = [((He.cT K ("side_of", none)).2, lamQ "side_of"), ((He.cT K ("law", none)).2, lamQ "law")]) (hne : (He.cT K ("side_of", none)).2 ≠ (He.cT K ("law", none)).2) (hTB : ∀ p ∈ tf.map (He.cT K), LamX.TabB base mg p.1 p.2) (X : K.In h) (G : h.Ns mainGlobals mg) : DefK (U T) (gxOf (U T) P w K mg base) 21 "law" := by
  obtain ⟨fd, FD⟩ := (sd c).def_ 22 (d := dd "law" 33) rfl
  obtain ⟨oc, od, dV, kV, doc, pm, an, cdv, ct, osl, e, lk, hcd, h4, h5⟩ := id FD.ex
  obtain ⟨cc, hcc⟩ := He.codeIn_ref hcd
  have ec : fd.code = .ref (He.cT K ("law", none)).1 := by
    have e1 : He.codeOf K ("law", none) = cc := He.codeOf_eq lk (by rw [e]; exact hcc)
    show fd.code = .ref (He.codeOf K ("law", none))
    rw [e1, e]
    exact hcc
  exact ⟨⟨_, _, _, _, fd, n_law, n_law.take 1, f_law, 40, 40, true, He.glo_ok X G ((sd c).fact 22 (f := .glo "law") rfl), FD, FD.bindsN (fun _ _ _ _ _ _ us hl => match us, hl with | [_], _ => rfl), ⟨rfl, rfl, rfl, by decide +kernel, rfl, by decide +kernel, by decide +kernel⟩, rfl, rfl, rfl, c_law T, fun _ => ⟨_, _, ec, hTB (He.cT K ("law", none)) (by simp [tf]), by show (_, _) ∈ T; rw [hT]; simp, fun p hp hq => (uniqT hne).2 p (by rw [← hT]; exact hp) hq⟩⟩⟩
theorem st_ok (c : He.SaysX fa fn [] tf exB w h K) (X : K.In h) (G : h.Ns mainGlobals mg) : Stat (U T) (gxOf (U T) P w K mg base) where
  con := fun x d hx => by
    have hx : (x, d) ∈ [(("MOST_TERMS" : Str), D.int 400), (("MOST_TAKEN" : Str), D.int 8), (("MOST_FIGURES" : Str), D.int 400)] := hx
    rcases List.mem_cons.mp hx with z | hx
    · cases z
      obtain ⟨t, e⟩ := He.int_ok X G ((sd c).fact 45 (f := .int "MOST_TERMS" 400) rfl)
      exact ⟨_, _, rfl, e, t, rfl⟩
    rcases List.mem_cons.mp hx with z | hx
    · cases z
      obtain ⟨t, e⟩ := He.int_ok X G ((sd c).fact 46 (f := .int "MOST_TAKEN" 8) rfl)
      exact ⟨_, _, rfl, e, t, rfl⟩
    rcases List.mem_cons.mp hx with z | hx
    · cases z
      obtain ⟨t, e⟩ := He.int_ok X G ((sd c).fact 47 (f := .int "MOST_FIGURES" 400) rfl)
      exact ⟨_, _, rfl, e, t, rfl⟩
    · cases hx
  blt := fun x hx => by
    have hx : x ∈ [("len" : Str), ("isinstance" : Str), ("int" : Str), ("bool" : Str), ("all" : Str), ("tuple" : Str), ("sorted" : Str), ("sum" : Str), ("dict" : Str), ("max" : Str), ("enumerate" : Str), ("range" : Str), ("zip" : Str), ("list" : Str), ("abs" : Str)] := hx
    rcases List.mem_cons.mp hx with z | hx
    · subst z
      exact He.free_ok X G ((sd c).fact 23 (f := .free "len") rfl)
    rcases List.mem_cons.mp hx with z | hx
    · subst z
      exact He.free_ok X G ((sd c).fact 24 (f := .free "isinstance") rfl)
    rcases List.mem_cons.mp hx with z | hx
    · subst z
      exact He.free_ok X G ((sd c).fact 25 (f := .free "int") rfl)
    rcases List.mem_cons.mp hx with z | hx
    · subst z
      exact He.free_ok X G ((sd c).fact 26 (f := .free "bool") rfl)
    rcases List.mem_cons.mp hx with z | hx
    · subst z
      exact He.free_ok X G ((sd c).fact 27 (f := .free "all") rfl)
    rcases List.mem_cons.mp hx with z | hx
    · subst z
      exact He.free_ok X G ((sd c).fact 28 (f := .free "tuple") rfl)
    rcases List.mem_cons.mp hx with z | hx
    · subst z
      exact He.free_ok X G ((sd c).fact 29 (f := .free "sorted") rfl)
    rcases List.mem_cons.mp hx with z | hx
    · subst z
      exact He.free_ok X G ((sd c).fact 30 (f := .free "sum") rfl)
    rcases List.mem_cons.mp hx with z | hx
    · subst z
      exact He.free_ok X G ((sd c).fact 31 (f := .free "dict") rfl)
    rcases List.mem_cons.mp hx with z | hx
    · subst z
      exact He.free_ok X G ((sd c).fact 32 (f := .free "max") rfl)
    rcases List.mem_cons.mp hx with z | hx
    · subst z
      exact He.free_ok X G ((sd c).fact 33 (f := .free "enumerate") rfl)
    rcases List.mem_cons.mp hx with z | hx
    · subst z
      exact He.free_ok X G ((sd c).fact 34 (f := .free "range") rfl)
    rcases List.mem_cons.mp hx with z | hx
    · subst z
      exact He.free_ok X G ((sd c).fact 35 (f := .free "zip") rfl)
    rcases List.mem_cons.mp hx with z | hx
    · subst z
      exact He.free_ok X G ((sd c).fact 36 (f := .free "list") rfl)
    rcases List.mem_cons.mp hx with z | hx
    · subst z
      exact He.free_ok X G ((sd c).fact 37 (f := .free "abs") rfl)
    · cases hx
  exc := fun x hx => by
    have hx : x ∈ [("Nothing" : Str), "TooLarge"] := hx
    rcases List.mem_cons.mp hx with z | hx
    · subst z
      exact ⟨_, He.glo_ok X G ((sd c).fact 38 (f := .glo "Nothing") rfl)⟩
    rcases List.mem_cons.mp hx with z | hx
    · subst z
      exact ⟨_, He.glo_ok X G ((sd c).fact 39 (f := .glo "TooLarge") rfl)⟩
    · cases hx
  exm := fun x hx y hy cx cy ex ey => by
    have hx : x ∈ [("Nothing" : Str), "TooLarge"] := hx
    have hy : y ∈ [("Nothing" : Str), "TooLarge"] := hy
    have g1 : mg "Nothing" = some (.ref (He.ga K "Nothing")) := He.glo_ok X G ((sd c).fact 38 (f := .glo "Nothing") rfl)
    have g2 : mg "TooLarge" = some (.ref (He.ga K "TooLarge")) := He.glo_ok X G ((sd c).fact 39 (f := .glo "TooLarge") rfl)
    have ex : mg x = some cx := ex
    have ey : mg y = some cy := ey
    show PySem.W.exmOne K cx cy = _
    rcases List.mem_cons.mp hx with z | hx
    · subst z
      rw [g1] at ex
      cases ex
      rcases List.mem_cons.mp hy with z | hy
      · subst z
        rw [g1] at ey
        cases ey
        exact He.exm_ok ((sd c).fact 41 (f := .exm "Nothing" "Nothing" true) rfl)
      rcases List.mem_cons.mp hy with z | hy
      · subst z
        rw [g2] at ey
        cases ey
        exact He.exm_ok ((sd c).fact 42 (f := .exm "Nothing" "TooLarge" false) rfl)
      · cases hy
    rcases List.mem_cons.mp hx with z | hx
    · subst z
      rw [g2] at ex
      cases ex
      rcases List.mem_cons.mp hy with z | hy
      · subst z
        rw [g1] at ey
        cases ey
        exact He.exm_ok ((sd c).fact 43 (f := .exm "TooLarge" "Nothing" false) rfl)
      rcases List.mem_cons.mp hy with z | hy
      · subst z
        rw [g2] at ey
        cases ey
        exact He.exm_ok ((sd c).fact 44 (f := .exm "TooLarge" "TooLarge" true) rfl)
      · cases hy
    · cases hx
  exr := fun x hx => by
    have hx : x ∈ [("Nothing" : Str)] := hx
    rcases List.mem_cons.mp hx with z | hx
    · subst z
      obtain ⟨h1, h2, h3, h4⟩ := He.exc_ok ((sd c).fact 40 (f := .exc "Nothing") rfl)
      exact ⟨List.mem_cons_self, _, He.glo_ok X G ((sd c).fact 38 (f := .glo "Nothing") rfl), h1, h2, h3, h4⟩
    · cases hx
  no := fun x e hx => by
    cases hx
    obtain ⟨fd, FD⟩ := (sd c).def_ 21 (d := dd "_law_is_nothing" 32) rfl
    obtain ⟨oc, od, dV, kV, doc, pm, an, cdv, ct, osl, e, lk, hcd, h4, h5⟩ := id FD.ex
    refine ⟨List.mem_cons_self, by decide, by decide, _, defArgs (top 32), defScope (top 32), dV, kV, doc, pm, cdv, ct, oc, an, od, osl, "act", ["act"], ⟨144, 8, 144, 11⟩, ⟨144, 8, 144, 13⟩, ⟨144, 8, 144, 13⟩, ⟨145, 15, 145, 20⟩, ⟨145, 8, 145, 20⟩, ⟨146, 11, 146, 18⟩, ⟨147, 15, 147, 19⟩, ⟨147, 8, 147, 19⟩, ⟨146, 4, 147, 19⟩, ⟨143, 4, 147, 19⟩, 0, 0, He.glo_ok X G ((sd c).fact 21 (f := .glo "_law_is_nothing") rfl), FD.kp, hcd, ⟨rfl, rfl, rfl, by decide +kernel, rfl, by decide +kernel, by decide +kernel⟩, rfl, .inl (by decide +kernel), by decide, by decide, by decide +kernel, ?_, ?_⟩
    · have lk2 := lk
      rw [e] at lk2
      exact lk2
    · have b := FD.bindsN (ps := ["act"]) (fun _ _ _ _ _ _ us hl => match us, hl with | [_], _ => rfl)
      rw [e] at b
      exact b
end
section
variable {P : Program} {w : World} {K : PySem.W.Frag} {h : Heap} {mg : Str → Option Value} {base : Heap} {T : List (Addr × Str)}
theorem defs_ok (c : He.SaysX fa fn [] tf exB w h K) (hT : T = [((He.cT K ("side_of", none)).2, lamQ "side_of"), ((He.cT K ("law", none)).2, lamQ "law")]) (hne : (He.cT K ("side_of", none)).2 ≠ (He.cT K ("law", none)).2) (hTB : ∀ p ∈ tf.map (He.cT K), LamX.TabB base mg p.1 p.2) (X : K.In h) (G : h.Ns mainGlobals mg) :
    ∀ i x, (U T).fnm[i]? = some x → DefK (U T) (gxOf (U T) P w K mg base) i x := by
  intro i x hi
  match i, hi with
  | 0, hi => cases hi; exact d_is_integer c X G
  | 1, hi => cases hi; exact d_is_count c X G
  | 2, hi => cases hi; exact d_is_small c X G
  | 3, hi => cases hi; exact d_tidied c X G
  | 4, hi => cases hi; exact d_number c X G
  | 5, hi => cases hi; exact d_count_of c X G
  | 6, hi => cases hi; exact d_pots_of c X G
  | 7, hi => cases hi; exact d_plus c X G
  | 8, hi => cases hi; exact d_negative c X G
  | 9, hi => cases hi; exact d_minus c X G
  | 10, hi => cases hi; exact d_times c X G
  | 11, hi => cases hi; exact d_falling c X G
  | 12, hi => cases hi; exact d_weight_of_side c X G
  | 13, hi => cases hi; exact d_side_of c hT hne hTB X G
  | 14, hi => cases hi; exact d_shift_of c X G
  | 15, hi => cases hi; exact d_worth_at c X G
  | 16, hi => cases hi; exact d__law_bag c X G
  | 17, hi => cases hi; exact d__law_take c X G
  | 18, hi => cases hi; exact d__law_weights c X G
  | 19, hi => cases hi; exact d__law_poly c X G
  | 20, hi => cases hi; exact d__law_at c X G
  | 21, hi => cases hi; exact d_law c hT hne hTB X G
  | _ + 22, hi => cases hi
end
end K64
-- H64d
set_option Elab.async false
set_option linter.all false
set_option maxRecDepth 100000
set_option maxHeartbeats 0
namespace K64
open PySem PySem.Spec PyProof.Rows L2 Ev
theorem law_at (hL : LawEv F 12 21) {w : World} {mg : Str → Option Value} {fa : Addr} {h : Heap} (G : h.Ns mainGlobals mg) (hmg : mg ("law" : Str) = some (.ref fa)) {K : PySem.W.Frag} (X : K.In h) (c : He.SaysX K64.fa fn [] tf exB w h K) :
    LamX.LawAtS PySem.Challenge.rw_thrownpots_k64_polynomials_of_weights w K (L2.CX PySem.Challenge.rw_thrownpots_k64_polynomials_of_weights.prog w) 36 63 "script" mg fa h := by
  have e := hmg.symm.trans (He.glo_ok X G ((sd c).fact 22 (f := .glo "law") rfl))
  cases e
  obtain ⟨fd, FD⟩ := (sd c).def_ 22 (d := dd "law" 33) rfl
  obtain ⟨oc, od, dV, kV, doc, pm, an, cdv, ct, osl, e, lk, hcd, h4, h5⟩ := id FD.ex
  obtain ⟨cc, hcc⟩ := He.codeIn_ref hcd
  have ec : fd.code = .ref (He.cT K ("law", none)).1 := by
    have e1 : He.codeOf K ("law", none) = cc := He.codeOf_eq lk (by rw [e]; exact hcc)
    show fd.code = .ref (He.codeOf K ("law", none))
    rw [e1, e]
    exact hcc
  have hne : (He.cT K ("side_of", none)).2 ≠ (He.cT K ("law", none)).2 := of_decide_eq_true c.more
  refine ⟨fd, tf.map (He.cT K), spX K (tf.map (He.cT K)), fun p hp => ?_, fun p hp => ?_, fun p hp => ?_, fun s v => ?_, fun H a ns hl hb hT hS => ⟨a, ns, rfl, hl, hb, hS, hT, fun _ => rfl⟩, fun base hKb hGb hTB => ?_⟩
  · obtain ⟨q, hq, rfl⟩ := List.mem_map.mp hp
    exact c.empty q hq
  · obtain ⟨q, hq, rfl⟩ := List.mem_map.mp hp
    exact c.out q hq
  · obtain ⟨q, hq, rfl⟩ := List.mem_map.mp hp
    exact PySem.W.codeHd_of_K X (c.hd q hq)
  · exact FD.bindsA (ps := ["script"]) (fun _ _ _ _ _ _ us hl => match us, hl with | [_], _ => rfl) s [v] rfl
  · refine law_run (u := U [((He.cT K ("side_of", none)).2, lamQ "side_of"), ((He.cT K ("law", none)).2, lamQ "law")]) (n := 12) (i := 21) hL (fun q hq => ?_)
      (def_fn (n := 11) (N := n_law) (ps := n_law.take 1) (f := f_law) (k := 40) (j := 40) (lam := true) (fax_all (st_ok c X G) (defs_ok c rfl hne hTB X G) 11) FD ⟨rfl, rfl, rfl, by decide +kernel, rfl, by decide +kernel, by decide +kernel⟩ rfl rfl rfl (c_law _) (fun _ => ⟨_, _, ec, hTB (He.cT K ("law", none)) (by simp [tf]), by simp [U], (uniqT hne).2⟩))
    have hq : q ∈ [((He.cT K ("side_of", none)).2, lamQ "side_of"), ((He.cT K ("law", none)).2, lamQ "law")] := hq
    rcases List.mem_cons.mp hq with z | hq
    · exact ⟨He.cT K ("side_of", none), by simp [tf], by rw [z]⟩
    · exact ⟨He.cT K ("law", none), by simp [tf], by rw [List.mem_singleton.mp hq]⟩
theorem end_of (run : ∀ w, HandSHeadRun.RunEq R (PySem.W.view R.prog [33]) hk ob 4000 loose w) (hL : LawEv F 12 21) : PySem.Challenge.rw_thrownpots_k64_polynomials_of_weights.Holds := by
  open PySem.W PySem.Calls in
  w_on; o_law
  refine HandSHeadRun.head_any (r := PySem.W.OpenLaw.row PySem.Challenge.rw_thrownpots_k64_polynomials_of_weights) (q := PySem.W.view (PySem.W.OpenLaw.row PySem.Challenge.rw_thrownpots_k64_polynomials_of_weights).prog [33]) (H := hk) (ob := ob) (M := 4000) (loose := loose) (d := HandSHeadRun.topDef (PySem.W.OpenLaw.row PySem.Challenge.rw_thrownpots_k64_polynomials_of_weights).prog 33) (kwd := []) ob_eq
    (by kernel_rfl) (fun s => by kernel_rfl) run (by kernel_rfl) (by kernel_rfl) (by kernel_rfl) (by rfl) (by first | assumption | decide +kernel) (by decide +kernel) ⟨rfl, rfl, rfl, rfl, rfl, by decide +kernel⟩ ?hw ?hc
  case hw => w_witness2
  case hc =>
    refine LamX.walk_ofTsE (l := PySem.Challenge.rw_thrownpots_k64_polynomials_of_weights) (n := 63) (k := 36) (x := "script") (CX := fun w => L2.CX PySem.Challenge.rw_thrownpots_k64_polynomials_of_weights.prog w) rfl (by decide) (by kernel_rfl) ⟨rfl, by decide, by decide⟩ ?F (fun w H s e s' z => by
      obtain ⟨_, _, _, _, _, _, _, _, _, _, _, _, z⟩ := z
      exact z.elim)
    intro w mg fa h Y G hmg0
    obtain ⟨K, KX, c⟩ := Y
    have hmg : mg ("law" : PySem.Str) = some (.ref fa) := by
      have e : (HandSHeadRun.topDef (PySem.W.OpenLaw.row PySem.Challenge.rw_thrownpots_k64_polynomials_of_weights).prog 33).name = ("law" : PySem.Str) := by kernel_rfl
      rw [← e]
      exact hmg0
    exact ⟨K, KX, law_at hL G hmg KX c⟩
end K64
theorem PySem.Challenge.cw_thrownpots_k64_polynomials_of_weights_holds : PySem.Challenge.rw_thrownpots_k64_polynomials_of_weights.Holds := by
  exact K64.end_of K64.run K64.plain
