import PyProof.Rows.All
import Wide.All
import OpenK.AllK
import Wide.FinOn
import KE.KStateDown
import HandS.ForMost
import HandS.Exc
import HandS.Defaults
import HandS.Wide
import HandS.Lambda
import KE.KDictKeyed
import KE.KeyNested
import KE.DataEq
import KE.DataCmp
import KE.SortData
import HandS.Base
import HandS.Call
import HandS.List
import HandS.TupMul
import HandS.TupAny
import HandS.WideMore
import HandS.Flow
import HandS.DictTup
import HandS.Conv
import HandS.SortInts
import HandS.IsInst
import KE.KTupSum
import HandS.Dict
import HandS.TupLen
import PyProof.Rows.TupDisplay
import KE.KDictPairs
import HandS.CallSlots
import KE.GoesEnum
import KE.KDictWalk
import HandS.Iter
import HandS.Zip
import HandS.Comp
import HandS.ExcOwn
import HandS.TryOnly
import PyProof.ExcBaseAll.ValueError
import HandS.Star
import HandS.SortKw
import KE.DataMinKey
import PyProof.TupleIter
import HandS.EndBits
import HandS.EndTab
import HandS.HeadHook1
import HandS.HeadHook2
import HandS.HeadHook3
import HandS.HeadHook4
import HandS.HeadWalk
import HandS.Head0
import HandS.Head1
import HandS.Head2
import HandS.HeadEnd
import PySem.Challenge.RW_thrownpots_k02_machines_with_coins_and_d
-- Ev0
set_option Elab.async false
set_option linter.all false
set_option maxRecDepth 100000
/-! Ev: a small evaluator of the language's pure part over plain data, with a store of lists and dicts. -/
namespace Ev
open PySem PySem.Spec PyProof.Rows L2

/-- values: tuples by value, lists and dicts by their place in the store, defs by their number -/
inductive D where
  | non | bl (b : Bool) | int (i : Int) | str (s : Str) | tup (xs : List D) | ref (k : Nat) | fn (i : Nat)
  deriving Inhabited

mutual
def D.py : D → PyData
  | .non => .none
  | .bl b => .bool b
  | .int i => .int i
  | .str s => .str s
  | .tup xs => .tuple (D.pys xs)
  | .ref _ => .none
  | .fn _ => .none
def D.pys : List D → List PyData
  | [] => []
  | x :: xs => x.py :: D.pys xs
end
mutual
/-- no place of the store, no def within -/
def D.pure : D → Bool
  | .tup xs => D.pures xs
  | .ref _ => false
  | .fn _ => false
  | _ => true
def D.pures : List D → Bool
  | [] => true
  | x :: xs => x.pure && D.pures xs
end
mutual
def D.dep : D → Nat
  | .tup xs => D.deps xs + 1
  | _ => 0
def D.deps : List D → Nat
  | [] => 0
  | x :: xs => max x.dep (D.deps xs)
end
mutual
/-- all places below n -/
def D.bnd (n : Nat) : D → Bool
  | .tup xs => D.bnds n xs
  | .ref k => decide (k < n)
  | _ => true
def D.bnds (n : Nat) : List D → Bool
  | [] => true
  | x :: xs => x.bnd n && D.bnds n xs
end
mutual
/-- as a key of a dict -/
def D.nk : D → NestedKey
  | .non => .none
  | .bl b => .num (if b = true then 1 else 0)
  | .int i => .num i
  | .str s => .text s
  | .tup xs => .tup (D.nks xs)
  | .ref _ => .none
  | .fn _ => .none
def D.nks : List D → List NestedKey
  | [] => []
  | x :: xs => x.nk :: D.nks xs
end
/-- what a dict's key may be: a tuple of plain data, not too deep -/
def D.isKey : D → Bool
  | .tup xs => D.pures xs && decide (D.deps xs ≤ 7)
  | _ => false
def keq (a b : D) : Bool := NestedKey.beq a.nk b.nk
def getD (kvs : List (D × D)) (k : D) : Option D := (kvs.find? fun p => keq p.1 k).map (·.2)
def putD (kvs : List (D × D)) (k v : D) : List (D × D) :=
  if kvs.any (fun p => keq p.1 k) then kvs.map (fun p => if keq p.1 k then (p.1, v) else p) else kvs ++ [(k, v)]

inductive Cell where
  | lst (lk : Bool) (xs : List D)
  | ro (xs : List D)
  | dT (lk : Bool) (kvs : List (D × D))
  deriving Inhabited
abbrev Store := List Cell
abbrev Env := List (Option D)
def Cell.bnd (n : Nat) : Cell → Bool
  | .lst _ xs => D.bnds n xs
  | .ro xs => D.bnds n xs
  | .dT _ kvs => kvs.all fun p => p.1.bnd n && p.2.bnd n
def lockAt (S : Store) (k : Nat) : Bool := match S[k]? with
  | some (.lst b _) => b
  | some (.dT b _) => b
  | _ => true
def setLock (S : Store) (k : Nat) (b : Bool) : Store := match S[k]? with
  | some (.lst _ xs) => S.set k (.lst b xs)
  | some (.dT _ kvs) => S.set k (.dT b kvs)
  | _ => S

/-- a value, or a new list or dict that stands in no place yet -/
inductive T where
  | v (d : D) | l (xs : List D) | t (kvs : List (D × D))
  deriving Inhabited
/-- an exception: its class, its arguments -/
structure Xc where
  cls : Str
  args : List D
  deriving Inhabited
inductive R (α : Type) where
  | ok (a : α) (S : Store) | exc (x : Xc) (S : Store) | bad
  deriving Inhabited
def R.bind {α β : Type} (r : R α) (f : α → Store → R β) : R β := match r with
  | .ok a S => f a S
  | .exc x S => .exc x S
  | .bad => .bad
inductive Fl where
  | nx | bk | ct | rt (t : T)
  deriving Inhabited
inductive SR where
  | ok (f : Fl) (ρ : Env) (S : Store) | exc (x : Xc) (ρ : Env) (S : Store) | bad
  deriving Inhabited

/-- a length that a list, a tuple, a dict may have -/
def lim : Nat := 1000000

inductive Op2 where
  | add | sub | mul | mod | fdiv | pow
  deriving DecidableEq
inductive Cm where
  | eq | ne | lt | le | gt | ge | isN | noN
  deriving DecidableEq
inductive Bi where
  | len | all | sum | sorted | tuple | list | dict | abs | int | max2 | max1 | isInt | isBool | isTup | range | range2 | zip | enum
  deriving DecidableEq
inductive Me where
  | get2 | items | append
  deriving DecidableEq
inductive Tg where
  | v (i : Nat) | tup (ts : List Tg)
inductive Ex where
  | c (d : D) | v (i : Nat) | gc (x : Str) (d : D) | gf (f : Nat)
  | tup (es : List Ex) | lst (es : List Ex) | dT0 | dT1 (k v : Ex)
  | bin (o : Op2) (a b : Ex) | neg (a : Ex) | not (a : Ex)
  | and (es : List Ex) | or (es : List Ex)
  | cmp (o : Cm) (a b : Ex) | chn (o o' : Cm) (a b c : Ex)
  | ife (t a b : Ex)
  | ix (a i : Ex) | sl (bl bh : Bool) (a lo hi : Ex)
  | call (f : Nat) (es : List Ex)
  | bi (b : Bi) (es : List Ex)
  | me (m : Me) (o : Ex) (es : List Ex)
  | lc (own : List Nat) (elt : Ex) (tg : Tg) (it : Ex) (conds : List Ex)
  | isNo (x : Str) (e : Ex)
  | maxk (o : Ex)
  | callv (i : Nat) (es : List Ex)
  | tupS (bs : List Bool) (es : List Ex)
  | sel (ks : List Str) (vs : List Ex) (o : Bool) (k d : Ex)
  | isin (neg : Bool) (a b : Ex)
inductive St where
  | ex (e : Ex)
  | app (o e : Ex)
  | asg (tg : Tg) (e : Ex)
  | par (i j : Nat) (a b : Ex)
  | seti (o i e : Ex)
  | aug (i : Nat) (o : Op2) (e : Ex)
  | augi (oo i : Ex) (o : Op2) (e : Ex)
  | ite (t : Ex) (a b : List St)
  | for (tg : Tg) (it : Ex) (body : List St)
  | ret (e : Ex) | retN
  | raise0 (x : Str)
  | raise (x : Str) (es : List Ex)
  | try1 (body : List St) (x : Str) (suite : List St)
  | pass | brk | cont
  | ext (o e : Ex)
  | par3 (i j k : Nat) (a b c : Ex)
  | subn (o i : Ex) (j : Nat) (a b : Ex)
  | nots (x : Str) (i : Nat) (es : List Ex)

/-! ### values and the store -/
def mat : T → Store → R D
  | .v d, S => .ok d S
  | .l xs, S => .ok (.ref S.length) (S ++ [.lst false xs])
  | .t kvs, S => .ok (.ref S.length) (S ++ [.dT false kvs])
/-- a list -/
def asL (t : T) (S : Store) : Option (List D) := match t with
  | .l xs => some xs
  | .v (.ref k) => (match S[k]? with
    | some (.lst _ xs) => some xs
    | some (.ro xs) => some xs
    | _ => none)
  | _ => none
/-- a list of one's own -/
def asM (t : T) (S : Store) : Option (List D) := match t with
  | .l xs => some xs
  | .v (.ref k) => (match S[k]? with
    | some (.lst _ xs) => some xs
    | _ => none)
  | _ => none
/-- a list or a tuple -/
def asQ (t : T) (S : Store) : Option (List D) := match t with
  | .v (.tup xs) => some xs
  | t => asL t S
/-- a dict -/
def asT (t : T) (S : Store) : Option (List (D × D)) := match t with
  | .t kvs => some kvs
  | .v (.ref k) => (match S[k]? with
    | some (.dT _ kvs) => some kvs
    | _ => none)
  | _ => none
/-- as plain data -/
def toPy (t : T) (S : Store) : Option PyData := match t with
  | .v (.ref k) => (match S[k]? with
    | some (.lst _ xs) => if D.pures xs then some (.list (D.pys xs)) else none
    | some (.ro xs) => if D.pures xs then some (.list (D.pys xs)) else none
    | _ => none)
  | .l xs => if D.pures xs then some (.list (D.pys xs)) else none
  | .v d => if d.pure then some d.py else none
  | .t _ => none
def truth (t : T) (S : Store) : Option Bool := match t with
  | .v .non => some false
  | .v (.bl b) => some b
  | .v (.int i) => some (i != 0)
  | .v (.tup xs) => some (!xs.isEmpty)
  | t => (asL t S).map fun xs => !xs.isEmpty
def opt {α : Type} (o : Option α) (S : Store) : R α := match o with
  | some a => .ok a S
  | none => .bad
def mulOk (i j : Int) : Bool := decide (i.natAbs < 2 ^ 64) || decide (j.natAbs < 2 ^ 64) || (decide (i.natAbs < 2 ^ 400000) && decide (j.natAbs < 2 ^ 400000))
def binI (o : Op2) (i j : Int) : Option Int := match o with
  | .add => some (i + j)
  | .sub => some (i - j)
  | .mul => if mulOk i j then some (i * j) else none
  | .mod => if 0 < j then some (i % j) else none
  | .fdiv => if 0 < j ∧ j.natAbs < 2 ^ 8000 then some (i / j) else none
  | .pow => if 0 ≤ j ∧ j ≤ 1000000 ∧ i.natAbs < 2 ^ 64 then some (i ^ j.toNat) else none
def bin2 (o : Op2) (a b : T) (S : Store) : Option T := match o, a, b with
  | .mul, .v (.tup xs), .v (.int k) => if -(2 ^ 63) ≤ k ∧ k ≤ 1000 ∧ xs.length ≤ 1000 then some (.v (.tup (List.replicate k.toNat xs).flatten)) else none
  | .add, .v (.tup xs), .v (.tup ys) => if xs.length + ys.length ≤ lim then some (.v (.tup (xs ++ ys))) else none
  | o, .v (.int i), .v (.int j) => (binI o i j).map fun k => .v (.int k)
  | .add, a, b => (match asM a S, asM b S with
    | some xs, some ys => if xs.length + ys.length ≤ lim then some (.l (xs ++ ys)) else none
    | _, _ => none)
  | _, _, _ => none
/-- op= : ints alone -/
def aug2 (o : Op2) (a b : T) : Option D := match a, b with
  | .v (.int i), .v (.int j) => (binI o i j).map .int
  | _, _ => none
def cmpI (o : Cm) (i j : Int) : Option Bool := match o with
  | .lt => some (decide (i < j))
  | .le => some (decide (i ≤ j))
  | .gt => some (decide (j < i))
  | .ge => some (decide (j ≤ i))
  | _ => none
def T.isNon : T → Bool
  | .v .non => true
  | _ => false
def eqT (a b : T) (S : Store) : Option Bool := match toPy a S, toPy b S with
  | some d, some e => if min d.depth e.depth ≤ 60 then some (PyData.eqv d e) else none
  | _, _ => none
def cmp2 (o : Cm) (a b : T) (S : Store) : Option Bool := match o with
  | .eq => eqT a b S
  | .ne => (eqT a b S).map fun k => !k
  | .isN => if b.isNon then some a.isNon else none
  | .noN => if b.isNon then some (!a.isNon) else none
  | o => (match a, b with
    | .v (.int i), .v (.int j) => cmpI o i j
    | _, _ => none)
def ixAt (xs : List D) (i : Int) : Option D := L2.atI xs i
def cutD (xs : List D) (lo hi : Option Int) : List D := (xs.drop (HT.sIx xs.length 0 lo)).take (HT.sIx xs.length xs.length hi - HT.sIx xs.length 0 lo)
def slice (a : T) (lo hi : Option Int) (S : Store) : Option T := match a with
  | .v (.tup xs) => some (.v (.tup (cutD xs lo hi)))
  | a => (asL a S).map fun xs => .l (cutD xs lo hi)
def intL : List D → Option (List Int)
  | [] => some []
  | .int i :: r => (intL r).map (i :: ·)
  | _ => none
def bools : List D → Option (List Bool)
  | [] => some []
  | .bl i :: r => (bools r).map (i :: ·)
  | _ => none
/-- a row of pairs (key, value) -/
def pairs : List D → Option (List (D × D))
  | [] => some []
  | .tup [k, v] :: r => if k.isKey then (pairs r).map ((k, v) :: ·) else none
  | _ => none
def intsFrom (lo : Int) : Nat → List D
  | 0 => []
  | n + 1 => .int lo :: intsFrom (lo + 1) n
def zipD : List D → List D → List D
  | x :: xs, y :: ys => .tup [x, y] :: zipD xs ys
  | _, _ => []
def enumD (i : Int) : List D → List D
  | [] => []
  | x :: xs => .tup [.int i, x] :: enumD (i + 1) xs
def itemD (kvs : List (D × D)) : List D := kvs.map fun p => .tup [p.1, p.2]
def D.isNone : D → Bool
  | .non => true
  | _ => false
/-- what may be sorted: all alike each other; tuples that are not empty, or no tuples and not None -/
def sortable (xs : List D) : Bool :=
  D.pures xs && (xs.all fun x => xs.all fun y => PySem.W.alike x.py y.py) && decide (D.deps xs ≤ 50) && decide (xs.length ≤ lim) &&
    ((xs.all fun x => match x with | .tup (_ :: _) => true | _ => false) || (xs.all fun x => match x with | .int _ => true | .str _ => true | .bl _ => true | _ => false))
def leD (x y : D) : Bool := PySem.W.dataLe false D.py x y
def insD (x : D) : List D → List D
  | [] => [x]
  | y :: ys => if leD x y then x :: y :: ys else y :: insD x ys
def sortD (xs : List D) : List D := xs.foldr insD []
def isI : D → Bool
  | .int _ => true
  | _ => false
/-- neither a tuple nor a thing with parts -/
def D.flat : D → Bool
  | .non => true
  | .bl _ => true
  | .int _ => true
  | .str _ => true
  | _ => false
def inD (xs : List D) (x : D) : Bool := xs.any fun y => PyData.eqv y.py x.py
def maxI : Int → List Int → Int
  | m, [] => m
  | m, x :: xs => maxI (if x > m then x else m) xs
def biF (b : Bi) (ts : List T) (S : Store) : Option T := match b, ts with
  | .len, [t] => (match asQ t S with
    | some xs => some (.v (.int xs.length))
    | none => (asT t S).map fun kvs => .v (.int kvs.length))
  | .all, [t] => (asL t S).bind fun xs => (bools xs).map fun bs => .v (.bl (bs.all id))
  | .sum, [t] => (asQ t S).bind fun xs => (intL xs).map fun ns => .v (.int ns.sum)
  | .sorted, [t] => (asQ t S).bind fun xs => if sortable xs then some (.l (sortD xs)) else none
  | .tuple, [t] => (asQ t S).map fun xs => .v (.tup xs)
  | .list, [t] => (asQ t S).map fun xs => .l xs
  | .dict, [t] => (asQ t S).bind fun xs => if xs.length ≤ lim then (pairs xs).map fun kvs => .t (kvs.foldl (fun acc p => putD acc p.1 p.2) []) else none
  | .abs, [.v (.int i)] => some (.v (.int (if i < 0 then -i else i)))
  | .int, [.v (.int i)] => some (.v (.int i))
  | .max2, [.v (.int i), .v (.int j)] => some (.v (.int (if j > i then j else i)))
  | .max1, [t] => (asL t S).bind fun xs => (intL xs).bind fun ns => (match ns with
    | m :: ms => some (.v (.int (maxI m ms)))
    | [] => none)
  | .isTup, [.v (.tup _)] => some (.v (.bl true))
  | .isTup, [.v .non] => some (.v (.bl false))
  | .isTup, [.v (.int _)] => some (.v (.bl false))
  | .isTup, [.v (.bl _)] => some (.v (.bl false))
  | .isTup, [.v (.str _)] => some (.v (.bl false))
  | .isInt, [.v (.int _)] => some (.v (.bl true))
  | .isInt, [.v (.bl _)] => some (.v (.bl true))
  | .isInt, [.v .non] => some (.v (.bl false))
  | .isInt, [.v (.str _)] => some (.v (.bl false))
  | .isBool, [.v (.bl _)] => some (.v (.bl true))
  | .isBool, [.v (.int _)] => some (.v (.bl false))
  | .isBool, [.v .non] => some (.v (.bl false))
  | .isBool, [.v (.str _)] => some (.v (.bl false))
  | _, _ => none
def meF (m : Me) (t : T) (ts : List T) (S : Store) : R T := match m, t, ts with
  | .get2, t, [.v k, .v x] => (match asT t S with
    | some kvs => if k.isKey then .ok (.v ((getD kvs k).getD x)) S else .bad
    | none => .bad)
  | .append, .v (.ref k), [.v d] => (match S[k]? with
    | some (.lst false xs) => if xs.length < lim then .ok (.v .non) (S.set k (.lst false (xs ++ [d]))) else .bad
    | _ => .bad)
  | _, _, _ => .bad
/-- what may receive the method -/
def rcv (m : Me) (t : T) (S : Store) : Bool := match m with
  | .get2 => (asT t S).isSome
  | .items => (asT t S).isSome
  | .append => (asM t S).isSome
def setF (o i : T) (d : D) (S : Store) : Option Store := match o, i with
  | .v (.ref k), .v i => (match S[k]?, i with
    | some (.lst false xs), .int j => (match L2.ixN xs.length j with
      | some p => some (S.set k (.lst false (xs.set p d)))
      | none => none)
    | some (.dT false kvs), k' => if k'.isKey ∧ kvs.length < lim then some (S.set k (.dT false (putD kvs k' d))) else none
    | _, _ => none)
  | _, _ => none
/-- o.extend(t) -/
def extF (o t : T) (S : Store) : Option Store := match o with
  | .v (.ref k) => (match S[k]?, asM t S with
    | some (.lst false xs), some ys => if xs.length + ys.length ≤ lim then some (S.set k (.lst false (xs ++ ys))) else none
    | _, _ => none)
  | _ => none
/-- x in t -/
def inF (a b : T) (S : Store) : Option Bool := match a, asQ b S with
  | .v x, some xs => if x.flat && xs.all D.flat then some (inD xs x) else none
  | _, _ => none
def selF (ks : List Str) (ds : List D) (s : Str) : Option D := (ks.zip ds).lookup s
def getF (a i : T) (S : Store) : Option T := match i with
  | .v (.int j) => (match asQ a S with
    | some xs => (ixAt xs j).map .v
    | none => none)
  | _ => none

mutual
def asg : Tg → D → Env → Option Env
  | .v i, d, ρ => if i < ρ.length then some (ρ.set i (some d)) else none
  | .tup ts, .tup ds, ρ => asgs ts ds ρ
  | .tup _, _, _ => none
def asgs : List Tg → List D → Env → Option Env
  | [], [], ρ => some ρ
  | t :: ts, d :: ds, ρ => (asg t d ρ).bind fun ρ' => asgs ts ds ρ'
  | _, _, _ => none
end
def wipeE (ρ : Env) : List Nat → Env
  | [] => ρ
  | v :: vs => (wipeE ρ vs).set v none

/-- behind a call that began at S: what it left in new places is forgotten where nothing leads there -/
def T.bnd (n : Nat) : T → Bool
  | .v d => d.bnd n
  | .l xs => D.bnds n xs
  | .t kvs => kvs.all fun p => p.1.bnd n && p.2.bnd n
def fresh (n : Nat) (t : T) (S : Store) : T := match t with
  | .v (.ref k) => if k < n then t else (match S[k]? with
    | some (.lst false xs) => .l xs
    | some (.dT false kvs) => .t kvs
    | _ => t)
  | t => t
def oldOk (n : Nat) (S' : Store) : Bool := (S'.take n).all fun c => c.bnd n
def finish (n : Nat) (t : T) (S' : Store) : R T :=
  if (fresh n t S').bnd n && oldOk n S' then .ok (fresh n t S') (S'.take n) else .ok t S'
def finishX (n : Nat) (x : Xc) (S' : Store) : R T :=
  if D.bnds n x.args && oldOk n S' then .exc x (S'.take n) else .exc x S'
def fin (n : Nat) : R T → R T
  | .ok t S' => finish n t S'
  | .exc x S' => finishX n x S'
  | .bad => .bad

/-- what must not raise -/
def noX {α : Type} (r : R α) : R α := match r with
  | .exc _ _ => .bad
  | r => r
def loopC (f : D → Store → R (Option D)) : List D → Store → R (List D)
  | [], S => .ok [] S
  | x :: xs, S => (f x S).bind fun o S1 => (loopC f xs S1).bind fun ys S2 => .ok (match o with | some y => y :: ys | none => ys) S2
def loopS (f : D → Env → Store → SR) : List D → Env → Store → SR
  | [], ρ, S => .ok .nx ρ S
  | x :: xs, ρ, S => match f x ρ S with
    | .ok .nx ρ1 S1 => loopS f xs ρ1 S1
    | .ok .ct ρ1 S1 => loopS f xs ρ1 S1
    | .ok .bk ρ1 S1 => .ok .nx ρ1 S1
    | r => r

/-- the first item with the greatest key -/
def maxFrom (x k : D) : List D → List D → D
  | y :: ys, l :: ls => if PySem.W.dataLt k.py l.py then maxFrom y l ys ls else maxFrom x k ys ls
  | _, _ => x
/-- what the one key= of this program tells of (powers, ..): (sum(powers), powers) -/
def keyOf : D → Option D
  | .tup (.tup ps :: _) => (intL ps).map fun ns => .tup [.int ns.sum, .tup ps]
  | _ => none
def keysOf : List D → Option (List D)
  | [] => some []
  | x :: xs => (match keyOf x, keysOf xs with
    | some k, some ks => some (k :: ks)
    | _, _ => none)
def keysOk (ks : List D) : Bool := ks.all (fun a => ks.all fun b => PySem.W.alike a.py b.py) && decide (D.deps ks ≤ 50) && D.pures ks
def maxK : T → Option T
  | .v (.tup (x :: xs)) => (match keysOf (x :: xs) with
    | some (k :: ks) => if keysOk (k :: ks) then some (.v (maxFrom x k xs ks)) else none
    | _ => none)
  | _ => none
/-- the call of a def by its number -/
abbrev Calls := Nat → List D → Store → R T
/-- of what a for walks: its items, the place that is locked meanwhile -/
def itQ0 (t : T) (S : Store) : Option (List D × Option Nat) := match t with
  | .v (.ref k) => (match asL t S with
    | some xs => some (xs, if lockAt S k then none else some k)
    | none => none)
  | .v (.tup xs) => some (xs, none)
  | .l xs => some (xs, none)
  | _ => none
/-- the keys of a dict -/
def keysQ (t : T) (S : Store) : Option (List D × Option Nat) := match t with
  | .v (.ref k) => (asT (.v (.ref k)) S).map fun kvs => (kvs.map (·.1), if lockAt S k then none else some k)
  | _ => none
def itQ (t : T) (S : Store) : Option (List D × Option Nat) := match itQ0 t S with
  | some w => some w
  | none => keysQ t S
def lockO (S : Store) (o : Option Nat) (b : Bool) : Store := match o with
  | some k => setLock S k b
  | none => S
/-- the iterator forms: (items, locked place) -/
def itF (b : Bi) (ts : List T) (S : Store) : Option (List D × Option Nat) := match b, ts with
  | .range, [.v (.int j)] => if -(2 ^ 62) ≤ j ∧ j < 2 ^ 62 then some (intsFrom 0 j.toNat, none) else none
  | .range2, [.v (.int i), .v (.int j)] => if -(2 ^ 62) ≤ i ∧ i < 2 ^ 62 ∧ -(2 ^ 62) ≤ j ∧ j < 2 ^ 62 then some (intsFrom i (j - i).toNat, none) else none
  | .zip, [.v (.tup xs), .v (.tup ys)] => some (zipD xs ys, none)
  | .enum, [.v (.tup xs)] => some (enumD 0 xs, none)
  | b, ts => none
def isIt : Bi → Bool
  | .range => true
  | .range2 => true
  | .zip => true
  | .enum => true
  | _ => false

/-- what an expression is worth: as a value, as a test, as what is walked -/
structure Sm where
  E : Env → Store → R T
  B : Env → Store → R Bool
  I : Env → Store → R (List D × Option Nat)
def mk (E : Env → Store → R T) : Sm := ⟨E, fun ρ S => (E ρ S).bind fun t S1 => opt (truth t S1) S1, fun ρ S => (E ρ S).bind fun t S1 => opt (itQ t S1) S1⟩
def mkB (B : Env → Store → R Bool) : Sm := ⟨fun ρ S => (B ρ S).bind fun k S1 => .ok (.v (.bl k)) S1, B, fun _ _ => .bad⟩
/-- a slice's part, where one is written -/
def evP (b : Bool) (E : Env → Store → R T) (ρ : Env) (S : Store) : R (Option Int) := if b then (E ρ S).bind fun t S1 => (match t with
  | .v (.int i) => .ok (some i) S1
  | _ => .bad) else .ok none S
/-- values that stand in places -/
def evM : List Sm → Env → Store → R (List D)
  | [], _, S => .ok [] S
  | e :: es, ρ, S => (e.E ρ S).bind fun t S1 => (mat t S1).bind fun d S2 => (evM es ρ S2).bind fun ds S3 => .ok (d :: ds) S3
def evTs : List Sm → Env → Store → R (List T)
  | [], _, S => .ok [] S
  | e :: es, ρ, S => (e.E ρ S).bind fun t S1 => (evTs es ρ S1).bind fun ts S2 => .ok (t :: ts) S2
/-- the same with some that are put in item by item -/
def evMS : List Bool → List Sm → Env → Store → R (List D)
  | [], [], _, S => .ok [] S
  | true :: bs, e :: es, ρ, S => (e.E ρ S).bind fun t S1 => (opt (asQ t S1) S1).bind fun xs S2 => (evMS bs es ρ S2).bind fun ds S3 => .ok (xs ++ ds) S3
  | false :: bs, e :: es, ρ, S => ((e.E ρ S).bind mat).bind fun d S2 => (evMS bs es ρ S2).bind fun ds S3 => .ok (d :: ds) S3
  | _, _, _, _ => .bad
/-- all of some tests, one of some -/
def evC : List Sm → Env → Store → R Bool
  | [], _, S => .ok true S
  | e :: es, ρ, S => (e.B ρ S).bind fun k S1 => if k then evC es ρ S1 else .ok false S1
def evO : List Sm → Env → Store → R Bool
  | [], _, S => .ok false S
  | e :: es, ρ, S => (e.B ρ S).bind fun k S1 => if k then .ok true S1 else evO es ρ S1
def evAnd : List Sm → Env → Store → R T
  | [], _, S => .bad
  | [e], ρ, S => e.E ρ S
  | e :: es, ρ, S => (e.E ρ S).bind fun t S1 => (opt (truth t S1) S1).bind fun k S2 => if k then evAnd es ρ S2 else .ok t S2
def evOr : List Sm → Env → Store → R T
  | [], _, S => .bad
  | [e], ρ, S => e.E ρ S
  | e :: es, ρ, S => (e.E ρ S).bind fun t S1 => (opt (truth t S1) S1).bind fun k S2 => if k then .ok t S2 else evOr es ρ S2
/-- a comprehension -/
def evL (own : List Nat) (elt : Sm) (tg : Tg) (it : Sm) (conds : List Sm) (ρ : Env) (S : Store) : R T :=
  (it.I ρ S).bind fun w S1 => if w.1.length ≤ lim then
    (noX (loopC (fun x S2 => match asg tg x (wipeE ρ own) with
      | some ρ' => (evC conds ρ' S2).bind fun k S3 => if k then (elt.E ρ' S3).bind fun t S4 => (mat t S4).bind fun d S5 => .ok (some d) S5 else .ok none S3
      | none => .bad) w.1 (lockO S1 w.2 true))).bind fun ys S2 => .ok (.l ys) (lockO S2 w.2 false) else .bad
mutual
def ev (C : Calls) : Ex → Sm
  | .c d => mk fun _ S => .ok (.v d) S
  | .v i => mk fun ρ S => (match ρ[i]? with
    | some (some d) => .ok (.v d) S
    | _ => .bad)
  | .gc _ d => mk fun _ S => .ok (.v d) S
  | .gf f => mk fun _ S => .ok (.v (.fn f)) S
  | .tup es => mk fun ρ S => (evM (evs C es) ρ S).bind fun ds S1 => if ds.length ≤ lim then .ok (.v (.tup ds)) S1 else .bad
  | .lst es => mk fun ρ S => (evM (evs C es) ρ S).bind fun ds S1 => if ds.length ≤ lim then .ok (.l ds) S1 else .bad
  | .dT0 => mk fun _ S => .ok (.t []) S
  | .dT1 k v => mk fun ρ S => ((ev C k).E ρ S).bind fun tk S1 => (mat tk S1).bind fun dk S2 => ((ev C v).E ρ S2).bind fun tv S3 => (mat tv S3).bind fun dv S4 => if dk.isKey then .ok (.t [(dk, dv)]) S4 else .bad
  | .bin o a b => mk fun ρ S => ((ev C a).E ρ S).bind fun ta S1 => ((ev C b).E ρ S1).bind fun tb S2 => opt (bin2 o ta tb S2) S2
  | .neg a => mk fun ρ S => ((ev C a).E ρ S).bind fun ta S1 => (match ta with
    | .v (.int i) => .ok (.v (.int (-i))) S1
    | _ => .bad)
  | .not a => mkB fun ρ S => ((ev C a).B ρ S).bind fun k S1 => .ok (!k) S1
  | .and es => { mk (evAnd (evs C es)) with B := evC (evs C es) }
  | .or es => { mk (evOr (evs C es)) with B := evO (evs C es) }
  | .cmp o a b => mkB fun ρ S => ((ev C a).E ρ S).bind fun ta S1 => ((ev C b).E ρ S1).bind fun tb S2 => opt (cmp2 o ta tb S2) S2
  | .chn o o' a b c => mkB fun ρ S => ((ev C a).E ρ S).bind fun ta S1 => ((ev C b).E ρ S1).bind fun tb S2 => (opt (cmp2 o ta tb S2) S2).bind fun k S3 =>
      if k then ((ev C c).E ρ S3).bind fun tc S4 => opt (cmp2 o' tb tc S4) S4 else .ok false S3
  | .ife t a b => mk fun ρ S => ((ev C t).B ρ S).bind fun k S1 => if k then (ev C a).E ρ S1 else (ev C b).E ρ S1
  | .ix a i => mk fun ρ S => ((ev C a).E ρ S).bind fun ta S1 => ((ev C i).E ρ S1).bind fun ti S2 => opt (getF ta ti S2) S2
  | .sl bl bh a lo hi => mk fun ρ S => ((ev C a).E ρ S).bind fun ta S1 => (evP bl (ev C lo).E ρ S1).bind fun l S2 => (evP bh (ev C hi).E ρ S2).bind fun h S3 => opt (slice ta l h S3) S3
  | .call f es => mk fun ρ S => fin S.length ((evM (evs C es) ρ S).bind fun ds S1 => C f ds S1)
  | .bi b es => { mk (fun ρ S => (evTs (evs C es) ρ S).bind fun ts S1 => opt (biF b ts S1) S1) with
      I := fun ρ S => (evTs (evs C es) ρ S).bind fun ts S1 => if isIt b then opt (itF b ts S1) S1 else (opt (biF b ts S1) S1).bind fun t S2 => opt (itQ t S2) S2 }
  | .me m o es => { mk (fun ρ S => ((ev C o).E ρ S).bind fun t S1 => if rcv m t S1 then (evTs (evs C es) ρ S1).bind fun ts S2 => meF m t ts S2 else .bad) with
      I := fun ρ S => ((ev C o).E ρ S).bind fun t S1 => (match m, t, es with
        | .items, .v (.ref k), [] => opt ((asT (.v (.ref k)) S1).map fun kvs => (itemD kvs, if lockAt S1 k then none else some k)) S1
        | _, _, _ => .bad) }
  | .lc own elt tg it conds => mk (evL own (ev C elt) tg (ev C it) (evs C conds))
  | .isNo x0 e => mkB fun ρ S => (match fin S.length ((ev C e).E ρ S) with
    | .ok _ S1 => .ok false S1
    | .exc x S1 => if x.cls = x0 then .ok true S1 else .bad
    | .bad => .bad)
  | .maxk o => mk fun ρ S => ((ev C o).E ρ S).bind fun t S1 => opt (maxK t) S1
  | .callv i es => mk fun ρ S => (match ρ[i]? with
    | some (some (.fn f)) => fin S.length ((evM (evs C es) ρ S).bind fun ds S1 => C f ds S1)
    | _ => .bad)
  | .tupS bs es => mk fun ρ S => (evMS bs (evs C es) ρ S).bind fun ds S1 => if ds.length ≤ lim then .ok (.v (.tup ds)) S1 else .bad
  | .sel ks vs o k d => mk fun ρ S => (evM (evs C vs) ρ S).bind fun ds S1 => ((ev C k).E ρ S1).bind fun tk S2 => (match tk with
    | .v (.str s) => if o then ((ev C d).E ρ S2).bind fun td S3 => (match td with
        | .v x => .ok (.v ((selF ks ds s).getD x)) S3
        | _ => .bad) else (opt (selF ks ds s) S2).bind fun x S3 => .ok (.v x) S3
    | _ => .bad)
  | .isin neg a b => mkB fun ρ S => ((ev C a).E ρ S).bind fun ta S1 => ((ev C b).E ρ S1).bind fun tb S2 => (opt (inF ta tb S2) S2).bind fun k S3 => .ok (if neg then !k else k) S3
def evs (C : Calls) : List Ex → List Sm
  | [] => []
  | e :: es => ev C e :: evs C es
end

/-! ### statements -/
/-- an expression's result, then a statement's -/
def thenS {α : Type} (r : R α) (ρ : Env) (f : α → Store → SR) : SR := match r with
  | .ok a S => f a S
  | .exc x S => .exc x ρ S
  | .bad => .bad
def optS (o : Option Store) : R Unit := match o with
  | some S => .ok () S
  | none => .bad
def unlockS (o : Option Nat) (r : SR) : SR := match r with
  | .ok f ρ S => .ok f ρ (lockO S o false)
  | .exc x ρ S => .exc x ρ (lockO S o false)
  | .bad => .bad
def seqS (r : SR) (f : Env → Store → SR) : SR := match r with
  | .ok .nx ρ S => f ρ S
  | q => q
def tryS (r : SR) (x : Str) (f : Env → Store → SR) : SR := match r with
  | .exc y ρ S => if y.cls = x then f ρ S else .exc y ρ S
  | q => q
/-- all of them raise what is named -/
def notsS (x0 : Str) : List Sm → Env → Store → SR
  | [], ρ, S => .ok .nx ρ S
  | e :: es, ρ, S => (match fin S.length (e.E ρ S) with
    | .exc x S1 => if x.cls = x0 then notsS x0 es ρ S1 else .bad
    | _ => .bad)
mutual
def sv (n : Nat) (C : Calls) : St → Env → Store → SR
  | .ex e, ρ, S => thenS ((ev C e).E ρ S) ρ fun _ S1 => .ok .nx ρ S1
  | .app o e, ρ, S => thenS (((ev C o).E ρ S).bind fun t S1 => if rcv .append t S1 then (evM [ev C e] ρ S1).bind fun ds S2 => meF .append t (ds.map .v) S2 else .bad) ρ fun _ S1 => .ok .nx ρ S1
  | .asg tg e, ρ, S => thenS (((ev C e).E ρ S).bind mat) ρ fun d S1 => (match asg tg d ρ with
    | some ρ' => .ok .nx ρ' S1
    | none => .bad)
  | .par i j a b, ρ, S => thenS (evM [ev C a, ev C b] ρ S) ρ fun ds S1 => (match ds with
    | [x, y] => if i < ρ.length ∧ j < ρ.length then .ok .nx ((ρ.set i (some x)).set j (some y)) S1 else .bad
    | _ => .bad)
  | .seti o i e, ρ, S => thenS (((ev C e).E ρ S).bind mat) ρ fun d S1 => thenS (((ev C o).E ρ S1).bind fun to S2 => ((ev C i).E ρ S2).bind fun ti S3 => optS (setF to ti d S3)) ρ fun _ S4 => .ok .nx ρ S4
  | .aug i o e, ρ, S => (match ρ[i]? with
    | some (some d) => thenS (((ev C e).E ρ S).bind fun t S1 => opt (aug2 o (.v d) t) S1) ρ fun d' S1 => .ok .nx (ρ.set i (some d')) S1
    | _ => .bad)
  | .augi oo i o e, ρ, S => thenS (((ev C oo).E ρ S).bind fun to S1 => ((ev C i).E ρ S1).bind fun ti S2 => (opt (getF to ti S2) S2).bind fun told S3 => ((ev C e).E ρ S3).bind fun t S4 =>
        (opt (aug2 o told t) S4).bind fun d' S5 => optS (setF to ti d' S5)) ρ fun _ S6 => .ok .nx ρ S6
  | .ite t a b, ρ, S => thenS ((ev C t).B ρ S) ρ fun k S1 => if k then svs n C a ρ S1 else svs n C b ρ S1
  | .for tg it body, ρ, S => thenS ((ev C it).I ρ S) ρ fun w S1 => unlockS w.2 (loopS (fun x ρ1 S2 => match asg tg x ρ1 with
        | some ρ2 => svs n C body ρ2 S2
        | none => .bad) w.1 ρ (lockO S1 w.2 true))
  | .ret e, ρ, S => thenS ((ev C e).E ρ S) ρ fun t S1 => .ok (.rt t) ρ S1
  | .retN, ρ, S => .ok (.rt (.v .non)) ρ S
  | .raise0 x, ρ, S => .exc ⟨x, []⟩ ρ S
  | .raise _ _, _, _ => .bad
  | .try1 body x suite, ρ, S => tryS (svs n C body ρ S) x (fun ρ1 S1 => svs n C suite ρ1 S1)
  | .pass, ρ, S => .ok .nx ρ S
  | .brk, ρ, S => .ok .bk ρ S
  | .cont, ρ, S => .ok .ct ρ S
  | .ext o e, ρ, S => thenS (((ev C o).E ρ S).bind fun to S1 => if rcv .append to S1 then ((ev C e).E ρ S1).bind fun t S2 => optS (extF to t S2) else .bad) ρ fun _ S3 => .ok .nx ρ S3
  | .par3 i j k a b c, ρ, S => thenS (evM [ev C a, ev C b, ev C c] ρ S) ρ fun ds S1 => (match ds with
    | [x, y, w] => if i < ρ.length ∧ j < ρ.length ∧ k < ρ.length then .ok .nx (((ρ.set i (some x)).set j (some y)).set k (some w)) S1 else .bad
    | _ => .bad)
  | .subn o i j a b, ρ, S => thenS (evM [ev C a, ev C b] ρ S) ρ fun ds S1 => (match ds with
    | [x, y] => thenS (((ev C o).E ρ S1).bind fun to S2 => ((ev C i).E ρ S2).bind fun ti S3 => optS (setF to ti x S3)) ρ fun _ S4 => if j < ρ.length then .ok .nx (ρ.set j (some y)) S4 else .bad
    | _ => .bad)
  | .nots x0 i es, ρ, S => if i < ρ.length then notsS x0 (evs C es) (ρ.set i none) S else .bad
def svs (n : Nat) (C : Calls) : List St → Env → Store → SR
  | [], ρ, S => .ok .nx ρ S
  | s :: r, ρ, S => seqS (sv n C s ρ S) (fun ρ1 S1 => svs n C r ρ1 S1)
end
/-- a def: how many parameters, how many names, its body -/
structure Fd where
  np : Nat
  nn : Nat
  body : List St
def startE (nn : Nat) (ds : List D) : Env := ds.map some ++ List.replicate (nn - ds.length) none
def runF (n : Nat) (C : Calls) (fd : Fd) (ds : List D) (S : Store) : R T :=
  if ds.length = fd.np then (match svs n C fd.body (startE fd.nn ds) S with
    | .ok .nx _ S1 => .ok (.v .non) S1
    | .ok (.rt t) _ S1 => .ok t S1
    | .exc x _ S1 => .exc x S1
    | _ => .bad) else .bad
def callN (F : List Fd) : Nat → Calls
  | 0, _, _, _ => .bad
  | n + 1, f, ds, S => (match F[f]? with
    | some fd => runF n (callN F n) fd ds S
    | none => .bad)
end Ev
-- EvS1
set_option Elab.async false
set_option linter.all false
set_option maxRecDepth 100000
set_option maxHeartbeats 4000000
/-! EvS1: how plain data stand in the heap. -/
namespace Ev
open PySem PySem.Spec PyProof.Rows L2

/-- what is fixed through a law: the program, the world, the written part, the module's names, the defs' names by number, the tables of code objects, the names of the classes that are raised -/
structure Gx where
  P : Program
  w : World
  K : PySem.W.Frag
  mg : Str → Option Value
  base : Heap
  fnm : List Str
  T : List (Addr × Str)
  exc : List Str

/-- a tuple that is known to the object, without attributes of its own -/
def PlT (K : PySem.W.Frag) (H : Hp) (a : Addr) (vs : List V) : Prop :=
  (∃ o, H a = some (.frz o (.tup vs)) ∧ o.dict = none) ∨
    ∃ (o : Obj) (its : Array Value) (n : Nat), K.lookup a = some o ∧ o.cls = .type "tuple" ∧ o.dict = none ∧ o.data = .seq its n ∧ its.size ≤ sizeLine ∧ Vals vs its.toList
theorem PlT.sq {K : PySem.W.Frag} {H : Hp} {a : Addr} {vs : List V} (h : PlT K H a vs) : SqT K H a vs := by
  rcases h with ⟨o, h, _⟩ | ⟨o, its, n, h1, h2, _, h3, h4, h5⟩
  · exact .inl (.inr ⟨o, h⟩)
  · exact .inr ⟨o, its, n, h1, h2, h3, h4, h5⟩
theorem PlT.new {K : PySem.W.Frag} {H : Hp} {p : Addr} {o : Obj} {vs : List V} (h : o.dict = none) : PlT K (upd H p (.frz o (.tup vs))) p vs := .inl ⟨o, upd_same, h⟩
mutual
def Enc (g : Gx) (H : Hp) (m : Nat → Addr) (n : Nat) : D → V → Prop
  | .non, v => v = .non
  | .bl b, v => v = .bl b
  | .int i, v => v = .int i
  | .str s, v => v = .str s
  | .tup xs, v => ∃ a vs, v = .ref a ∧ PlT g.K H a vs ∧ EncAll g H m n xs vs
  | .ref k, v => k < n ∧ v = .ref (m k)
  | .fn i, v => ∃ x a, g.fnm[i]? = some x ∧ v = .ref a ∧ g.mg x = some (.ref a)
def EncAll (g : Gx) (H : Hp) (m : Nat → Addr) (n : Nat) : List D → List V → Prop
  | [], vs => vs = []
  | x :: xs, vs => ∃ v r, vs = v :: r ∧ Enc g H m n x v ∧ EncAll g H m n xs r
end
/-- tuples stay -/
def TK (g : Gx) (H H' : Hp) : Prop := ∀ a vs, PlT g.K H a vs → PlT g.K H' a vs
mutual
theorem Enc.mono {g : Gx} {H H' : Hp} {m m' : Nat → Addr} {n n' : Nat} (t : TK g H H') (hn : n ≤ n') (hm : ∀ k, k < n → m' k = m k) : ∀ (d : D) (v : V), Enc g H m n d v → Enc g H' m' n' d v
  | .non, _, h => h
  | .bl _, _, h => h
  | .int _, _, h => h
  | .str _, _, h => h
  | .tup xs, _, h => by
    obtain ⟨a, vs, e, s, r⟩ := h
    exact ⟨a, vs, e, t a vs s, EncAll.mono t hn hm xs vs r⟩
  | .ref k, _, h => ⟨Nat.lt_of_lt_of_le h.1 hn, by rw [hm k h.1]; exact h.2⟩
  | .fn _, _, h => h
theorem EncAll.mono {g : Gx} {H H' : Hp} {m m' : Nat → Addr} {n n' : Nat} (t : TK g H H') (hn : n ≤ n') (hm : ∀ k, k < n → m' k = m k) : ∀ (ds : List D) (vs : List V), EncAll g H m n ds vs → EncAll g H' m' n' ds vs
  | [], _, h => h
  | x :: xs, _, h => by
    obtain ⟨v, r, e, h1, h2⟩ := h
    exact ⟨v, r, e, Enc.mono t hn hm x v h1, EncAll.mono t hn hm xs r h2⟩
end
mutual
/-- a narrower store: what names no place beyond it -/
theorem Enc.narrow {g : Gx} {H : Hp} {m : Nat → Addr} {n n' : Nat} : ∀ (d : D) (v : V), d.bnd n' = true → Enc g H m n d v → Enc g H m n' d v
  | .non, _, _, h => h
  | .bl _, _, _, h => h
  | .int _, _, _, h => h
  | .str _, _, _, h => h
  | .tup xs, _, b, h => by
    obtain ⟨a, vs, e, s, r⟩ := h
    exact ⟨a, vs, e, s, EncAll.narrow xs vs b r⟩
  | .ref k, _, b, h => ⟨of_decide_eq_true b, h.2⟩
  | .fn _, _, _, h => h
theorem EncAll.narrow {g : Gx} {H : Hp} {m : Nat → Addr} {n n' : Nat} : ∀ (ds : List D) (vs : List V), D.bnds n' ds = true → EncAll g H m n ds vs → EncAll g H m n' ds vs
  | [], _, _, h => h
  | x :: xs, _, b, h => by
    obtain ⟨v, r, e, h1, h2⟩ := h
    have b' : (x.bnd n' && D.bnds n' xs) = true := b
    rw [Bool.and_eq_true] at b'
    exact ⟨v, r, e, Enc.narrow x v b'.1 h1, EncAll.narrow xs r b'.2 h2⟩
end
theorem EncAll.length {g : Gx} {H : Hp} {m : Nat → Addr} {n : Nat} : ∀ {ds : List D} {vs : List V}, EncAll g H m n ds vs → vs.length = ds.length
  | [], _, h => by
    have h' : _ = [] := h
    rw [h']
    rfl
  | x :: xs, _, h => by
    obtain ⟨v, r, e, h1, h2⟩ := h
    rw [e, List.length_cons, List.length_cons, EncAll.length h2]
theorem EncAll.nil {g : Gx} {H : Hp} {m : Nat → Addr} {n : Nat} : EncAll g H m n [] [] := rfl
theorem EncAll.cons {g : Gx} {H : Hp} {m : Nat → Addr} {n : Nat} {d : D} {ds : List D} {v : V} {vs : List V} (h : Enc g H m n d v) (r : EncAll g H m n ds vs) : EncAll g H m n (d :: ds) (v :: vs) := ⟨v, vs, rfl, h, r⟩
theorem EncAll.append {g : Gx} {H : Hp} {m : Nat → Addr} {n : Nat} : ∀ {ds es : List D} {vs us : List V}, EncAll g H m n ds vs → EncAll g H m n es us → EncAll g H m n (ds ++ es) (vs ++ us)
  | [], _, _, _, h, h2 => by
    have h' : _ = [] := h
    rw [h']
    exact h2
  | x :: xs, _, _, _, h, h2 => by
    obtain ⟨v, r, e, h1, h3⟩ := h
    rw [e]
    exact ⟨v, _, rfl, h1, EncAll.append h3 h2⟩
theorem EncAll.get {g : Gx} {H : Hp} {m : Nat → Addr} {n : Nat} : ∀ {ds : List D} {vs : List V} {i : Nat} {d : D}, EncAll g H m n ds vs → ds[i]? = some d → ∃ v, vs[i]? = some v ∧ Enc g H m n d v
  | [], _, _, _, _, e => by simp at e
  | x :: xs, _, 0, d, h, e => by
    obtain ⟨v, r, e1, h1, h2⟩ := h
    have e' : x = d := by simpa using e
    rw [e1, ← e']
    exact ⟨v, rfl, h1⟩
  | x :: xs, _, i + 1, d, h, e => by
    obtain ⟨v, r, e1, h1, h2⟩ := h
    rw [e1]
    exact EncAll.get (i := i) h2 (by simpa using e)
theorem EncAll.getV {g : Gx} {H : Hp} {m : Nat → Addr} {n : Nat} {ds : List D} {vs : List V} {i : Nat} {v : V} (h : EncAll g H m n ds vs) (e : vs[i]? = some v) : ∃ d, ds[i]? = some d ∧ Enc g H m n d v := by
  have hl := h.length
  have hi : i < ds.length := by
    rw [← hl]
    exact (List.getElem?_eq_some_iff.mp e).1
  obtain ⟨v', e1, h1⟩ := h.get (List.getElem?_eq_getElem hi)
  rw [e] at e1
  cases e1
  exact ⟨_, List.getElem?_eq_getElem hi, h1⟩
theorem EncAll.take {g : Gx} {H : Hp} {m : Nat → Addr} {n : Nat} : ∀ {ds : List D} {vs : List V} (k : Nat), EncAll g H m n ds vs → EncAll g H m n (ds.take k) (vs.take k)
  | [], _, k, h => by
    have h' : _ = [] := h
    rw [h', List.take_nil, List.take_nil]
    exact EncAll.nil
  | x :: xs, _, 0, h => by
    rw [List.take_zero, List.take_zero]
    exact EncAll.nil
  | x :: xs, _, k + 1, h => by
    obtain ⟨v, r, e, h1, h2⟩ := h
    rw [e]
    exact ⟨v, _, rfl, h1, EncAll.take k h2⟩
theorem EncAll.drop {g : Gx} {H : Hp} {m : Nat → Addr} {n : Nat} : ∀ {ds : List D} {vs : List V} (k : Nat), EncAll g H m n ds vs → EncAll g H m n (ds.drop k) (vs.drop k)
  | [], _, k, h => by
    have h' : _ = [] := h
    rw [h', List.drop_nil, List.drop_nil]
    exact EncAll.nil
  | x :: xs, _, 0, h => h
  | x :: xs, _, k + 1, h => by
    obtain ⟨v, r, e, h1, h2⟩ := h
    rw [e]
    exact EncAll.drop k h2
theorem EncAll.set {g : Gx} {H : Hp} {m : Nat → Addr} {n : Nat} {d : D} {v : V} (hd : Enc g H m n d v) : ∀ {ds : List D} {vs : List V} (k : Nat), EncAll g H m n ds vs → EncAll g H m n (ds.set k d) (vs.set k v)
  | [], _, k, h => by
    have h' : _ = [] := h
    rw [h', List.set_nil, List.set_nil]
    exact EncAll.nil
  | x :: xs, _, 0, h => by
    obtain ⟨v', r, e, h1, h2⟩ := h
    rw [e]
    exact ⟨v, r, rfl, hd, h2⟩
  | x :: xs, _, k + 1, h => by
    obtain ⟨v', r, e, h1, h2⟩ := h
    rw [e]
    exact ⟨v', _, rfl, h1, EncAll.set hd k h2⟩
theorem EncAll.rep {g : Gx} {H : Hp} {m : Nat → Addr} {n : Nat} {ds : List D} {vs : List V} (h : EncAll g H m n ds vs) : ∀ k : Nat, EncAll g H m n (List.replicate k ds).flatten (List.replicate k vs).flatten
  | 0 => EncAll.nil
  | k + 1 => by
    rw [List.replicate_succ, List.replicate_succ, List.flatten_cons, List.flatten_cons]
    exact h.append (EncAll.rep h k)
/-- two lists of data for one list of values have one length -/
theorem EncAll.nil_iff {g : Gx} {H : Hp} {m : Nat → Addr} {n : Nat} {ds : List D} {vs : List V} (h : EncAll g H m n ds vs) : vs = [] ↔ ds = [] := by
  have hl := h.length
  constructor
  · intro e
    rw [e] at hl
    exact List.eq_nil_of_length_eq_zero hl.symm
  · intro e
    rw [e] at hl
    exact List.eq_nil_of_length_eq_zero hl
mutual
/-- plain data read off the heap -/
theorem Enc.dp {g : Gx} {H : Hp} {m : Nat → Addr} {n : Nat} : ∀ (d : D) (v : V), d.pure = true → Enc g H m n d v → Dp g.K H v d.py
  | .non, _, _, h => by
    have h' : _ = V.non := h
    rw [h']
    exact .non
  | .bl b, _, _, h => by
    have h' : _ = V.bl b := h
    rw [h']
    exact .bl b
  | .int b, _, _, h => by
    have h' : _ = V.int b := h
    rw [h']
    exact .int b
  | .str b, _, _, h => by
    have h' : _ = V.str b := h
    rw [h']
    exact .str b
  | .tup xs, _, p, h => by
    obtain ⟨a, vs, e, s, r⟩ := h
    rw [e]
    exact .tup s.sq (EncAll.dp xs vs p r)
  | .ref _, _, p, _ => by cases p
  | .fn _, _, p, _ => by cases p
theorem EncAll.dp {g : Gx} {H : Hp} {m : Nat → Addr} {n : Nat} : ∀ (ds : List D) (vs : List V), D.pures ds = true → EncAll g H m n ds vs → DpAll g.K H vs (D.pys ds)
  | [], _, _, h => by
    have h' : _ = [] := h
    rw [h']
    exact .nil
  | x :: xs, _, p, h => by
    obtain ⟨v, r, e, h1, h2⟩ := h
    have p' : (x.pure && D.pures xs) = true := p
    rw [Bool.and_eq_true] at p'
    rw [e]
    exact .cons (Enc.dp x v p'.1 h1) (EncAll.dp xs r p'.2 h2)
end
mutual
theorem py_plain : ∀ d : D, d.py.plain = true
  | .non => rfl
  | .bl _ => rfl
  | .int _ => rfl
  | .str _ => rfl
  | .tup xs => pys_plain xs
  | .ref _ => rfl
  | .fn _ => rfl
theorem pys_plain : ∀ ds : List D, PyData.plainAll (D.pys ds) = true
  | [] => rfl
  | x :: xs => by
    show (x.py.plain && PyData.plainAll (D.pys xs)) = true
    rw [py_plain x, pys_plain xs]
    rfl
end
mutual
theorem py_dep : ∀ d : D, d.py.depth = d.dep
  | .non => by simp [D.py, D.dep, PyData.depth]
  | .bl _ => by simp [D.py, D.dep, PyData.depth]
  | .int _ => by simp [D.py, D.dep, PyData.depth]
  | .str _ => by simp [D.py, D.dep, PyData.depth]
  | .tup xs => by
    show PyData.depth (.tuple (D.pys xs)) = D.deps xs + 1
    rw [PyData.depth, pys_dep xs]
  | .ref _ => by simp [D.py, D.dep, PyData.depth]
  | .fn _ => by simp [D.py, D.dep, PyData.depth]
theorem pys_dep : ∀ ds : List D, PyData.depthAll (D.pys ds) = D.deps ds
  | [] => by simp [D.pys, D.deps, PyData.depthAll]
  | x :: xs => by
    show PyData.depthAll (x.py :: D.pys xs) = max x.dep (D.deps xs)
    rw [PyData.depthAll, py_dep x, pys_dep xs]
end
theorem pys_map : ∀ ds : List D, D.pys ds = ds.map D.py
  | [] => rfl
  | x :: xs => by
    show x.py :: D.pys xs = x.py :: xs.map D.py
    rw [pys_map xs]
theorem pures_all : ∀ ds : List D, D.pures ds = ds.all D.pure
  | [] => rfl
  | x :: xs => by
    show (x.pure && D.pures xs) = (x.pure && xs.all D.pure)
    rw [pures_all xs]
theorem bnds_all (n : Nat) : ∀ ds : List D, D.bnds n ds = ds.all (D.bnd n)
  | [] => rfl
  | x :: xs => by
    show (x.bnd n && D.bnds n xs) = (x.bnd n && xs.all (D.bnd n))
    rw [bnds_all n xs]

/-! ### cells -/
/-- the very object at a -/
def RawO (a : Addr) (o : Obj) : HO := .ext fun h => h.get? a = some o
theorem RawO_lst {a : Addr} {o : Obj} {xs : List V} : RawO a o ≠ .lst xs := fun e => by
  unfold RawO at e
  cases e
/-- a dict's entries -/
def EntOk (g : Gx) (H : Hp) (m : Nat → Addr) (n : Nat) (e : DictEntry) (p : D × D) : Prop :=
  ∃ b u v, e = ⟨p.1.nk.hash g.w, .ref b, u⟩ ∧ p.1.isKey = true ∧ Enc g H m n p.1 (.ref b) ∧ RelV v u ∧ Enc g H m n p.2 v
def DTrel (g : Gx) (H : Hp) (m : Nat → Addr) (n : Nat) (a : Addr) (kvs : List (D × D)) : Prop :=
  ∃ (o : Obj) (es : Array DictEntry) (ep : Nat), H a = some (RawO a o) ∧ o.ExactDict ∧ o.data = .dict es ep ∧ (a == sysModules) = false ∧ es.size ≤ sizeLine ∧
    Paired (EntOk g H m n) es.toList kvs ∧ (kvs.map (·.1.nk)).Nodup
def CellRel (g : Gx) (H : Hp) (m : Nat → Addr) (n : Nat) (a : Addr) : Cell → Prop
  | .lst _ xs => ∃ vs, H a = some (.lst vs) ∧ EncAll g H m n xs vs
  | .ro xs => ∃ vs, ((∃ o, H a = some (.frz o (.lst vs))) ∨ SqL g.K (fun _ => none) a vs) ∧ EncAll g H m n xs vs
  | .dT _ kvs => DTrel g H m n a kvs
structure StRel (g : Gx) (S : Store) (m : Nat → Addr) (H : Hp) : Prop where
  inj : ∀ i j, 0 < i → 0 < j → i < S.length → j < S.length → m i = m j → i = j
  zero : ∃ xs, S[0]? = some (.ro xs)
  own : ∀ k xs, S[k]? = some (.ro xs) → k = 0
  cell : ∀ k c, S[k]? = some c → CellRel g H m S.length (m k) c
  tabs : LamX.Tabs g.T H
structure EnvRel (g : Gx) (H : Hp) (m : Nat → Addr) (n : Nat) (ρ : Env) (σ : L2.St) : Prop where
  len : ρ.length = σ.length
  at_ : ∀ (i : Nat) (d : D), ρ[i]? = some (some d) → ∃ v, σ[i]? = some (some v) ∧ Enc g H m n d v
/-- free, or a table of code objects -/
def Fr (H : Hp) (p : Addr) : Prop := ∀ o, H p = some o → ∃ ps, o = .tbl ps
theorem Fr.of {H : Hp} {p : Addr} (h : H p = none) : Fr H p := fun o e => by
  rw [h] at e
  cases e
theorem Fr.no {H : Hp} {p : Addr} {o : HO} (h : Fr H p) (e : H p = some o) (nt : ∀ ps, o ≠ .tbl ps) : False := by
  obtain ⟨ps, z⟩ := h o e
  exact nt ps z
/-- what stays, what is new -/
structure Ext (g : Gx) (S : Store) (m : Nat → Addr) (H : Hp) (S' : Store) (m' : Nat → Addr) (H' : Hp) : Prop where
  le : S.length ≤ S'.length
  ag : ∀ k, k < S.length → m' k = m k
  lk : ∀ k, k < S.length → lockAt S' k = lockAt S k
  keep : ∀ b o, H b = some o → (∀ ps, o ≠ .tbl ps) → (∀ k, k < S.length → m k = b → lockAt S k = true) → H' b = some o
  tup : ∀ b xs, H b = some (.tup xs) → H' b = some (.tup xs)
  frz : ∀ b o u, H b = some (.frz o u) → H' b = some (.frz o u)
  dom : ∀ b, Fr H' b → Fr H b
  new : ∀ k, S.length ≤ k → k < S'.length → Fr H (m' k)
theorem Ext.refl {g : Gx} {S : Store} {m : Nat → Addr} {H : Hp} : Ext g S m H S m H :=
  ⟨Nat.le_refl _, fun _ _ => rfl, fun _ _ => rfl, fun _ _ e _ _ => e, fun _ _ e => e, fun _ _ _ e => e, fun _ e => e, fun k h1 h2 => absurd (Nat.lt_of_le_of_lt h1 h2) (Nat.lt_irrefl _)⟩
theorem Ext.free {g : Gx} {S S' : Store} {m m' : Nat → Addr} {H H' : Hp} (x : Ext g S m H S' m' H') {b : Addr} (h : Fr H' b) : Fr H b := x.dom b h
theorem Ext.trans {g : Gx} {S S1 S2 : Store} {m m1 m2 : Nat → Addr} {H H1 H2 : Hp} (x : Ext g S m H S1 m1 H1) (y : Ext g S1 m1 H1 S2 m2 H2) : Ext g S m H S2 m2 H2 := by
  refine ⟨Nat.le_trans x.le y.le, fun k h => (y.ag k (Nat.lt_of_lt_of_le h x.le)).trans (x.ag k h), fun k h => (y.lk k (Nat.lt_of_lt_of_le h x.le)).trans (x.lk k h), fun b o e nt hl => ?_, fun b xs e => y.tup b xs (x.tup b xs e), fun b o u e => y.frz b o u (x.frz b o u e), fun b e => x.dom b (y.dom b e), fun k h1 h2 => ?_⟩
  · refine y.keep b o (x.keep b o e nt hl) nt fun k hk hb => ?_
    by_cases hs : k < S.length
    · rw [x.lk k hs]
      exact hl k hs ((x.ag k hs).symm.trans hb)
    · have z := x.new k (Nat.le_of_not_lt hs) hk
      rw [hb] at z
      exact (z.no e nt).elim
  · by_cases hs : k < S1.length
    · rw [y.ag k hs]
      exact x.new k h1 hs
    · exact x.free (y.new k (Nat.le_of_not_lt hs) h2)
theorem Ext.tk {g : Gx} {S S' : Store} {m m' : Nat → Addr} {H H' : Hp} (x : Ext g S m H S' m' H') : TK g H H' := fun a vs h => by
  rcases h with ⟨o, h, d⟩ | h
  · exact .inl ⟨o, x.frz a o _ h, d⟩
  · exact .inr h
theorem Ext.enc {g : Gx} {S S' : Store} {m m' : Nat → Addr} {H H' : Hp} (x : Ext g S m H S' m' H') {d : D} {v : V} (h : Enc g H m S.length d v) : Enc g H' m' S'.length d v := Enc.mono x.tk x.le x.ag d v h
theorem Ext.encAll {g : Gx} {S S' : Store} {m m' : Nat → Addr} {H H' : Hp} (x : Ext g S m H S' m' H') {ds : List D} {vs : List V} (h : EncAll g H m S.length ds vs) : EncAll g H' m' S'.length ds vs := EncAll.mono x.tk x.le x.ag ds vs h
theorem Ext.env {g : Gx} {S S' : Store} {m m' : Nat → Addr} {H H' : Hp} (x : Ext g S m H S' m' H') {ρ : Env} {σ : L2.St} (h : EnvRel g H m S.length ρ σ) : EnvRel g H' m' S'.length ρ σ :=
  ⟨h.len, fun i d e => by
    obtain ⟨v, e1, h1⟩ := h.at_ i d e
    exact ⟨v, e1, x.enc h1⟩⟩
theorem Paired.imp {α β : Type} {F G : α → β → Prop} (h : ∀ a b, F a b → G a b) : ∀ {l₁ : List α} {l₂ : List β}, Paired F l₁ l₂ → Paired G l₁ l₂
  | _, _, .nil => .nil
  | _, _, .cons r t => .cons (h _ _ r) (Paired.imp h t)
theorem EntOk.mono {g : Gx} {H H' : Hp} {m m' : Nat → Addr} {n n' : Nat} (t : TK g H H') (hn : n ≤ n') (hm : ∀ k, k < n → m' k = m k) {e : DictEntry} {p : D × D} (h : EntOk g H m n e p) : EntOk g H' m' n' e p := by
  obtain ⟨b, u, v, h1, h2, h3, h4, h5⟩ := h
  exact ⟨b, u, v, h1, h2, Enc.mono t hn hm _ _ h3, h4, Enc.mono t hn hm _ _ h5⟩
theorem DTrel.mono {g : Gx} {H H' : Hp} {m m' : Nat → Addr} {n n' : Nat} {a : Addr} {kvs : List (D × D)} (t : TK g H H') (hn : n ≤ n') (hm : ∀ k, k < n → m' k = m k) (hk : ∀ o, H a = some (RawO a o) → H' a = some (RawO a o)) (h : DTrel g H m n a kvs) : DTrel g H' m' n' a kvs := by
  obtain ⟨o, es, ep, h1, h2, h3, h4, h5, h6, h7⟩ := h
  exact ⟨o, es, ep, hk o h1, h2, h3, h4, h5, Paired.imp (fun _ _ z => EntOk.mono t hn hm z) h6, h7⟩
/-- a cell whose object stays -/
theorem CellRel.mono {g : Gx} {H H' : Hp} {m m' : Nat → Addr} {n n' : Nat} {a : Addr} {c : Cell} (t : TK g H H') (hn : n ≤ n') (hm : ∀ k, k < n → m' k = m k) (hk : ∀ o, H a = some o → (∀ ps, o ≠ .tbl ps) → H' a = some o) (h : CellRel g H m n a c) : CellRel g H' m' n' a c := by
  cases c with
  | lst b xs =>
    obtain ⟨vs, h1, h2⟩ := h
    exact ⟨vs, hk _ h1 (fun ps e => by cases e), EncAll.mono t hn hm _ _ h2⟩
  | ro xs =>
    obtain ⟨vs, h1, h2⟩ := h
    refine ⟨vs, ?_, EncAll.mono t hn hm _ _ h2⟩
    rcases h1 with ⟨o, h⟩ | h
    · exact .inl ⟨o, hk _ h (fun ps e => by cases e)⟩
    · exact .inr h
  | dT b kvs => exact DTrel.mono t hn hm (fun o e => hk _ e (fun ps z => by unfold RawO at z; cases z)) h

def Cell.isRo : Cell → Bool
  | .ro _ => true
  | _ => false
theorem CellRel.dom {g : Gx} {H : Hp} {m : Nat → Addr} {n : Nat} {a : Addr} {c : Cell} (hc : c.isRo = false) (h : CellRel g H m n a c) : H a ≠ none := by
  intro z
  cases c with
  | lst b xs =>
    obtain ⟨vs, h1, _⟩ := h
    rw [z] at h1
    cases h1
  | ro xs => cases hc
  | dT b kvs =>
    obtain ⟨o, es, ep, h1, _⟩ := h
    rw [z] at h1
    cases h1
theorem StRel.notRo {g : Gx} {S : Store} {m : Nat → Addr} {H : Hp} (st : StRel g S m H) {k : Nat} {c : Cell} (hk : 0 < k) (e : S[k]? = some c) : c.isRo = false := by
  cases c with
  | ro xs =>
    have z := st.own k xs e
    omega
  | _ => rfl
theorem StRel.apart {g : Gx} {S : Store} {m : Nat → Addr} {H : Hp} (st : StRel g S m H) {p : Addr} (hp : H p = none) (k : Nat) (h0 : 0 < k) (hk : k < S.length) : m k ≠ p := fun e => by
  have e1 := List.getElem?_eq_getElem hk
  have z := (st.cell k _ e1).dom (st.notRo h0 e1)
  rw [e] at z
  exact z hp
theorem StRel.pos {g : Gx} {S : Store} {m : Nat → Addr} {H : Hp} (st : StRel g S m H) : 0 < S.length := by
  obtain ⟨xs, e⟩ := st.zero
  exact (List.getElem?_eq_some_iff.mp e).1

/-! ### values and new things -/
def EncT (g : Gx) (H : Hp) (m : Nat → Addr) (n : Nat) : T → V → Prop
  | .v d, v => Enc g H m n d v
  | .l xs, v => ∃ p vs, v = .ref p ∧ H p = some (.lst vs) ∧ EncAll g H m n xs vs ∧ ∀ k, 0 < k → k < n → m k ≠ p
  | .t kvs, v => ∃ p, v = .ref p ∧ DTrel g H m n p kvs ∧ ∀ k, 0 < k → k < n → m k ≠ p
def FreT (H : Hp) (t : T) (v : V) : Prop := match t with
  | .v _ => True
  | _ => ∀ p, v = .ref p → Fr H p
theorem FreT.back {g : Gx} {S S' : Store} {m m' : Nat → Addr} {H H' : Hp} (x : Ext g S m H S' m' H') {t : T} {v : V} (h : FreT H' t v) : FreT H t v := by
  cases t with
  | v d => trivial
  | l xs => exact fun p e => x.free (h p e)
  | t kvs => exact fun p e => x.free (h p e)
theorem Ext.encT {g : Gx} {S S' : Store} {m m' : Nat → Addr} {H H' : Hp} (x : Ext g S m H S' m' H') (st : StRel g S m H) {t : T} {v : V} (h : EncT g H m S.length t v) : EncT g H' m' S'.length t v := by
  obtain ⟨zs, hz⟩ := st.zero
  have lk0 : lockAt S 0 = true := by
    unfold lockAt
    rw [hz]
  have keeps : ∀ {p : Addr}, (∀ k, 0 < k → k < S.length → m k ≠ p) → ∀ k, k < S.length → m k = p → lockAt S k = true := fun {p} hn k hk e => by
    by_cases h0 : 0 < k
    · exact absurd e (hn k h0 hk)
    · have : k = 0 := by omega
      rw [this]
      exact lk0
  have apart : ∀ {p : Addr} {o : HO}, H p = some o → (∀ ps, o ≠ .tbl ps) → (∀ k, 0 < k → k < S.length → m k ≠ p) → ∀ k, 0 < k → k < S'.length → m' k ≠ p := fun {p o} e nt hn k h0 hk z => by
    by_cases hs : k < S.length
    · exact hn k h0 hs ((x.ag k hs).symm.trans z)
    · have q := x.new k (Nat.le_of_not_lt hs) hk
      rw [z] at q
      exact (q.no e nt).elim
  cases t with
  | v d => exact x.enc h
  | l xs =>
    obtain ⟨p, vs, e, h1, h2, h3⟩ := h
    exact ⟨p, vs, e, x.keep p _ h1 (fun ps z => by cases z) (keeps h3), x.encAll h2, apart h1 (fun ps z => by cases z) h3⟩
  | t kvs =>
    obtain ⟨p, e, h1, h3⟩ := h
    obtain ⟨o, es, ep, q1, q2⟩ := id h1
    exact ⟨p, e, DTrel.mono x.tk x.le x.ag (fun o' e' => x.keep p _ e' (fun ps z => by unfold RawO at z; cases z) (keeps h3)) h1, apart q1 (fun ps z => by unfold RawO at z; cases z) h3⟩
/-- what a new thing is when it gets a place -/
def ncell : T → Option Cell
  | .v _ => none
  | .l xs => some (.lst false xs)
  | .t kvs => some (.dT false kvs)
def plc (m : Nat → Addr) (n : Nat) (p : Addr) : Nat → Addr := fun k => if k = n then p else m k
theorem plc_old {m : Nat → Addr} {n : Nat} {p : Addr} {k : Nat} (h : k < n) : plc m n p k = m k := if_neg (Nat.ne_of_lt h)
theorem plc_new {m : Nat → Addr} {n : Nat} {p : Addr} : plc m n p n = p := if_pos rfl
theorem lockAt_app {S : Store} {c : Cell} {k : Nat} (h : k < S.length) : lockAt (S ++ [c]) k = lockAt S k := by
  unfold lockAt
  rw [List.getElem?_append_left h]
theorem place_ok {g : Gx} {S S1 : Store} {m m1 : Nat → Addr} {H H1 : Hp} {p : Addr} {c : Cell} {o : HO} (x : Ext g S m H S1 m1 H1) (st : StRel g S1 m1 H1) (hp : Fr H p) (ho : H1 p = some o) (hc : CellRel g H1 m1 S1.length p c) (hr : c.isRo = false) (hn : ∀ k, 0 < k → k < S1.length → m1 k ≠ p) :
    Ext g S m H (S1 ++ [c]) (plc m1 S1.length p) H1 ∧ StRel g (S1 ++ [c]) (plc m1 S1.length p) H1 := by
  have ll : (S1 ++ [c]).length = S1.length + 1 := by simp
  have mono : ∀ {a : Addr} {c : Cell}, CellRel g H1 m1 S1.length a c → CellRel g H1 (plc m1 S1.length p) (S1 ++ [c]).length a c := fun {a c} h => by
    have ll : (S1 ++ [c]).length = S1.length + 1 := by simp
    rw [ll]
    exact CellRel.mono (fun _ _ z => z) (Nat.le_succ _) (fun k hk => plc_old hk) (fun _ e _ => e) h
  refine ⟨⟨by rw [ll]; exact Nat.le_succ_of_le x.le, fun k hk => (plc_old (Nat.lt_of_lt_of_le hk x.le)).trans (x.ag k hk), fun k hk => (lockAt_app (Nat.lt_of_lt_of_le hk x.le)).trans (x.lk k hk), x.keep, x.tup, x.frz, x.dom, fun k h1 h2 => ?_⟩, ⟨fun i j i0 j0 hi hj e => ?_, ?_, fun k xs e => ?_, fun k c' e => ?_, st.tabs⟩⟩
  · rw [ll] at h2
    by_cases hk : k < S1.length
    · rw [plc_old hk]
      exact x.new k h1 hk
    · have ek : k = S1.length := by omega
      rw [ek, plc_new]
      exact hp
  · rw [ll] at hi hj
    by_cases h1 : i < S1.length
    · by_cases h2 : j < S1.length
      · rw [plc_old h1, plc_old h2] at e
        exact st.inj i j i0 j0 h1 h2 e
      · have ej : j = S1.length := by omega
        rw [plc_old h1, ej, plc_new] at e
        exact absurd e (hn i i0 h1)
    · have ei : i = S1.length := by omega
      by_cases h2 : j < S1.length
      · rw [ei, plc_new, plc_old h2] at e
        exact absurd e.symm (hn j j0 h2)
      · omega
  · obtain ⟨zs, hz⟩ := st.zero
    exact ⟨zs, by rw [List.getElem?_append_left st.pos]; exact hz⟩
  · by_cases hk : k < S1.length
    · rw [List.getElem?_append_left hk] at e
      exact st.own k xs e
    · have hk2 : k < (S1 ++ [c]).length := (List.getElem?_eq_some_iff.mp e).1
      rw [ll] at hk2
      have ek : k = S1.length := by omega
      rw [ek, List.getElem?_concat_length] at e
      cases e
      cases hr
  · have e' := e
    by_cases hk : k < S1.length
    · rw [List.getElem?_append_left hk] at e
      rw [plc_old hk, ll]
      exact CellRel.mono (fun _ _ z => z) (Nat.le_succ _) (fun k hk => plc_old hk) (fun _ e _ => e) (st.cell k c' e)
    · have hk2 : k < (S1 ++ [c]).length := (List.getElem?_eq_some_iff.mp e').1
      rw [ll] at hk2
      have ek : k = S1.length := by omega
      rw [ek, List.getElem?_concat_length] at e
      cases e
      rw [ek, plc_new, ll]
      exact CellRel.mono (fun _ _ z => z) (Nat.le_succ _) (fun k hk => plc_old hk) (fun _ e _ => e) hc
/-- a value gets its place -/
theorem mat_ok {g : Gx} {S S1 S2 : Store} {m m1 : Nat → Addr} {H H1 : Hp} {t : T} {v : V} {d : D} (x : Ext g S m H S1 m1 H1) (st : StRel g S1 m1 H1) (en : EncT g H1 m1 S1.length t v) (fr : FreT H t v) (e : mat t S1 = .ok d S2) :
    ∃ m2, Ext g S m H S2 m2 H1 ∧ StRel g S2 m2 H1 ∧ Enc g H1 m2 S2.length d v := by
  cases t with
  | v d' =>
    cases e
    exact ⟨m1, x, st, en⟩
  | l xs =>
    cases e
    obtain ⟨p, vs, rfl, h1, h2, h3⟩ := en
    obtain ⟨y, st2⟩ := place_ok (c := .lst false xs) x st (fr p rfl) h1 ⟨vs, h1, h2⟩ rfl h3
    exact ⟨_, y, st2, by simp, by rw [plc_new]⟩
  | t kvs =>
    cases e
    obtain ⟨p, rfl, h1, h3⟩ := en
    obtain ⟨o, es, ep, q1, q2⟩ := id h1
    obtain ⟨y, st2⟩ := place_ok (c := .dT false kvs) x st (fr p rfl) q1 h1 rfl h3
    exact ⟨_, y, st2, by simp, by rw [plc_new]⟩
theorem mat_cases (t : T) (S : Store) : ∃ d S2, mat t S = .ok d S2 := by
  cases t with
  | v d => exact ⟨_, _, rfl⟩
  | l xs => exact ⟨_, _, rfl⟩
  | t kvs => exact ⟨_, _, rfl⟩
end Ev
-- EvS2
set_option Elab.async false
set_option linter.all false
set_option maxRecDepth 100000
set_option maxHeartbeats 4000000
/-! EvS2: readings by the evaluator. -/
namespace Ev
open PySem PySem.Spec PyProof.Rows L2

/-- what the compiled text leans on: the defs' names, the tables, the classes that are raised, the defs -/
structure Tb where
  fnm : List Str
  T : List (Addr × Str)
  exc : List Str
  exr : List Str
  con : List (Str × D)
  no : Option (Str × Str)
  blt : List Str
  F : List Fd
abbrev gof (u : Tb) (X : Cx) : Gx := ⟨X.prog, X.w, X.K, X.mg, X.base, u.fnm, u.T, u.exc⟩

/-! ### R.bind -/
theorem R.bind_assoc {α β γ : Type} (r : R α) (f : α → Store → R β) (h : β → Store → R γ) : (r.bind f).bind h = r.bind fun a S => (f a S).bind h := by
  cases r <;> rfl
theorem R.bind_ok {α : Type} (r : R α) : (r.bind fun a S => .ok a S) = r := by
  cases r <;> rfl

/-! ### a new object -/
theorem SqT.alloc {K : PySem.W.Frag} {H : Hp} {p : Addr} {o : HO} (hp : H p = none) {a : Addr} {vs : List V} (h : SqT K H a vs) : SqT K (upd H p o) a vs := by
  rcases h with (h | ⟨ob, h⟩) | h
  · exact .inl (.inl (by rw [upd_ne (ne_of_none h hp)]; exact h))
  · exact .inl (.inr ⟨ob, by rw [upd_ne (ne_of_none h hp)]; exact h⟩)
  · exact .inr h
theorem PlT.alloc {K : PySem.W.Frag} {H : Hp} {p : Addr} {o : HO} (hp : H p = none) {a : Addr} {vs : List V} (h : PlT K H a vs) : PlT K (upd H p o) a vs := by
  rcases h with ⟨ob, h, d⟩ | h
  · exact .inl ⟨ob, by rw [upd_ne (ne_of_none h hp)]; exact h, d⟩
  · exact .inr h
/-- a new tuple -/
theorem laidT {X : Cx} {pins : List (Addr × Obj)} {σ : L2.St} {H : Hp} {s : Shared} {us : List Value} {xs : List V} {t' : Nat} (I : L2.Inv X pins σ H s) (r : Vals xs us) (hz : xs.length ≤ sizeLine) :
    L2.Inv X pins σ (upd H s.heap.objs.size (.frz { cls := .type "tuple", data := .seq us.toArray } (.tup xs))) { s with heap := s.heap.push { cls := .type "tuple", data := .seq us.toArray }, toks := t' } :=
  I.laid (fun _ _ q => Heap.get?_push_of_some _ q) (Nat.le_refl _) ⟨Heap.get?_push_size _ rfl, hz, us, r, IsTup.new _ _⟩
/-- a written tuple -/
theorem pe_tupF {X : Cx} {es : List Expr} {t : TA} {k : Nat} {pos : Pos} (h : PA X es t) : PE X (.Tuple es k pos) (fun σ H Q => t σ H fun xs H1 => xs.length ≤ sizeLine ∧ ∀ p o, H1 p = none → Obj.dict o = none → Q (.ref p) (upd H1 p (.frz o (.tup xs)))) := by
  refine ⟨fun pins s σ H Q I hq => ?_⟩
  refine wpAny_Tuple_spliced (thn (h.run pos pins s σ H _ I hq) fun us s1 ⟨xs, H1, I1, r, z, q⟩ => ⟨by rw [← r.length]; exact z, ?_⟩)
  exact ⟨.ref s1.heap.objs.size, _, laidT (t' := s1.toks) I1 r z, rfl, q _ _ (I1.hok.fresh (Nat.le_refl _)) rfl⟩
theorem alloc_ok {g : Gx} {S : Store} {m : Nat → Addr} {H : Hp} {p : Addr} {o : HO} (st : StRel g S m H) (hp : H p = none) : Ext g S m H S m (upd H p o) ∧ StRel g S m (upd H p o) := by
  have k : ∀ b u, H b = some u → upd H p o b = some u := fun b u e => by rw [upd_ne (ne_of_none e hp)]; exact e
  refine ⟨⟨Nat.le_refl _, fun _ _ => rfl, fun _ _ => rfl, fun b u e _ _ => k b u e, fun b xs e => k b _ e, fun b ob u e => k b _ e, fun b e => ?_, fun k h1 h2 => absurd (Nat.lt_of_le_of_lt h1 h2) (Nat.lt_irrefl _)⟩, ⟨st.inj, st.zero, st.own, fun i c e => CellRel.mono (fun a vs h => PlT.alloc hp h) (Nat.le_refl _) (fun _ _ => rfl) (fun u e _ => k _ u e) (st.cell i c e), st.tabs.ext k⟩⟩
  intro u eu
  exact e u (k b u eu)

/-! ### what is wanted behind an evaluation -/
def Post {α : Type} (g : Gx) (W : WX) (S : Store) (m : Nat → Addr) (H : Hp) (σ : L2.St) (K : α → Store → (Nat → Addr) → Hp → Prop) : R α → Prop
  | .ok a S' => ∀ m' H', Ext g S m H S' m' H' → StRel g S' m' H' → K a S' m' H'
  | .exc x S' => ∀ m' H' cls, Ext g S m H S' m' H' → StRel g S' m' H' → x.cls ∈ g.exc → g.mg x.cls = some cls → W cls none σ H'
  | .bad => False
section
variable {α β : Type} {g : Gx} {W : WX} {S S1 : Store} {m m1 : Nat → Addr} {H H1 : Hp} {σ : L2.St} {K K' : α → Store → (Nat → Addr) → Hp → Prop} {r : R α}
theorem Post.mono (p : Post g W S m H σ K r) (h : ∀ a S' m' H', Ext g S m H S' m' H' → StRel g S' m' H' → K a S' m' H' → K' a S' m' H') : Post g W S m H σ K' r := by
  cases r with
  | ok a S' => exact fun m' H' x s => h a S' m' H' x s (p m' H' x s)
  | exc x S' => exact p
  | bad => exact p
theorem Post.rebase (x : Ext g S m H S1 m1 H1) (p : Post g W S m H σ K r) : Post g W S1 m1 H1 σ K r := by
  cases r with
  | ok a S' => exact fun m' H' y s => p m' H' (x.trans y) s
  | exc e S' => exact fun m' H' c y s => p m' H' c (x.trans y) s
  | bad => exact p
theorem Post.bind {f : α → Store → R β} {K : β → Store → (Nat → Addr) → Hp → Prop} (p : Post g W S m H σ K (r.bind f)) : Post g W S m H σ (fun a S1 m1 H1 => Post g W S1 m1 H1 σ K (f a S1)) r := by
  cases r with
  | ok a S' => exact fun m' H' x s => Post.rebase (r := f a S') x p
  | exc e S' => exact p
  | bad => exact p
theorem Post.wish {W' : WX} (p : Post g W S m H σ K r) (h : ∀ c H', W c none σ H' → W' c none σ H') : Post g W' S m H σ K r := by
  cases r with
  | ok a S' => exact p
  | exc e S' => exact fun m' H' c y s q1 q2 => h _ _ (p m' H' c y s q1 q2)
  | bad => exact p
theorem Post.noX (p : Post g W S m H σ K (noX r)) : Post g (fun _ _ _ _ => False) S m H σ K r := by
  cases r with
  | ok a S' => exact p
  | exc e S' => exact p.elim
  | bad => exact p
end
/-- of a value: whoever stands for it -/
def KE (g : Gx) (H : Hp) (Q : VK) : T → Store → (Nat → Addr) → Hp → Prop := fun t S' m' H' => ∀ v, FreT H t v → EncT g H' m' S'.length t v → Q v H'
theorem Post.opt {g : Gx} {W : WX} {S : Store} {m : Nat → Addr} {H : Hp} {σ : L2.St} {α : Type} {K : α → Store → (Nat → Addr) → Hp → Prop} {o : Option α} (p : Post g W S m H σ K (opt o S)) : ∃ a, o = some a ∧ ∀ m' H', Ext g S m H S m' H' → StRel g S m' H' → K a S m' H' := by
  cases o with
  | none => exact p.elim
  | some a => exact ⟨a, rfl, p⟩
theorem Post.here {g : Gx} {W : WX} {S : Store} {m : Nat → Addr} {H : Hp} {σ : L2.St} {α : Type} {K : α → Store → (Nat → Addr) → Hp → Prop} {a : α} (st : StRel g S m H) (p : Post g W S m H σ K (.ok a S)) : K a S m H := p m H Ext.refl st
/-- a value gets its place -/
theorem Post.mat {g : Gx} {W : WX} {S : Store} {m : Nat → Addr} {H : Hp} {σ : L2.St} {K : D → Store → (Nat → Addr) → Hp → Prop} {r : R T} (p : Post g W S m H σ K (r.bind mat)) :
    Post g W S m H σ (fun t S1 m1 H1 => ∀ v, FreT H t v → EncT g H1 m1 S1.length t v → ∃ d S2 m2, Ext g S m H S2 m2 H1 ∧ StRel g S2 m2 H1 ∧ Enc g H1 m2 S2.length d v ∧ K d S2 m2 H1) r := by
  cases r with
  | ok t S1 =>
    intro m1 H1 x st v fr en
    obtain ⟨d, S2, e⟩ := mat_cases t S1
    obtain ⟨m2, x2, st2, en2⟩ := mat_ok x st en fr e
    have p' : Post g W S m H σ K (Ev.mat t S1) := p
    rw [e] at p'
    exact ⟨d, S2, m2, x2, st2, en2, p' m2 H1 x2 st2⟩
  | exc e S' => exact p
  | bad => exact p

/-! ### what a call leaves -/
theorem CellRel.narrow {g : Gx} {H : Hp} {m : Nat → Addr} {n n' : Nat} {a : Addr} {c : Cell} (b : c.bnd n' = true) (h : CellRel g H m n a c) : CellRel g H m n' a c := by
  cases c with
  | lst l xs =>
    obtain ⟨vs, h1, h2⟩ := h
    exact ⟨vs, h1, EncAll.narrow _ _ b h2⟩
  | ro xs =>
    obtain ⟨vs, h1, h2⟩ := h
    exact ⟨vs, h1, EncAll.narrow _ _ b h2⟩
  | dT l kvs =>
    obtain ⟨o, es, ep, h1, h2, h3, h4, h5, h6, h7⟩ := h
    refine ⟨o, es, ep, h1, h2, h3, h4, h5, ?_, h7⟩
    have b' : ∀ p ∈ kvs, (p.1.bnd n' && p.2.bnd n') = true := List.all_eq_true.mp b
    clear h7 h1 h2 h3 h4 h5
    generalize es.toList = l₁ at h6
    induction h6 with
    | nil => exact .nil
    | cons r t ih =>
      refine .cons ?_ (ih (List.all_eq_true.mpr fun p hp => b' p (List.mem_cons_of_mem _ hp)) fun p hp => b' p (List.mem_cons_of_mem _ hp))
      obtain ⟨b1, u, v, q1, q2, q3, q4, q5⟩ := r
      have z := b' _ List.mem_cons_self
      rw [Bool.and_eq_true] at z
      exact ⟨b1, u, v, q1, q2, Enc.narrow _ _ z.1 q3, q4, Enc.narrow _ _ z.2 q5⟩
theorem EncT.narrow {g : Gx} {H : Hp} {m : Nat → Addr} {n n' : Nat} (hn : n' ≤ n) {t : T} {v : V} (b : t.bnd n' = true) (h : EncT g H m n t v) : EncT g H m n' t v := by
  cases t with
  | v d => exact Enc.narrow _ _ b h
  | l xs =>
    obtain ⟨p, vs, e, h1, h2, h3⟩ := h
    exact ⟨p, vs, e, h1, EncAll.narrow _ _ b h2, fun k h0 hk => h3 k h0 (Nat.lt_of_lt_of_le hk hn)⟩
  | t kvs =>
    obtain ⟨p, e, h1, h3⟩ := h
    exact ⟨p, e, CellRel.narrow (c := .dT false kvs) b h1, fun k h0 hk => h3 k h0 (Nat.lt_of_lt_of_le hk hn)⟩
theorem take_ok {g : Gx} {S S' : Store} {m m' : Nat → Addr} {H H' : Hp} (hp0 : 0 < S.length) (x : Ext g S m H S' m' H') (st : StRel g S' m' H') (ok : oldOk S.length S' = true) :
    Ext g S m H (S'.take S.length) m' H' ∧ StRel g (S'.take S.length) m' H' ∧ (S'.take S.length).length = S.length := by
  have ll : (S'.take S.length).length = S.length := by
    rw [List.length_take]
    exact Nat.min_eq_left x.le
  have ge : ∀ k, k < S.length → (S'.take S.length)[k]? = S'[k]? := fun k hk => List.getElem?_take_of_lt hk
  refine ⟨⟨Nat.le_of_eq ll.symm, x.ag, fun k hk => ?_, x.keep, x.tup, x.frz, x.dom, fun k h1 h2 => ?_⟩, ⟨fun i j i0 j0 hi hj e => ?_, ?_, fun k xs e => ?_, fun k c e => ?_, st.tabs⟩, ll⟩
  · rw [← x.lk k hk]
    unfold lockAt
    rw [ge k hk]
  · rw [ll] at h2
    exact absurd (Nat.lt_of_le_of_lt h1 h2) (Nat.lt_irrefl _)
  · rw [ll] at hi hj
    exact st.inj i j i0 j0 (Nat.lt_of_lt_of_le hi x.le) (Nat.lt_of_lt_of_le hj x.le) e
  · obtain ⟨zs, hz⟩ := st.zero
    exact ⟨zs, by rw [ge 0 hp0]; exact hz⟩
  · have hk : k < S.length := by
      have := (List.getElem?_eq_some_iff.mp e).1
      rw [ll] at this
      exact this
    rw [ge k hk] at e
    exact st.own k xs e
  · have hk : k < S.length := by
      have := (List.getElem?_eq_some_iff.mp e).1
      rw [ll] at this
      exact this
    have e' := e
    rw [ge k hk] at e'
    have hb : c.bnd S.length = true := List.all_eq_true.mp ok c (List.mem_of_getElem? e)
    rw [ll]
    exact CellRel.narrow hb (st.cell k c e')
theorem fresh_ok {g : Gx} {S S' : Store} {m m' : Nat → Addr} {H H' : Hp} (x : Ext g S m H S' m' H') (st : StRel g S' m' H') {t : T} {v : V} (fr : FreT H t v) (en : EncT g H' m' S'.length t v) (hb : (fresh S.length t S').bnd S.length = true) :
    FreT H (fresh S.length t S') v ∧ EncT g H' m' S.length (fresh S.length t S') v := by
  have base : (fresh S.length t S' = t) → FreT H (fresh S.length t S') v ∧ EncT g H' m' S.length (fresh S.length t S') v := fun e => by
    rw [e] at hb ⊢
    exact ⟨fr, EncT.narrow x.le hb en⟩
  cases t with
  | l xs => exact base rfl
  | t kvs => exact base rfl
  | v d =>
    cases d with
    | ref k =>
      by_cases hk : k < S.length
      · exact base (if_pos hk)
      · obtain ⟨h1, h2⟩ := (show k < S'.length ∧ v = V.ref (m' k) from en)
        have fre : ∀ p, v = .ref p → Fr H p := fun p e => by
          rw [h2] at e
          cases e
          exact x.new k (Nat.le_of_not_lt hk) h1
        have apart : ∀ j, 0 < j → j < S.length → m' j ≠ m' k := fun j j0 hj e => by
          have z := st.inj j k j0 (by omega) (Nat.lt_of_lt_of_le hj x.le) h1 e
          omega
        have e1 : S'[k]? = some S'[k] := List.getElem?_eq_getElem h1
        have cr := st.cell k _ e1
        have e0 : ∀ t', (match S'[k]? with | some (.lst false xs) => T.l xs | some (.dT false kvs) => .t kvs | _ => .v (.ref k)) = t' → fresh S.length (.v (.ref k)) S' = t' := fun t' e => by
          exact (if_neg hk).trans e
        rw [e1] at e0
        cases hc : S'[k] with
        | ro xs => exact base (e0 _ (by rw [hc]))
        | lst b xs =>
          cases b with
          | true => exact base (e0 _ (by rw [hc]))
          | false =>
            have e2 := e0 (.l xs) (by rw [hc])
            rw [e2] at hb ⊢
            rw [hc] at cr
            obtain ⟨vs, q1, q2⟩ := cr
            exact ⟨fre, m' k, vs, h2, q1, EncAll.narrow _ _ hb q2, apart⟩
        | dT b kvs =>
          cases b with
          | true => exact base (e0 _ (by rw [hc]))
          | false =>
            have e2 := e0 (.t kvs) (by rw [hc])
            rw [e2] at hb ⊢
            rw [hc] at cr
            exact ⟨fre, m' k, h2, CellRel.narrow (c := .dT false kvs) hb cr, apart⟩
    | _ => exact base rfl
theorem fin_ok {g : Gx} {W : WX} {S : Store} {m : Nat → Addr} {H : Hp} {σ : L2.St} {Q : VK} {r : R T} (hp0 : 0 < S.length) (p : Post g W S m H σ (KE g H Q) (fin S.length r)) : Post g W S m H σ (KE g H Q) r := by
  cases r with
  | ok t S' =>
    intro m' H' x st v fr en
    have p' : Post g W S m H σ (KE g H Q) (finish S.length t S') := p
    unfold finish at p'
    split at p'
    · rename_i h
      rw [Bool.and_eq_true] at h
      obtain ⟨y, st', ll⟩ := take_ok hp0 x st h.2
      obtain ⟨f1, f2⟩ := fresh_ok x st fr en h.1
      exact p' m' H' y st' v f1 (by rw [ll]; exact f2)
    · exact p' m' H' x st v fr en
  | exc e S' =>
    intro m' H' c x st q1 q2
    have p' : Post g W S m H σ (KE g H Q) (finishX S.length e S') := p
    unfold finishX at p'
    split at p'
    · rename_i h
      rw [Bool.and_eq_true] at h
      obtain ⟨y, st', ll⟩ := take_ok hp0 x st h.2
      exact p' m' H' c y st' q1 q2
    · exact p' m' H' c x st q1 q2
  | bad => exact p
/-- the same for a call's wish -/
theorem fin_okX {g : Gx} {W : WX} {S : Store} {m : Nat → Addr} {H : Hp} {σ : L2.St} {K : T → Store → (Nat → Addr) → Hp → Prop} {r : R T} (hp0 : 0 < S.length) (p : Post g W S m H σ K (fin S.length r)) : Post g W S m H σ (fun _ _ _ _ => True) r := by
  cases r with
  | ok t S' => exact fun _ _ _ _ => trivial
  | exc e S' =>
    intro m' H' c x st q1 q2
    have p' : Post g W S m H σ K (finishX S.length e S') := p
    unfold finishX at p'
    split at p'
    · rename_i h
      rw [Bool.and_eq_true] at h
      obtain ⟨y, st', ll⟩ := take_ok hp0 x st h.2
      exact p' m' H' c y st' q1 q2
    · exact p' m' H' c x st q1 q2
  | bad => exact p

/-! ### the readings -/
def RdE (g : Gx) (W : WX) (E : Env → Store → R T) : TE := fun σ H Q => ∃ S m ρ, StRel g S m H ∧ EnvRel g H m S.length ρ σ ∧ Post g W S m H σ (KE g H Q) (E ρ S)
def RdB (g : Gx) (W : WX) (B : Env → Store → R Bool) : TT := fun σ H Q => ∃ S m ρ, StRel g S m H ∧ EnvRel g H m S.length ρ σ ∧ Post g W S m H σ (fun k _ _ H' => Q k H') (B ρ S)
def RdM (g : Gx) (W : WX) (M : Env → Store → R (List D)) : TA := fun σ H Q => ∃ S m ρ, StRel g S m H ∧ EnvRel g H m S.length ρ σ ∧ Post g W S m H σ (fun ds S' m' H' => ∀ vs, EncAll g H' m' S'.length ds vs → Q vs H') (M ρ S)
/-- values that need no place -/
inductive EncTs (g : Gx) (H0 H : Hp) (m : Nat → Addr) (n : Nat) : List T → List V → Prop
  | nil : EncTs g H0 H m n [] []
  | cons {t : T} {v : V} {ts : List T} {vs : List V} : FreT H0 t v → EncT g H m n t v → EncTs g H0 H m n ts vs → EncTs g H0 H m n (t :: ts) (v :: vs)
def RdTs (g : Gx) (W : WX) (M : Env → Store → R (List T)) : TA := fun σ H Q => ∃ S m ρ, StRel g S m H ∧ EnvRel g H m S.length ρ σ ∧ Post g W S m H σ (fun ts S' m' H' => ∀ vs, EncTs g H H' m' S'.length ts vs → Q vs H') (M ρ S)
theorem PE.imp {X : Cx} {e : Expr} {t t' : TE} (h : PE X e t) (i : ∀ σ H Q, t' σ H Q → t σ H Q) : PE X e t' := ⟨fun pins s σ H Q I q => h.run pins s σ H Q I (i σ H Q q)⟩
theorem PT.imp {X : Cx} {e : Expr} {t t' : TT} (h : PT X e t) (i : ∀ σ H Q, t' σ H Q → t σ H Q) : PT X e t' := ⟨fun pins s σ H Q I q => h.run pins s σ H Q I (i σ H Q q)⟩
theorem PW.imp {X : Cx} {e : Expr} {t t' : TT} (h : PW X e t) (i : ∀ σ H Q, t' σ H Q → t σ H Q) : PW X e t' := ⟨fun wh pins s σ H Q I q => h.run wh pins s σ H Q I (i σ H Q q)⟩
theorem PA.imp {X : Cx} {es : List Expr} {t t' : TA} (h : PA X es t) (i : ∀ σ H Q, t' σ H Q → t σ H Q) : PA X es t' := ⟨fun pos pins s σ H Q I q => h.run pos pins s σ H Q I (i σ H Q q)⟩
theorem PS.imp {X : Cx} {e : Stmt} {t t' : TS} (h : PS X e t) (i : ∀ D σ H, t' D σ H → t D σ H) : PS X e t' := ⟨fun pins s σ H D I q => h.run pins s σ H D I (i D σ H q)⟩
theorem PSs.imp {X : Cx} {e : List Stmt} {t t' : TS} (h : PSs X e t) (i : ∀ D σ H, t' D σ H → t D σ H) : PSs X e t' := ⟨fun pins s σ H D I q => h.run pins s σ H D I (i D σ H q)⟩
theorem PI.imp {X : Cx} {tg e : Expr} {t t' : TI} (h : PI X tg e t) (i : ∀ σ H Q, t' σ H Q → t σ H Q) : PI X tg e t' := ⟨fun pins s σ H Q I q => h.run pins s σ H Q I (i σ H Q q)⟩
section
variable {X : Cx} {u : Tb} {W : WX}
/-- a part, at its own start, under a wish about its value and the store behind it -/
theorem sub {E : Env → Store → R T} {σ : L2.St} {H : Hp} {Q : VK} {S : Store} {m : Nat → Addr} {ρ : Env} {g : Gx} (st : StRel g S m H) (en : EnvRel g H m S.length ρ σ)
    (p : Post g W S m H σ (fun t S1 m1 H1 => ∀ v, FreT H t v → EncT g H1 m1 S1.length t v → Q v H1) (E ρ S)) : RdE g W E σ H Q := ⟨S, m, ρ, st, en, p⟩
/-- a, then b -/
theorem sub2 {Ea Eb : Env → Store → R T} {σ : L2.St} {H : Hp} {S : Store} {m : Nat → Addr} {ρ : Env} {g : Gx} {R2' : V → V → Hp → Prop} {α : Type} {f : T → T → Store → R α} {K : α → Store → (Nat → Addr) → Hp → Prop} (st : StRel g S m H) (en : EnvRel g H m S.length ρ σ)
    (p : Post g W S m H σ K ((Ea ρ S).bind fun ta S1 => (Eb ρ S1).bind fun tb S2 => f ta tb S2))
    (h : ∀ ta tb S2 m2 H2 x y, Ext g S m H S2 m2 H2 → StRel g S2 m2 H2 → EncT g H2 m2 S2.length ta x → EncT g H2 m2 S2.length tb y → Post g W S2 m2 H2 σ K (f ta tb S2) → R2' x y H2) :
    RdE g W Ea σ H fun x H1 => RdE g W Eb σ H1 fun y H2 => R2' x y H2 :=
  sub st en (p.bind.mono fun ta S1 m1 H1 x1 st1 p1 v fv ev => sub st1 (x1.env en) (p1.bind.mono fun tb S2 m2 H2 x2 st2 p2 w fw ew => h ta tb S2 m2 H2 v w (x1.trans x2) st2 (x2.encT st1 ev) ew p2))

/-- two values to one -/
def rOp (g : Gx) (f : T → T → Store → Option T) : R2 := fun x y H Q => ∃ S m ta tb t, StRel g S m H ∧ EncT g H m S.length ta x ∧ EncT g H m S.length tb y ∧ f ta tb S = some t ∧ ∀ m' H' v, Ext g S m H S m' H' → StRel g S m' H' → FreT H t v → EncT g H' m' S.length t v → Q v H'
theorem pe_bin2 {op : Operator} {a b : Expr} {Ea Eb : Env → Store → R T} {f : T → T → Store → Option T} {pos : Pos} (ho : OpR X (binaryOp op) (rOp (gof u X) f)) (ha : PE X a (RdE (gof u X) W Ea)) (hb : PE X b (RdE (gof u X) W Eb)) :
    PE X (.BinOp a op b pos) (RdE (gof u X) W fun ρ S => (Ea ρ S).bind fun ta S1 => (Eb ρ S1).bind fun tb S2 => opt (f ta tb S2) S2) := by
  refine PE.imp (pe_op ho ha hb) ?_
  rintro σ H Q ⟨S, m, ρ, st, en, p⟩
  refine sub2 st en p fun ta tb S2 m2 H2 x y x2 st2 e1 e2 p2 => ?_
  obtain ⟨t, e, k⟩ := p2.opt
  exact ⟨S2, m2, ta, tb, t, st2, e1, e2, e, fun m' H' v y st' fr en' => k m' H' y st' v (FreT.back x2 fr) en'⟩

/-! ### names, constants -/
theorem pe_v {i : Nat} {x : Str} {pos : Pos} (hN : X.N[i]? = some x) (hv : Vis X.env.scope x) (hd : (x == ("__debug__" : Str)) = false) (hcd : (x == ("__classdict__" : Str)) = false) {C : Calls} : PE X (.Name x pos) (RdE (gof u X) W (ev C (.v i)).E) := by
  refine PE.imp (pe_var hN hv hd hcd) ?_
  rintro σ H Q ⟨S, m, ρ, st, en, p⟩
  unfold ev at p
  change Post _ _ _ _ _ _ _ (match ρ[i]? with | some (some d) => R.ok (T.v d) S | _ => R.bad) at p
  split at p
  · rename_i d e
    obtain ⟨v, e1, h1⟩ := en.at_ i d e
    exact ⟨v, e1, (Post.here st p) v trivial h1⟩
  · exact p.elim
def cV : D → Option V
  | .non => some .non
  | .bl b => some (.bl b)
  | .int i => some (.int i)
  | .str s => some (.str s)
  | _ => none
theorem cV_enc {g : Gx} {H : Hp} {m : Nat → Addr} {n : Nat} {d : D} {v : V} (h : cV d = some v) : Enc g H m n d v := by
  cases d <;> first | (cases h; rfl) | cases h
theorem pe_k {e : Expr} {d : D} {v : V} (hv : cV d = some v) (h : PE X e (tC v)) {C : Calls} : PE X e (RdE (gof u X) W (ev C (.c d)).E) := by
  refine PE.imp h ?_
  rintro σ H Q ⟨S, m, ρ, st, en, p⟩
  unfold ev at p
  exact (Post.here st p) v trivial (cV_enc hv)
theorem pe_gc {e : Expr} {d : D} {x : Str} {v : V} (hv : cV d = some v) (h : PE X e (tC v)) {C : Calls} : PE X e (RdE (gof u X) W (ev C (.gc x d)).E) := by
  refine PE.imp h ?_
  rintro σ H Q ⟨S, m, ρ, st, en, p⟩
  unfold ev at p
  exact (Post.here st p) v trivial (cV_enc hv)

/-! ### rows of values -/
def noStar : Expr → Bool
  | .Starred .. => false
  | _ => true
theorem star_ok {e : Expr} {es : List Expr} {env : PySem.Env} (h : noStar e = true) : starEach (e :: es) env = (false, eval e env) :: starEach es env := by
  cases e <;> first | rfl | cases h
theorem pa_m0 : PA X [] (RdM (gof u X) W (evM [])) := by
  refine PA.imp pa_nil ?_
  rintro σ H Q ⟨S, m, ρ, st, en, p⟩
  exact (Post.here st p) [] EncAll.nil
theorem evM_cons {e : Sm} {es : List Sm} {ρ : Env} {S : Store} : evM (e :: es) ρ S = ((e.E ρ S).bind mat).bind fun d S2 => (evM es ρ S2).bind fun ds S3 => .ok (d :: ds) S3 := by
  rw [R.bind_assoc]
  rfl
theorem pa_m1 {e : Expr} {es : List Expr} {sm : Sm} {sms : List Sm} (hn : noStar e = true) (he : PE X e (RdE (gof u X) W sm.E)) (hs : PA X es (RdM (gof u X) W (evM sms))) : PA X (e :: es) (RdM (gof u X) W (evM (sm :: sms))) := by
  refine PA.imp (pa_cons he hs (star_ok hn)) ?_
  rintro σ H Q ⟨S, m, ρ, st, en, p⟩
  rw [evM_cons] at p
  refine sub st en (p.bind.mat.mono fun t S1 m1 H1 x1 st1 p1 v fv ev => ?_)
  obtain ⟨d, S2, m2, x2, st2, ed, p2⟩ := p1 v fv ev
  refine ⟨S2, m2, ρ, st2, x2.env en, p2.bind.mono fun ds S3 m3 H3 x3 st3 p3 vs hvs => ?_⟩
  exact (Post.here st3 p3) (v :: vs) (EncAll.cons (x3.enc ed) hvs)
theorem pa_t0 : PA X [] (RdTs (gof u X) W (evTs [])) := by
  refine PA.imp pa_nil ?_
  rintro σ H Q ⟨S, m, ρ, st, en, p⟩
  exact (Post.here st p) [] .nil
theorem EncTs.up {g : Gx} {H0 : Hp} {S S' : Store} {m m' : Nat → Addr} {H H' : Hp} (x : Ext g S m H S' m' H') (st : StRel g S m H) {ts : List T} {vs : List V} (h : EncTs g H0 H m S.length ts vs) : EncTs g H0 H' m' S'.length ts vs := by
  induction h with
  | nil => exact .nil
  | cons f e _ ih => exact .cons f (x.encT st e) ih
theorem EncTs.back {g : Gx} {S0 S1 : Store} {m0 m1 : Nat → Addr} {H0 H1 H : Hp} {m : Nat → Addr} {n : Nat} (x : Ext g S0 m0 H0 S1 m1 H1) {ts : List T} {vs : List V} (h : EncTs g H1 H m n ts vs) : EncTs g H0 H m n ts vs := by
  induction h with
  | nil => exact .nil
  | cons f e _ ih => exact .cons (FreT.back x f) e ih
theorem pa_t1 {e : Expr} {es : List Expr} {sm : Sm} {sms : List Sm} (hn : noStar e = true) (he : PE X e (RdE (gof u X) W sm.E)) (hs : PA X es (RdTs (gof u X) W (evTs sms))) : PA X (e :: es) (RdTs (gof u X) W (evTs (sm :: sms))) := by
  refine PA.imp (pa_cons he hs (star_ok hn)) ?_
  rintro σ H Q ⟨S, m, ρ, st, en, p⟩
  change Post _ _ _ _ _ _ _ ((sm.E ρ S).bind fun t S1 => (evTs sms ρ S1).bind fun ts S2 => .ok (t :: ts) S2) at p
  refine sub st en (p.bind.mono fun t S1 m1 H1 x1 st1 p1 v fv ev => ?_)
  refine ⟨S1, m1, ρ, st1, x1.env en, p1.bind.mono fun ts S2 m2 H2 x2 st2 p2 vs hvs => ?_⟩
  exact (Post.here st2 p2) (v :: vs) (.cons fv (x2.encT st1 ev) (EncTs.back x1 hvs))
theorem lim_le : lim ≤ sizeLine := by rw [sizeLine_eq]; decide
theorem pe_tupD {es : List Expr} {sms : List Sm} {k : Nat} {pos : Pos} (h : PA X es (RdM (gof u X) W (evM sms))) : PE X (.Tuple es k pos) (RdE (gof u X) W fun ρ S => (evM sms ρ S).bind fun ds S1 => if ds.length ≤ lim then .ok (.v (.tup ds)) S1 else .bad) := by
  refine PE.imp (pe_tupF h) ?_
  rintro σ H Q ⟨S, m, ρ, st, en, p⟩
  refine ⟨S, m, ρ, st, en, p.bind.mono fun ds S1 m1 H1 x1 st1 p1 vs hvs => ?_⟩
  split at p1
  · rename_i hl
    refine ⟨Nat.le_trans (by rw [hvs.length]; exact hl) lim_le, fun q o hq ho => ?_⟩
    obtain ⟨y, st2⟩ := alloc_ok (o := .frz o (.tup vs)) st1 hq
    exact p1 m1 _ y st2 _ trivial ⟨q, vs, rfl, PlT.new ho, y.encAll hvs⟩
  · exact p1.elim
theorem pe_lstD {es : List Expr} {sms : List Sm} {pos : Pos} (h : PA X es (RdM (gof u X) W (evM sms))) : PE X (.List es pos) (RdE (gof u X) W fun ρ S => (evM sms ρ S).bind fun ds S1 => if ds.length ≤ lim then .ok (.l ds) S1 else .bad) := by
  refine PE.imp (pe_lst h) ?_
  rintro σ H Q ⟨S, m, ρ, st, en, p⟩
  refine ⟨S, m, ρ, st, en, p.bind.mono fun ds S1 m1 H1 x1 st1 p1 vs hvs => ?_⟩
  split at p1
  · rename_i hl
    refine ⟨Nat.le_trans (by rw [hvs.length]; exact hl) lim_le, fun q hq => ?_⟩
    obtain ⟨y, st2⟩ := alloc_ok (o := .lst vs) st1 hq
    refine p1 m1 _ y st2 _ (fun r e => ?_) ⟨q, vs, rfl, upd_same, y.encAll hvs, fun k h0 hk e => ?_⟩
    · cases e
      exact x1.free (Fr.of hq)
    · exact st1.apart hq k h0 hk e
  · exact p1.elim
end
end Ev
-- EvS3
set_option Elab.async false
set_option linter.all false
set_option maxRecDepth 100000
set_option maxHeartbeats 4000000
/-! EvS3: operators. -/
namespace Ev
open PySem PySem.Spec PyProof.Rows L2
theorem tuple_mulS (l : Addr) (items : Array Value) (n : Nat) (dd : Option Addr) (sl : Array (Option Value)) (x : Int) (u : Tok) (c0 : (decide (x < -(2 ^ 63)) || decide (x ≥ 2 ^ 63)) = false) (c1 : (items.isEmpty || x == 1) = true) :
    Meets (Builtin.«tuple.__mul__» ⟨[.ref l, .int x u], []⟩) (fun _ R s => s.heap.get? l = some { cls := .type "tuple", dict := dd, data := .seq items n, slots := sl } ∧ R (.ok (.ret (Value.ref l))) s) :=
  .of_wp fun prog w A R s h => by
    obtain ⟨hp, g, d, tk, os⟩ := s
    obtain ⟨hl, h⟩ := h
    have f1 := AutoSeq1.idx_int
    wp_walk using wpAny_loadPart' hl
    repeat (first
      | (refine wpAny_ite_false (decide_eq_false (by rw [c0]; exact Bool.false_ne_true)) ?_; wp_walk using wpAny_loadPart' hl)
      | (refine wpAny_ite_true (decide_eq_true c1) ?_; wp_walk using wpAny_loadPart' hl))
    exact ⟨_, rfl, h⟩
theorem tuple_mul0 (l : Addr) (items : Array Value) (n : Nat) (dd : Option Addr) (sl : Array (Option Value)) (x : Int) (u : Tok) (c0 : (decide (x < -(2 ^ 63)) || decide (x ≥ 2 ^ 63)) = false) (c1 : (items.isEmpty || x == 1) = false) (c2 : (decide (x ≤ 0) || items.isEmpty) = true) :
    Meets (Builtin.«tuple.__mul__» ⟨[.ref l, .int x u], []⟩) (fun _ R s => s.heap.get? l = some { cls := .type "tuple", dict := dd, data := .seq items n, slots := sl } ∧
      R (.ok (.ret (Value.ref s.heap.objs.size))) { s with heap := s.heap.push { cls := Value.type "tuple", data := Data.seq #[] }, toks := s.toks }) :=
  .of_wp fun prog w A R s h => by
    obtain ⟨hp, g, d, tk, os⟩ := s
    obtain ⟨hl, h⟩ := h
    have f1 := AutoSeq1.idx_int
    wp_walk using wpAny_loadPart' hl
    repeat (first
      | (refine wpAny_ite_false (decide_eq_false (by rw [c0]; exact Bool.false_ne_true)) ?_; wp_walk using wpAny_loadPart' hl)
      | (refine wpAny_ite_false (decide_eq_false (by rw [c1]; exact Bool.false_ne_true)) ?_; wp_walk using wpAny_loadPart' hl)
      | (refine wpAny_ite_true (decide_eq_true c2) ?_; wp_walk using wpAny_loadPart' hl))
    exact ⟨_, rfl, h⟩
/-- tuple * int, any int -/
def rRepA (K : PySem.W.Frag) : R2 := fun x y H Q => ∃ l k xs, x = .ref l ∧ y = .int k ∧ SqT K H l xs ∧ -(2 ^ 63) ≤ k ∧ k ≤ 1000 ∧ xs.length ≤ 1000 ∧
  ((xs = [] ∨ k = 1) → Q (.ref l) H) ∧ (¬ (xs = [] ∨ k = 1) → ∀ p o, H p = none → Obj.dict o = none → Q (.ref p) (upd H p (.frz o (.tup (List.replicate k.toNat xs).flatten))))
theorem op_repA {X : Cx} : OpR X (binaryOp .Mult) (rRepA X.K) := by
  intro pins s σ H x y v u Q I rx ry h
  obtain ⟨l, k, xs, e1, e2, hT, h0, h2, hz, q1, q2⟩ := h
  subst e1; subst e2
  cases rx
  obtain ⟨t, rfl⟩ := ry
  obtain ⟨its, r, ⟨⟨cls, dd, data, sl⟩, ho, hc, n, hd⟩, hs⟩ := I.tuple hT
  simp only at hc hd
  subst hc hd
  have hle : its.length = xs.length := r.length.symm
  have c0 : (decide (k < -(2 ^ 63)) || decide (k ≥ 2 ^ 63)) = false := by
    rw [decide_eq_false (by omega), decide_eq_false (by omega)] <;> rfl
  have hi : its.toArray.isEmpty = decide (xs = []) := by
    cases its with
    | nil =>
      cases r
      rfl
    | cons a b =>
      cases r
      rfl
  by_cases hsame : xs = [] ∨ k = 1
  · have c1 : (its.toArray.isEmpty || k == 1) = true := by
      rw [hi]
      rcases hsame with e | e
      · rw [decide_eq_true e, Bool.true_or]
      · subst e
        simp
    refine wpAny_binaryOp_repeat_ref (T := "tuple") (U := "int") (by decide) ⟨_, ho, rfl⟩ (fun s' => typeIs_int s' k t) noFill_tuple_mul F.fills_int_mul F.slot_int_rmul repeat_tuple F.slot_int_index.lookup
      (call_meets F.slot_int_rmul (typeIs_int s k t) F.entry_int_rmul (F.args_int_rmul_2 _ _) (int_rmul_tuple k t l its.toArray n dd sl)
        ⟨ho, rfl, ⟨_, ho, rfl⟩, call_meets F.slot_tuple_mul ⟨_, ho, rfl⟩ F.entry_tuple_mul (F.args_tuple_mul_2 _ _) (tuple_mulS l its.toArray n dd sl k t c0 c1) ⟨ho, ?_⟩⟩)
    exact ⟨.ref l, H, I, rfl, q1 hsame⟩
  · have q2' := q2 hsame
    have c1 : (its.toArray.isEmpty || k == 1) = false := by
      rw [hi, decide_eq_false (fun e => hsame (.inl e)), Bool.false_or]
      exact beq_eq_false_iff_ne.mpr (fun e => hsame (.inr e))
    have a1 : k ≠ 1 := fun e => hsame (.inr e)
    by_cases hk : k ≤ 0
    · have c2 : (decide (k ≤ 0) || its.toArray.isEmpty) = true := by
        rw [decide_eq_true hk, Bool.true_or]
      have e0 : (List.replicate k.toNat xs).flatten = [] := by
        have : k.toNat = 0 := by omega
        rw [this]
        rfl
      rw [e0] at q2'
      refine wpAny_binaryOp_repeat_ref (T := "tuple") (U := "int") (by decide) ⟨_, ho, rfl⟩ (fun s' => typeIs_int s' k t) noFill_tuple_mul F.fills_int_mul F.slot_int_rmul repeat_tuple F.slot_int_index.lookup
        (call_meets F.slot_int_rmul (typeIs_int s k t) F.entry_int_rmul (F.args_int_rmul_2 _ _) (int_rmul_tuple k t l its.toArray n dd sl)
          ⟨ho, rfl, ⟨_, ho, rfl⟩, call_meets F.slot_tuple_mul ⟨_, ho, rfl⟩ F.entry_tuple_mul (F.args_tuple_mul_2 _ _) (tuple_mul0 l its.toArray n dd sl k t c0 c1 c2) ⟨ho, ?_⟩⟩)
      exact ⟨.ref s.heap.objs.size, _, laidT (us := []) (xs := []) (t' := s.toks) I .nil (Nat.zero_le _), rfl, q2' _ _ (I.hok.fresh (Nat.le_refl _)) rfl⟩
    · have hn : its ≠ [] := fun e => hsame (.inl (by
        rw [e] at hle
        exact List.eq_nil_of_length_eq_zero hle.symm))
      have hie : its.toArray.isEmpty = false := by
        cases its with
        | nil => exact absurd rfl hn
        | cons a b => rfl
      have hsz0 : its.toArray.size = xs.length := by rw [List.size_toArray, hle]
      have hm : ((its.toArray.size : Nat) : Int) * k ≤ 1000000 := by
        rw [hsz0]
        have a1 : ((xs.length : Nat) : Int) * k ≤ 1000 * k := Int.mul_le_mul_of_nonneg_right (by omega) (by omega)
        omega
      have flen : (List.replicate k.toNat its).flatten.length ≤ sizeLine := by
        rw [PyProof.Rows.lm_len_rep_flat, hle, sizeLine_eq]
        have a1 : k.toNat * xs.length ≤ 1000 * 1000 := Nat.mul_le_mul (by omega) hz
        omega
      have c2 : (decide (k ≤ 0) || its.toArray.isEmpty) = false := by
        rw [hie, Bool.or_false]
        exact decide_eq_false hk
      have c4 : Builtin.Tuple.tupleTooMany (((its.toArray.size : Nat) : Int) * k) = false := by
        unfold Builtin.Tuple.tupleTooMany
        rw [sizeLine_eq]
        exact decide_eq_false (by omega)
      refine wpAny_binaryOp_repeat_ref (T := "tuple") (U := "int") (by decide) ⟨_, ho, rfl⟩ (fun s' => typeIs_int s' k t) noFill_tuple_mul F.fills_int_mul F.slot_int_rmul repeat_tuple F.slot_int_index.lookup
        (call_meets F.slot_int_rmul (typeIs_int s k t) F.entry_int_rmul (F.args_int_rmul_2 _ _) (int_rmul_tuple k t l its.toArray n dd sl)
          ⟨ho, rfl, ⟨_, ho, rfl⟩, call_meets F.slot_tuple_mul ⟨_, ho, rfl⟩ F.entry_tuple_mul (F.args_tuple_mul_2 _ _) (tuple_mulW l its.toArray n dd sl k t c0 c1 c2 (by omega) c4 (by rw [size_rep, List.size_toArray]; exact flen)) ⟨ho, ?_⟩⟩)
      rw [size_rep]
      exact ⟨.ref s.heap.objs.size, _, laidT (t' := s.toks) I (r.rep k.toNat) (by rw [PyProof.Rows.lm_len_rep_flat, sizeLine_eq]; have a1 : k.toNat * xs.length ≤ 1000 * 1000 := Nat.mul_le_mul (by omega) hz; omega), rfl, q2' _ _ (I.hok.fresh (Nat.le_refl _)) rfl⟩
/-- t + u -/
def rCatF (K : PySem.W.Frag) : R2 := fun x y H Q => ∃ a b xs ys, x = .ref a ∧ y = .ref b ∧ SqT K H a xs ∧ SqT K H b ys ∧ xs.length + ys.length ≤ sizeLine ∧
  (xs = [] → Q (.ref b) H) ∧ (xs ≠ [] → ys = [] → Q (.ref a) H) ∧ (xs ≠ [] → ys ≠ [] → ∀ p o, H p = none → Obj.dict o = none → Q (.ref p) (upd H p (.frz o (.tup (xs ++ ys)))))
theorem op_catF {X : Cx} : OpR X (binaryOp .Add) (rCatF X.K) := by
  intro pins s σ H x y v u Q I rx ry h
  obtain ⟨a, b, xs, ys, rfl, rfl, ha, hb, hz, q0, q1, q2⟩ := h
  cases rx
  cases ry
  obtain ⟨its, r1, p1, _⟩ := I.tuple ha
  obtain ⟨its2, r2, p2, _⟩ := I.tuple hb
  by_cases hx : xs = []
  · subst hx
    cases r1
    exact cat_tup0 p1 p2 ⟨.ref b, H, I, rfl, q0 rfl⟩
  · refine HT.cat_tup p1 p2 (fun z => hx (r1.nil_iff.mp z)) (fun z => ⟨.ref a, H, I, rfl, q1 hx (r2.nil_iff.mp z)⟩) (fun z => ?_) (by rw [← r1.length, ← r2.length]; exact hz)
    exact ⟨.ref s.heap.objs.size, _, laidT (t' := s.toks) I (r1.append r2) (by rw [List.length_append]; exact hz), rfl, q2 hx (fun w => z (r2.nil_iff.mpr w)) _ _ (I.hok.fresh (Nat.le_refl _)) rfl⟩

/-! ### what stands for a list, a tuple, a dict -/
section
variable {g : Gx} {S : Store} {m : Nat → Addr} {H : Hp} {t : T} {v : V} {xs : List D}
theorem asM_ok (st : StRel g S m H) (en : EncT g H m S.length t v) (e : asM t S = some xs) : ∃ p vs, v = .ref p ∧ H p = some (.lst vs) ∧ EncAll g H m S.length xs vs := by
  cases t with
  | l ys =>
    cases e
    obtain ⟨p, vs, e, h1, h2, _⟩ := en
    exact ⟨p, vs, e, h1, h2⟩
  | t kvs => cases e
  | v d =>
    cases d with
    | ref k =>
      obtain ⟨h1, h2⟩ := (show k < S.length ∧ v = V.ref (m k) from en)
      have e1 := List.getElem?_eq_getElem h1
      have cr := st.cell k _ e1
      have e' : (match S[k]? with | some (.lst _ xs) => some xs | _ => none) = some xs := e
      rw [e1] at e'
      revert e' cr
      generalize S[k] = c
      intro cr e'
      cases c with
      | lst b ys =>
        cases e'
        obtain ⟨vs, q1, q2⟩ := cr
        exact ⟨_, vs, h2, q1, q2⟩
      | ro ys => cases e'
      | dT b ys => cases e'
    | _ => cases e
theorem asL_ok (st : StRel g S m H) (en : EncT g H m S.length t v) (e : asL t S = some xs) : ∃ p vs, v = .ref p ∧ SqL g.K H p vs ∧ EncAll g H m S.length xs vs := by
  cases t with
  | l ys =>
    cases e
    obtain ⟨p, vs, e, h1, h2, _⟩ := en
    exact ⟨p, vs, e, SqL.of h1, h2⟩
  | t kvs => cases e
  | v d =>
    cases d with
    | ref k =>
      obtain ⟨h1, h2⟩ := (show k < S.length ∧ v = V.ref (m k) from en)
      have e1 := List.getElem?_eq_getElem h1
      have cr := st.cell k _ e1
      have e' : (match S[k]? with | some (.lst _ xs) => some xs | some (.ro xs) => some xs | _ => none) = some xs := e
      rw [e1] at e'
      revert e' cr
      generalize S[k] = c
      intro cr e'
      cases c with
      | lst b ys =>
        cases e'
        obtain ⟨vs, q1, q2⟩ := cr
        exact ⟨_, vs, h2, SqL.of q1, q2⟩
      | ro ys =>
        cases e'
        obtain ⟨vs, q1, q2⟩ := cr
        refine ⟨_, vs, h2, ?_, q2⟩
        rcases q1 with ⟨o, q⟩ | q
        · exact .inl (.inr ⟨o, q⟩)
        · rcases q with (q | ⟨o, q⟩) | q
          · cases q
          · cases q
          · exact .inr q
      | dT b ys => cases e'
    | _ => cases e
theorem asQ_ok (st : StRel g S m H) (en : EncT g H m S.length t v) (e : asQ t S = some xs) : ∃ p vs, v = .ref p ∧ (SqL g.K H p vs ∨ (PlT g.K H p vs ∧ t = .v (.tup xs))) ∧ EncAll g H m S.length xs vs := by
  have base : asL t S = some xs → ∃ p vs, v = .ref p ∧ (SqL g.K H p vs ∨ (PlT g.K H p vs ∧ t = .v (.tup xs))) ∧ EncAll g H m S.length xs vs := fun e => by
    obtain ⟨p, vs, h1, h2, h3⟩ := asL_ok st en e
    exact ⟨p, vs, h1, .inl h2, h3⟩
  cases t with
  | v d =>
    cases d with
    | tup ys =>
      cases e
      obtain ⟨a, vs, h1, h2, h3⟩ := en
      exact ⟨a, vs, h1, .inr ⟨h2, rfl⟩, h3⟩
    | _ => exact base e
  | _ => exact base e
theorem asT_ok {kvs : List (D × D)} (st : StRel g S m H) (en : EncT g H m S.length t v) (e : asT t S = some kvs) : ∃ p, v = .ref p ∧ DTrel g H m S.length p kvs := by
  cases t with
  | l ys => cases e
  | t ys =>
    cases e
    obtain ⟨p, e, h1, _⟩ := en
    exact ⟨p, e, h1⟩
  | v d =>
    cases d with
    | ref k =>
      obtain ⟨h1, h2⟩ := (show k < S.length ∧ v = V.ref (m k) from en)
      have e1 := List.getElem?_eq_getElem h1
      have cr := st.cell k _ e1
      have e' : (match S[k]? with | some (.dT _ xs) => some xs | _ => none) = some kvs := e
      rw [e1] at e'
      revert e' cr
      generalize S[k] = c
      intro cr e'
      cases c with
      | lst b ys => cases e'
      | ro ys => cases e'
      | dT b ys =>
        cases e'
        exact ⟨_, h2, cr⟩
    | _ => cases e
end

/-! ### ints -/
theorem mulOk_ok {i j : Int} (h : mulOk i j = true) : IntMulOk i j := by
  unfold mulOk at h
  rw [Bool.or_eq_true, Bool.or_eq_true, decide_eq_true_eq, decide_eq_true_eq, Bool.and_eq_true, decide_eq_true_eq, decide_eq_true_eq] at h
  have z : ((2 : Nat) ^ 64 : Nat) = 18446744073709551616 := by decide
  have zi : ((2 : Int) ^ 64 : Int) = 18446744073709551616 := by decide
  rcases h with (h | h) | ⟨h1, h2⟩
  · refine CMul.ok (.inl ⟨?_, ?_⟩) <;> rw [zi] <;> omega
  · refine CMul.ok (.inr ⟨?_, ?_⟩) <;> rw [zi] <;> omega
  · exact CMulW.ok (wide_mul h1 h2 (by decide) (by decide) (by decide))
section
variable {X : Cx}
def CMulE (i j : Int) : Prop := mulOk i j = true
theorem op_mulE : OpR X (binaryOp .Mult) (rI CMulE fun i j => .int (i * j)) := opI fun i j _ _ _ _ _ hc q => mul_int q (mulOk_ok hc)
theorem iop_mulE : OpR X (inplaceOp .Mult) (rI CMulE fun i j => .int (i * j)) := opI fun i j _ _ _ _ _ hc q => imul_int q (mulOk_ok hc)
def pyOp : Op2 → Operator
  | .add => .Add
  | .sub => .Sub
  | .mul => .Mult
  | .mod => .Mod
  | .fdiv => .FloorDiv
  | .pow => .Pow
/-- ints by binI -/
def rBinI (o : Op2) : R2 := fun x y H Q => ∃ i j k, x = .int i ∧ y = .int j ∧ binI o i j = some k ∧ Q (.int k) H
theorem fdiv_ok {j : Int} (h : 0 < j ∧ j.natAbs < 2 ^ 8000) : CDivW 0 j := wide_div (i := 0) h.1 h.2 (by decide) (by decide)
theorem op_binI (o : Op2) : OpR X (binaryOp (pyOp o)) (rBinI o) := by
  intro pins s σ H x y v u Q I rx ry h
  obtain ⟨i, j, k, e1, e2, e, q⟩ := h
  cases o with
  | add =>
    cases e
    exact op_add pins s σ H x y v u Q I rx ry ⟨i, j, e1, e2, q⟩
  | sub =>
    cases e
    exact op_sub pins s σ H x y v u Q I rx ry ⟨i, j, e1, e2, q⟩
  | mul =>
    have e' : (if mulOk i j then some (i * j) else none) = some k := e
    split at e'
    · rename_i hc
      cases e'
      exact op_mulE pins s σ H x y v u Q I rx ry ⟨i, j, e1, e2, hc, q⟩
    · cases e'
  | mod =>
    have e' : (if 0 < j then some (i % j) else none) = some k := e
    split at e'
    · rename_i hc
      cases e'
      exact op_mod pins s σ H x y v u Q I rx ry ⟨i, j, e1, e2, hc, q⟩
    · cases e'
  | fdiv =>
    have e' : (if 0 < j ∧ j.natAbs < 2 ^ 8000 then some (i / j) else none) = some k := e
    split at e'
    · rename_i hc
      cases e'
      exact op_fdivW pins s σ H x y v u Q I rx ry ⟨i, j, e1, e2, fdiv_ok hc, q⟩
    · cases e'
  | pow =>
    have e' : (if 0 ≤ j ∧ j ≤ 1000000 ∧ i.natAbs < 2 ^ 64 then some (i ^ j.toNat) else none) = some k := e
    split at e'
    · rename_i hc
      cases e'
      exact op_pow pins s σ H x y v u Q I rx ry ⟨i, j, e1, e2, hc, q⟩
    · cases e'
theorem iop_binI (o : Op2) (ho : o ≠ .pow) : OpR X (inplaceOp (pyOp o)) (rBinI o) := by
  intro pins s σ H x y v u Q I rx ry h
  obtain ⟨i, j, k, e1, e2, e, q⟩ := h
  cases o with
  | add =>
    cases e
    exact iop_add pins s σ H x y v u Q I rx ry ⟨i, j, e1, e2, q⟩
  | sub =>
    cases e
    exact iop_sub pins s σ H x y v u Q I rx ry ⟨i, j, e1, e2, q⟩
  | mul =>
    have e' : (if mulOk i j then some (i * j) else none) = some k := e
    split at e'
    · rename_i hc
      cases e'
      exact iop_mulE pins s σ H x y v u Q I rx ry ⟨i, j, e1, e2, hc, q⟩
    · cases e'
  | mod =>
    have e' : (if 0 < j then some (i % j) else none) = some k := e
    split at e'
    · rename_i hc
      cases e'
      exact iop_mod pins s σ H x y v u Q I rx ry ⟨i, j, e1, e2, hc, q⟩
    · cases e'
  | fdiv =>
    have e' : (if 0 < j ∧ j.natAbs < 2 ^ 8000 then some (i / j) else none) = some k := e
    split at e'
    · rename_i hc
      cases e'
      exact iop_fdivW pins s σ H x y v u Q I rx ry ⟨i, j, e1, e2, fdiv_ok hc, q⟩
    · cases e'
  | pow => exact absurd rfl ho

/-! ### two values -/
theorem op_bin2 {g : Gx} (hK : g.K = X.K) (o1 : Op2) : OpR X (binaryOp (pyOp o1)) (rOp g (bin2 o1)) := by
  intro pins s σ H x y v u Q I rx ry h
  obtain ⟨S, m, ta, tb, t, st, ea, eb, e, k⟩ := h
  unfold bin2 at e
  split at e
  · -- tuple * int
    rename_i xs j
    split at e
    · rename_i hc
      cases e
      obtain ⟨a, vs, h1, h2, h3⟩ := ea
      have h4 : y = .int j := eb
      have hl := h3.length
      refine op_repA pins s σ H x y v u Q I rx ry ⟨a, j, vs, h1, h4, hK ▸ h2.sq, hc.1, hc.2.1, by rw [hl]; exact hc.2.2, fun hs => ?_, fun hs p o hp ho => ?_⟩
      · refine k m H _ Ext.refl st trivial ⟨a, vs, rfl, h2, ?_⟩
        rcases hs with hs | hs
        · rw [hs] at h3 ⊢
          have : xs = [] := (h3.nil_iff).mp rfl
          subst this
          have : (List.replicate j.toNat ([] : List D)).flatten = [] := by
            generalize j.toNat = n
            induction n with
            | zero => rfl
            | succ n ih => rw [List.replicate_succ, List.flatten_cons, ih]; rfl
          rw [this]
          exact h3
        · subst hs
          show EncAll g H m S.length (List.replicate 1 xs).flatten vs
          simpa using h3
      · obtain ⟨x1, st1⟩ := alloc_ok (o := .frz o (.tup (List.replicate j.toNat vs).flatten)) st hp
        exact k m _ _ x1 st1 trivial ⟨p, _, rfl, PlT.new ho, x1.encAll (h3.rep _)⟩
    · cases e
  · -- tuple + tuple
    rename_i xs ys
    split at e
    · rename_i hc
      cases e
      obtain ⟨a, vs, h1, h2, h3⟩ := ea
      obtain ⟨b, us, h4, h5, h6⟩ := eb
      refine op_catF pins s σ H x y v u Q I rx ry ⟨a, b, vs, us, h1, h4, hK ▸ h2.sq, hK ▸ h5.sq, ?_, fun hs => ?_, fun _ hs => ?_, fun _ _ p o hp ho => ?_⟩
      · rw [h3.length, h6.length]
        exact Nat.le_trans hc lim_le
      · rw [hs] at h3
        have : xs = [] := (h3.nil_iff).mp rfl
        subst this
        exact k m H _ Ext.refl st trivial ⟨b, us, rfl, h5, h6⟩
      · rw [hs] at h6
        have : ys = [] := (h6.nil_iff).mp rfl
        subst this
        exact k m H _ Ext.refl st trivial ⟨a, vs, rfl, h2, by rw [List.append_nil]; exact h3⟩
      · obtain ⟨x1, st1⟩ := alloc_ok (o := .frz o (.tup (vs ++ us))) st hp
        exact k m _ _ x1 st1 trivial ⟨p, _, rfl, PlT.new ho, x1.encAll (h3.append h6)⟩
    · cases e
  · -- ints
    rename_i oo a0 b0 i j
    cases e1 : binI o1 i j with
    | none =>
      rw [e1] at e
      cases e
    | some r =>
      rw [e1] at e
      cases e
      have h1 : x = .int i := ea
      have h2 : y = .int j := eb
      exact op_binI o1 pins s σ H x y v u Q I rx ry ⟨i, j, r, h1, h2, e1, k m H _ Ext.refl st trivial rfl⟩
  · -- lists
    split at e
    · rename_i xs ys q1 q2
      split at e
      · rename_i hc
        cases e
        obtain ⟨a, vs, h1, h2, h3⟩ := asM_ok st ea q1
        obtain ⟨b, us, h4, h5, h6⟩ := asM_ok st eb q2
        refine op_cat pins s σ H x y v u Q I rx ry ⟨a, b, vs, us, h1, h4, h2, h5, ?_, fun p hp => ?_⟩
        · rw [h3.length, h6.length]
          exact Nat.le_trans hc lim_le
        · obtain ⟨x1, st1⟩ := alloc_ok (o := .lst (vs ++ us)) st hp
          refine k m _ _ x1 st1 (fun r e => ?_) ⟨p, _, rfl, upd_same, x1.encAll (h3.append h6), st.apart hp⟩
          cases e
          exact Fr.of hp
      · cases e
    · cases e
  · cases e
end
end Ev
-- EvS4
set_option Elab.async false
set_option linter.all false
set_option maxRecDepth 100000
set_option maxHeartbeats 4000000
/-! EvS4: tests, comparisons, subscripts, slices. -/
namespace Ev
open PySem PySem.Spec PyProof.Rows L2
section
variable {X : Cx} {u : Tb} {W : WX}
theorem ev_cast {g : Gx} {K : PySem.W.Frag} (h : g.K = K) {H : Hp} {a : Addr} {vs : List V} : (SqL g.K H a vs ↔ SqL K H a vs) ∧ (SqT g.K H a vs ↔ SqT K H a vs) := by
  subst h
  exact ⟨Iff.rfl, Iff.rfl⟩

/-! ### truth -/
theorem truth_ok {S : Store} {m : Nat → Addr} {H : Hp} {t : T} {v : V} {k : Bool} (st : StRel (gof u X) S m H) (en : EncT (gof u X) H m S.length t v) (e : truth t S = some k) : TruV X.K v H k := by
  have base : (asL t S).map (fun xs => !xs.isEmpty) = some k → TruV X.K v H k := fun e => by
    cases e1 : asL t S with
    | none =>
      rw [e1] at e
      cases e
    | some xs =>
      rw [e1] at e
      cases e
      obtain ⟨p, vs, rfl, h2, h3⟩ := asL_ok st en e1
      refine .inl ⟨vs, h2, ?_⟩
      have hl := h3.length
      cases xs with
      | nil =>
        have : vs = [] := List.eq_nil_of_length_eq_zero hl
        rw [this]
        rfl
      | cons a b =>
        cases vs with
        | nil => cases hl
        | cons c d => rfl
  cases t with
  | l xs => exact base e
  | t kvs => exact base e
  | v d =>
    cases d with
    | non =>
      cases e
      have : v = V.non := en
      rw [this]
      rfl
    | bl b =>
      have : v = V.bl b := en
      rw [this]
      exact (Option.some.inj e).symm
    | int i =>
      cases e
      have : v = V.int i := en
      rw [this]
      rfl
    | str s => exact base e
    | tup xs =>
      cases e
      obtain ⟨a, vs, rfl, h2, h3⟩ := en
      refine .inr (.inl ⟨vs, h2.sq, ?_⟩)
      have hl := h3.length
      cases xs with
      | nil =>
        have : vs = [] := List.eq_nil_of_length_eq_zero hl
        rw [this]
        rfl
      | cons a b =>
        cases vs with
        | nil => cases hl
        | cons c d => rfl
    | ref k => exact base e
    | fn k => exact base e
/-- the expressions whose test is their value's truth -/
def plainT : Expr → Bool
  | .Name .. => true
  | .Call .. => true
  | .Subscript .. => true
  | _ => false
theorem plainT_ok {e : Expr} {env : PySem.Env} (h : plainT e = true) (whole : Sem Value) : isTrue e env whole = (do let v ← whole; standAt e.pos; holding [v] (truthy v)) := by
  cases e <;> first | rfl | cases h
theorem pt_pl {e : Expr} {E : Env → Store → R T} (hp : plainT e = true) (h : PE X e (RdE (gof u X) W E)) : PT X e (RdB (gof u X) W (mk E).B) := by
  refine PT.imp (pt_truth h (plainT_ok hp)) ?_
  rintro σ H Q ⟨S, m, ρ, st, en, p⟩
  refine ⟨S, m, ρ, st, en, p.bind.mono fun t S1 m1 H1 x1 st1 p1 v fv ev => ?_⟩
  obtain ⟨k, e1, q⟩ := p1.opt
  exact ⟨k, truth_ok st1 ev e1, q m1 H1 Ext.refl st1⟩
theorem pt_nt {a : Expr} {B : Env → Store → R Bool} {pos : Pos} (ha : PT X a (RdB (gof u X) W B)) : PT X (.UnaryOp .Not a pos) (RdB (gof u X) W fun ρ S => (B ρ S).bind fun k S1 => .ok (!k) S1) := by
  refine PT.imp (pt_not ha) ?_
  rintro σ H Q ⟨S, m, ρ, st, en, p⟩
  exact ⟨S, m, ρ, st, en, p.bind.mono fun k S1 m1 H1 x1 st1 p1 => Post.here st1 p1⟩
theorem pe_nt {a : Expr} {E : Env → Store → R T} {pos : Pos} (ha : PE X a (RdE (gof u X) W E)) : PE X (.UnaryOp .Not a pos) (RdE (gof u X) W (mkB fun ρ S => ((mk E).B ρ S).bind fun k S1 => .ok (!k) S1).E) := by
  refine PE.imp (pe_notT ha) ?_
  rintro σ H Q ⟨S, m, ρ, st, en, p⟩
  refine ⟨S, m, ρ, st, en, ?_⟩
  have p' : Post (gof u X) W S m H σ (KE (gof u X) H Q) (((((E ρ S).bind fun t S1 => opt (truth t S1) S1).bind fun k S1 => R.ok (!k) S1)).bind fun k S1 => R.ok (T.v (.bl k)) S1) := p
  rw [R.bind_assoc, R.bind_assoc] at p'
  refine p'.bind.mono fun t S1 m1 H1 x1 st1 p1 v fv ev => ?_
  have p2 := p1.bind
  obtain ⟨k, e1, q⟩ := p2.opt
  exact ⟨k, truth_ok st1 ev e1, (Post.here st1 (q m1 H1 Ext.refl st1)) _ trivial rfl⟩
/-! ### and, or as tests -/
theorem pw_and_one {a : Expr} {s : Sm} {pos : Pos} (ha : PT X a (RdB (gof u X) W s.B)) : PW X (.BoolOp .And [a] pos) (RdB (gof u X) W (evC [s])) := by
  refine PW.imp (pw_and1 ha) ?_
  rintro σ H Q ⟨S, m, ρ, st, en, p⟩
  refine ⟨S, m, ρ, st, en, (Post.bind p).mono fun k S1 m1 H1 x1 st1 p1 => ?_⟩
  cases k with
  | true => exact Post.here (a := true) st1 p1
  | false => exact Post.here (a := false) st1 p1
theorem pw_and_cons {a b : Expr} {rest : List Expr} {s : Sm} {ss : List Sm} {pos : Pos} (ha : PT X a (RdB (gof u X) W s.B)) (hb : PW X (.BoolOp .And (b :: rest) pos) (RdB (gof u X) W (evC ss))) : PW X (.BoolOp .And (a :: b :: rest) pos) (RdB (gof u X) W (evC (s :: ss))) := by
  refine PW.imp (pw_and ha hb) ?_
  rintro σ H Q ⟨S, m, ρ, st, en, p⟩
  refine ⟨S, m, ρ, st, en, (Post.bind p).mono fun k S1 m1 H1 x1 st1 p1 => ?_⟩
  cases k with
  | true => exact ⟨S1, m1, ρ, st1, x1.env en, p1⟩
  | false => exact Post.here (a := false) st1 p1
theorem pw_or_one {a : Expr} {s : Sm} {pos : Pos} (ha : PT X a (RdB (gof u X) W s.B)) : PW X (.BoolOp .Or [a] pos) (RdB (gof u X) W (evO [s])) := by
  refine PW.imp (pw_or1 ha) ?_
  rintro σ H Q ⟨S, m, ρ, st, en, p⟩
  refine ⟨S, m, ρ, st, en, (Post.bind p).mono fun k S1 m1 H1 x1 st1 p1 => ?_⟩
  cases k with
  | true => exact Post.here (a := true) st1 p1
  | false => exact Post.here (a := false) st1 p1
theorem pw_or_cons {a b : Expr} {rest : List Expr} {s : Sm} {ss : List Sm} {pos : Pos} (ha : PT X a (RdB (gof u X) W s.B)) (hb : PW X (.BoolOp .Or (b :: rest) pos) (RdB (gof u X) W (evO ss))) : PW X (.BoolOp .Or (a :: b :: rest) pos) (RdB (gof u X) W (evO (s :: ss))) := by
  refine PW.imp (pw_or ha hb) ?_
  rintro σ H Q ⟨S, m, ρ, st, en, p⟩
  refine ⟨S, m, ρ, st, en, (Post.bind p).mono fun k S1 m1 H1 x1 st1 p1 => ?_⟩
  cases k with
  | true => exact Post.here (a := true) st1 p1
  | false => exact ⟨S1, m1, ρ, st1, x1.env en, p1⟩
/-! ### and, or as values -/
theorem pe_and_one {op : BoolOp} {a : Expr} {s : Sm} {pos : Pos} (ha : PE X a (RdE (gof u X) W s.E)) : PE X (.BoolOp op [a] pos) (RdE (gof u X) W (evAnd [s])) := pe_one ha
theorem pe_or_one {op : BoolOp} {a : Expr} {s : Sm} {pos : Pos} (ha : PE X a (RdE (gof u X) W s.E)) : PE X (.BoolOp op [a] pos) (RdE (gof u X) W (evOr [s])) := pe_one ha
theorem pe_and_cons {a b : Expr} {rest : List Expr} {s s' : Sm} {ss : List Sm} {pos : Pos} (ha : PE X a (RdE (gof u X) W s.E)) (hb : PE X (.BoolOp .And (b :: rest) pos) (RdE (gof u X) W (evAnd (s' :: ss)))) :
    PE X (.BoolOp .And (a :: b :: rest) pos) (RdE (gof u X) W (evAnd (s :: s' :: ss))) := by
  refine PE.imp (pe_andT ha hb) ?_
  rintro σ H Q ⟨S, m, ρ, st, en, p⟩
  refine ⟨S, m, ρ, st, en, (Post.bind p).mono fun t S1 m1 H1 x1 st1 p1 v fv ev => ?_⟩
  obtain ⟨k, e1, q⟩ := (Post.bind p1).opt
  refine ⟨k, truth_ok st1 ev e1, ?_⟩
  have q1 := q m1 H1 Ext.refl st1
  cases k with
  | true => exact ⟨S1, m1, ρ, st1, x1.env en, Post.mono q1 fun a S' m' H' x' st' p' v' f' e' => p' v' (FreT.back x1 f') e'⟩
  | false => exact (Post.here (a := t) st1 q1) v fv ev
theorem pe_or_cons {a b : Expr} {rest : List Expr} {s s' : Sm} {ss : List Sm} {pos : Pos} (ha : PE X a (RdE (gof u X) W s.E)) (hb : PE X (.BoolOp .Or (b :: rest) pos) (RdE (gof u X) W (evOr (s' :: ss)))) :
    PE X (.BoolOp .Or (a :: b :: rest) pos) (RdE (gof u X) W (evOr (s :: s' :: ss))) := by
  refine PE.imp (pe_orT ha hb) ?_
  rintro σ H Q ⟨S, m, ρ, st, en, p⟩
  refine ⟨S, m, ρ, st, en, (Post.bind p).mono fun t S1 m1 H1 x1 st1 p1 v fv ev => ?_⟩
  obtain ⟨k, e1, q⟩ := (Post.bind p1).opt
  refine ⟨k, truth_ok st1 ev e1, ?_⟩
  have q1 := q m1 H1 Ext.refl st1
  cases k with
  | false => exact ⟨S1, m1, ρ, st1, x1.env en, Post.mono q1 fun a S' m' H' x' st' p' v' f' e' => p' v' (FreT.back x1 f') e'⟩
  | true => exact (Post.here (a := t) st1 q1) v fv ev
/-- a if t else b -/
theorem pe_ife {c a b : Expr} {B : Env → Store → R Bool} {Ea Eb : Env → Store → R T} {pos : Pos} (hc : PT X c (RdB (gof u X) W B)) (ha : PE X a (RdE (gof u X) W Ea)) (hb : PE X b (RdE (gof u X) W Eb)) :
    PE X (.IfExp c a b pos) (RdE (gof u X) W fun ρ S => (B ρ S).bind fun k S1 => if k then Ea ρ S1 else Eb ρ S1) := by
  refine PE.imp (pe_ifExp hc ha hb) ?_
  rintro σ H Q ⟨S, m, ρ, st, en, p⟩
  refine ⟨S, m, ρ, st, en, p.bind.mono fun k S1 m1 H1 x1 st1 p1 => ?_⟩
  cases k with
  | true => exact ⟨S1, m1, ρ, st1, x1.env en, Post.mono p1 fun a S' m' H' x' st' p' v' f' e' => p' v' (FreT.back x1 f') e'⟩
  | false => exact ⟨S1, m1, ρ, st1, x1.env en, Post.mono p1 fun a S' m' H' x' st' p' v' f' e' => p' v' (FreT.back x1 f') e'⟩

/-! ### comparisons -/
def pyCm : Cm → CmpOp
  | .eq => .Eq
  | .ne => .NotEq
  | .lt => .Lt
  | .le => .LtE
  | .gt => .Gt
  | .ge => .GtE
  | .isN => .Is
  | .noN => .IsNot
theorem pyCm_in (o : Cm) : pyCm o ≠ .In ∧ pyCm o ≠ .NotIn := by cases o <;> exact ⟨by decide, by decide⟩
theorem nom (b : Expr) (o : Cm) : behindInMarks (pyCm o) b = false := nobehind b (pyCm_in o).1 (pyCm_in o).2
def rCm (g : Gx) (f : T → T → Store → Option Bool) : R2 := fun x y H Q => ∃ S m ta tb k, StRel g S m H ∧ EncT g H m S.length ta x ∧ EncT g H m S.length tb y ∧ f ta tb S = some k ∧ Q (.bl k) H
theorem toPy_ok {S : Store} {m : Nat → Addr} {H : Hp} {t : T} {v : V} {d : PyData} (st : StRel (gof u X) S m H) (en : EncT (gof u X) H m S.length t v) (e : toPy t S = some d) : Dp X.K H v d ∧ d.plain = true := by
  cases t with
  | t kvs => cases e
  | l xs =>
    have e' : (if D.pures xs then some (PyData.list (D.pys xs)) else none) = some d := e
    split at e'
    · rename_i hp
      cases e'
      obtain ⟨p, vs, rfl, h1, h2, _⟩ := en
      exact ⟨.lst (SqL.of h1) (EncAll.dp xs vs hp h2), pys_plain xs⟩
    · cases e'
  | v d' =>
    have base : (if d'.pure then some d'.py else none) = some d → Dp X.K H v d ∧ d.plain = true := fun e => by
      split at e
      · rename_i hp
        cases e
        exact ⟨Enc.dp d' v hp en, py_plain d'⟩
      · cases e
    cases d' with
    | ref k =>
      have hq : ∃ xs, asL (.v (.ref k)) S = some xs ∧ D.pures xs = true ∧ d = .list (D.pys xs) := by
        have e' : (match S[k]? with | some (.lst _ xs) => if D.pures xs then some (PyData.list (D.pys xs)) else none | some (.ro xs) => if D.pures xs then some (PyData.list (D.pys xs)) else none | _ => none) = some d := e
        show ∃ xs, (match S[k]? with | some (.lst _ xs) => some xs | some (.ro xs) => some xs | _ => none) = some xs ∧ _
        revert e'
        generalize S[k]? = c
        intro e'
        rcases c with _ | c
        · cases e'
        · cases c with
          | lst b xs =>
            have e2 : (if D.pures xs then some (PyData.list (D.pys xs)) else none) = some d := e'
            split at e2
            · rename_i hp
              cases e2
              exact ⟨xs, rfl, hp, rfl⟩
            · cases e2
          | ro xs =>
            have e2 : (if D.pures xs then some (PyData.list (D.pys xs)) else none) = some d := e'
            split at e2
            · rename_i hp
              cases e2
              exact ⟨xs, rfl, hp, rfl⟩
            · cases e2
          | dT b xs => cases e'
      obtain ⟨xs, e1, hp, rfl⟩ := hq
      obtain ⟨p, vs, rfl, h2, h3⟩ := asL_ok st en e1
      exact ⟨.lst h2 (EncAll.dp xs vs hp h3), pys_plain xs⟩
    | _ => exact base e
theorem op_cmp2 (hu : X.A.units + 64 < cLine) (o : Cm) : OpR X (compareOp (pyCm o)) (rCm (gof u X) (cmp2 o)) := by
  intro pins s σ H x y v w Q I rx ry h
  obtain ⟨S, m, ta, tb, k, st, ea, eb, e, q⟩ := h
  have eqk : ∀ k', eqT ta tb S = some k' → ∃ d f as bs, Reads s.heap v d as ∧ Reads s.heap w f bs ∧ d.plain = true ∧ f.plain = true ∧ X.A.units + min d.depth f.depth < cLine ∧ k' = PyData.eqv d f := fun k' e => by
    unfold eqT at e
    split at e
    · rename_i d f q1 q2
      split at e
      · rename_i hd
        cases e
        obtain ⟨h1, h2⟩ := toPy_ok st ea q1
        obtain ⟨h3, h4⟩ := toPy_ok st eb q2
        obtain ⟨as, r1⟩ := Dp.reads I d x v h1 rx
        obtain ⟨bs, r2⟩ := Dp.reads I f y w h3 ry
        exact ⟨d, f, as, bs, r1, r2, h2, h4, by omega, rfl⟩
      · cases e
    · cases e
  have intsQ : ∀ o', (match ta, tb with | .v (.int i), .v (.int j) => cmpI o' i j | _, _ => none) = some k → ∃ i j, x = .int i ∧ y = .int j ∧ cmpI o' i j = some k := fun o' e => by
    split at e
    · rename_i i j _
      exact ⟨i, j, ea, eb, e⟩
    · cases e
  have non : tb.isNon = true → y = .non := fun hb => by
    cases tb with
    | v d =>
      cases d with
      | non => exact eb
      | _ => cases hb
    | _ => cases hb
  have nonx : ta.isNon = decide (x = .non) := by
    cases ta with
    | l xs =>
      obtain ⟨p, vs, rfl, _⟩ := ea
      rfl
    | t xs =>
      obtain ⟨p, rfl, _⟩ := ea
      rfl
    | v d =>
      cases d with
      | non =>
        have : x = .non := ea
        rw [this]
        rfl
      | bl b =>
        have : x = .bl b := ea
        rw [this]
        rfl
      | int b =>
        have : x = .int b := ea
        rw [this]
        rfl
      | str b =>
        have : x = .str b := ea
        rw [this]
        rfl
      | tup xs =>
        obtain ⟨p, vs, rfl, _⟩ := ea
        rfl
      | ref k =>
        have : x = .ref (m k) := ea.2
        rw [this]
        rfl
      | fn i =>
        obtain ⟨_, a, _, e, _⟩ := ea
        rw [e]
        rfl
  cases o with
  | eq =>
    obtain ⟨d, f, as, bs, r1, r2, h1, h2, hd, e1⟩ := eqk k e
    subst e1
    exact PySem.SeqAt.eq_plain r1 r2 h1 h2 hd ⟨.bl _, H, I, rfl, q⟩
  | ne =>
    have e' : (eqT ta tb S).map (fun k => !k) = some k := e
    cases e1 : eqT ta tb S with
    | none =>
      rw [e1] at e'
      cases e'
    | some k' =>
      rw [e1] at e'
      cases e'
      obtain ⟨d, f, as, bs, r1, r2, h1, h2, hd, e1⟩ := eqk k' e1
      subst e1
      exact PySem.SeqAt.ne_plain r1 r2 h1 h2 hd ⟨.bl _, H, I, rfl, q⟩
  | lt =>
    obtain ⟨i, j, e1, e2, e3⟩ := intsQ .lt e
    cases e3
    exact op_lt pins s σ H x y v w Q I rx ry ⟨i, j, e1, e2, q⟩
  | le =>
    obtain ⟨i, j, e1, e2, e3⟩ := intsQ .le e
    cases e3
    exact op_le pins s σ H x y v w Q I rx ry ⟨i, j, e1, e2, q⟩
  | gt =>
    obtain ⟨i, j, e1, e2, e3⟩ := intsQ .gt e
    cases e3
    exact op_gt pins s σ H x y v w Q I rx ry ⟨i, j, e1, e2, q⟩
  | ge =>
    obtain ⟨i, j, e1, e2, e3⟩ := intsQ .ge e
    cases e3
    exact op_ge pins s σ H x y v w Q I rx ry ⟨i, j, e1, e2, q⟩
  | isN =>
    have e' : (if tb.isNon then some ta.isNon else none) = some k := e
    split at e'
    · rename_i hb
      cases e'
      exact op_isN pins s σ H x y v w Q I rx ry ⟨non hb, by rw [← nonx]; exact q⟩
    · cases e'
  | noN =>
    have e' : (if tb.isNon then some (!ta.isNon) else none) = some k := e
    split at e'
    · rename_i hb
      cases e'
      exact op_notN pins s σ H x y v w Q I rx ry ⟨non hb, by rw [← nonx]; exact q⟩
    · cases e'
section
variable {a b c : Expr} {Ea Eb Ec : Env → Store → R T} {pos : Pos} (hu : X.A.units + 64 < cLine) (ha : PE X a (RdE (gof u X) W Ea)) (hb : PE X b (RdE (gof u X) W Eb)) (hc : PE X c (RdE (gof u X) W Ec))
theorem cm_sub {o : Cm} {σ : L2.St} {H : Hp} {S : Store} {m : Nat → Addr} {ρ : Env} {K : Bool → Store → (Nat → Addr) → Hp → Prop} {Qv : VK} (st : StRel (gof u X) S m H) (en : EnvRel (gof u X) H m S.length ρ σ)
    (p : Post (gof u X) W S m H σ K ((Ea ρ S).bind fun ta S1 => (Eb ρ S1).bind fun tb S2 => opt (cmp2 o ta tb S2) S2))
    (h : ∀ k S2 m2 H2, Ext (gof u X) S m H S2 m2 H2 → StRel (gof u X) S2 m2 H2 → K k S2 m2 H2 → Qv (.bl k) H2) : tOp (rCm (gof u X) (cmp2 o)) (RdE (gof u X) W Ea) (RdE (gof u X) W Eb) σ H Qv :=
  sub2 st en p fun ta tb S2 m2 H2 x y x2 st2 e1 e2 p2 => by
    obtain ⟨k, e, q⟩ := p2.opt
    exact ⟨S2, m2, ta, tb, k, st2, e1, e2, e, h k S2 m2 H2 x2 st2 (q m2 H2 Ext.refl st2)⟩
include hu ha hb in
theorem pt_cm {o : Cm} : PT X (.Compare a [pyCm o] [b] pos) (RdB (gof u X) W fun ρ S => (Ea ρ S).bind fun ta S1 => (Eb ρ S1).bind fun tb S2 => opt (cmp2 o ta tb S2) S2) := by
  refine PT.imp (pt_cmpR (op_cmp2 (u := u) hu o) ha hb (nom b o)) ?_
  rintro σ H Q ⟨S, m, ρ, st, en, p⟩
  exact cm_sub st en p fun k S2 m2 H2 x2 st2 q => ⟨k, rfl, q⟩
include hu ha hb in
theorem pe_cm {o : Cm} : PE X (.Compare a [pyCm o] [b] pos) (RdE (gof u X) W (mkB fun ρ S => (Ea ρ S).bind fun ta S1 => (Eb ρ S1).bind fun tb S2 => opt (cmp2 o ta tb S2) S2).E) := by
  refine PE.imp (pe_cmpR (op_cmp2 (u := u) hu o) ha hb (nom b o)) ?_
  rintro σ H Q ⟨S, m, ρ, st, en, p⟩
  exact cm_sub st en (Post.bind p) fun k S2 m2 H2 x2 st2 q => (Post.here (a := T.v (.bl k)) st2 q) _ trivial rfl
theorem lastM (o o' : Cm) (b c : Expr) : lastMarks [pyCm o, pyCm o'] [b, c] = false := nom c o'
theorem chn_sub {o o' : Cm} {σ : L2.St} {H : Hp} {S : Store} {m : Nat → Addr} {ρ : Env} {K : Bool → Store → (Nat → Addr) → Hp → Prop} {Qv : VK} (st : StRel (gof u X) S m H) (en : EnvRel (gof u X) H m S.length ρ σ)
    (p : Post (gof u X) W S m H σ K ((Ea ρ S).bind fun ta S1 => (Eb ρ S1).bind fun tb S2 => (opt (cmp2 o ta tb S2) S2).bind fun k S3 => if k then (Ec ρ S3).bind fun tc S4 => opt (cmp2 o' tb tc S4) S4 else .ok false S3))
    (h : ∀ k S2 m2 H2, StRel (gof u X) S2 m2 H2 → K k S2 m2 H2 → Qv (.bl k) H2) : tChain (rCm (gof u X) (cmp2 o)) (rCm (gof u X) (cmp2 o')) (RdE (gof u X) W Ea) (RdE (gof u X) W Eb) (RdE (gof u X) W Ec) σ H Qv :=
  sub2 st en p fun ta tb S2 m2 H2 x y x2 st2 e1 e2 p2 => by
    obtain ⟨k, e, q⟩ := p2.bind.opt
    refine ⟨S2, m2, ta, tb, k, st2, e1, e2, e, k, rfl, ?_⟩
    have q' := q m2 H2 Ext.refl st2
    cases k with
    | false => exact h _ S2 m2 H2 st2 (Post.here (a := false) st2 q')
    | true =>
      refine sub st2 (x2.env en) ((Post.bind q').mono fun tc S4 m4 H4 x4 st4 p4 v fv ev => ?_)
      obtain ⟨k', e', q4⟩ := p4.opt
      exact ⟨S4, m4, tb, tc, k', st4, x4.encT st2 e2, ev, e', h _ S4 m4 H4 st4 (q4 m4 H4 Ext.refl st4)⟩
include hu ha hb hc in
theorem pt_chn {o o' : Cm} : PT X (.Compare a [pyCm o, pyCm o'] [b, c] pos) (RdB (gof u X) W fun ρ S => (Ea ρ S).bind fun ta S1 => (Eb ρ S1).bind fun tb S2 => (opt (cmp2 o ta tb S2) S2).bind fun k S3 =>
      if k then (Ec ρ S3).bind fun tc S4 => opt (cmp2 o' tb tc S4) S4 else .ok false S3) := by
  refine PT.imp (pt_chain (op_cmp2 (u := u) hu o) (op_cmp2 (u := u) hu o') ha hb hc (lastM o o' b c)) ?_
  rintro σ H Q ⟨S, m, ρ, st, en, p⟩
  exact chn_sub st en p fun k S2 m2 H2 st2 q => ⟨k, rfl, q⟩
include hu ha hb hc in
theorem pe_chn {o o' : Cm} : PE X (.Compare a [pyCm o, pyCm o'] [b, c] pos) (RdE (gof u X) W (mkB fun ρ S => (Ea ρ S).bind fun ta S1 => (Eb ρ S1).bind fun tb S2 => (opt (cmp2 o ta tb S2) S2).bind fun k S3 =>
      if k then (Ec ρ S3).bind fun tc S4 => opt (cmp2 o' tb tc S4) S4 else .ok false S3).E) := by
  refine PE.imp (pe_chain (op_cmp2 (u := u) hu o) (op_cmp2 (u := u) hu o') ha hb hc (lastM o o' b c)) ?_
  rintro σ H Q ⟨S, m, ρ, st, en, p⟩
  exact chn_sub st en (Post.bind p) fun k S2 m2 H2 st2 q => (Post.here (a := T.v (.bl k)) st2 q) _ trivial rfl
include ha in
theorem pe_ng : PE X (.UnaryOp .USub a pos) (RdE (gof u X) W fun ρ S => (Ea ρ S).bind fun ta S1 => (match ta with | .v (.int i) => .ok (.v (.int (-i))) S1 | _ => .bad)) := by
  refine PE.imp (pe_un un_neg ha) ?_
  rintro σ H Q ⟨S, m, ρ, st, en, p⟩
  refine sub st en (p.bind.mono fun t S1 m1 H1 x1 st1 p1 v fv ev => ?_)
  split at p1
  · rename_i i
    exact ⟨i, ev, (Post.here st1 p1) _ trivial rfl⟩
  · exact p1.elim
end
end
end Ev
-- EvS5
set_option Elab.async false
set_option linter.all false
set_option maxRecDepth 100000
set_option maxHeartbeats 4000000
/-! EvS5: subscripts, slices, builtins. -/
namespace PyProof.Rows
open PySem PySem.Spec
section
variable {prog : Program} {w : World} {A : Around} {E : Value → Shared → Prop} {s : Shared}
/-- what sorted() gathers of a tuple -/
theorem collect_tup {l : Addr} {vs : List Value} {Q : List Value → Shared → Prop} (hl : s.heap.IsTuple l vs.toArray)
    (h : Q vs { s with heap := (s.heap.push (seqObj "list" #[] 0)).update s.heap.objs.size (Obj.mapSeq (· ++ vs.toArray)) }) (hsz : vs.length ≤ sizeLine) :
    wpAny (model prog w) A (collect (.ref l)) Q E s := by
  obtain ⟨o, ho, hc, n, hd⟩ := id hl
  unfold collect
  refine wpAny_bind (wpAny_runValue (codeAny_builtin entry_proto_collect' ?_))
  show wpAny _ _ (do again (.builtin "list.__iadd__" ⟨[← newList [], .ref l], []⟩)) _ _ s
  refine wpAny_bind (wpAny_newList (wpAny_pure ⟨Code.quiet_builtin _ (by decide +kernel), codeAny_builtin entry_list_iadd' ?_⟩))
  show wpAny _ _ (Builtin.List.listExtendWith (.ref s.heap.objs.size) (.ref l) (.ref s.heap.objs.size)) _ _ { s with heap := s.heap.push (seqObj "list" #[] 0) }
  unfold Builtin.List.listExtendWith
  have ho' : (s.heap.push (seqObj "list" #[] 0)).get? l = some o := Heap.get?_push_of_some _ ho
  refine wpAny_bind (wpAny_typeOf (T := "tuple") ⟨o, ho', hc⟩ ?_)
  have ht : (Value.type "tuple" == Value.type "tuple") = true := by rfl
  rw [if_pos (by rw [ht]; simp)]
  refine wpAny_bind (listItems_at ho' hd ?_)
  refine wpAny_bind (listItems_at (xs := #[]) (n := 0) (Heap.get?_push_size _ rfl) rfl ?_)
  rw [if_neg (by simp)]
  refine wpAny_bind (listUpdate_at (xs := #[]) (n := 0) (Heap.get?_push_size _ rfl) rfl ?_ (Nat.zero_le _) (by show (#[] ++ vs.toArray).size ≤ sizeLine + 1; simp only [Array.size_append, List.size_toArray, List.length_nil]; omega))
  refine wpAny_pure ?_
  show wpAny (model prog w) A (do
      let o ← load s.heap.objs.size
      match o.data with
      | .seq xs _ => pure xs.toList
      | _ => unsupported "internal:collect") Q E { s with heap := (s.heap.push (seqObj "list" #[] 0)).update s.heap.objs.size (Obj.mapSeq (· ++ vs.toArray)) }
  refine wpAny_bind (wpAny_load (get?_update_seq (Heap.get?_push_size _ rfl) _) ?_)
  show wpAny _ _ (pure ((#[] : Array Value) ++ vs.toArray).toList) Q E _
  rw [show ((#[] : Array Value) ++ vs.toArray).toList = vs by simp]
  exact wpAny_pure h
end
end PyProof.Rows
namespace PySem.W
open PySem PySem.Calls PyProof.Rows
section
variable {prog : Program} {w : World} {A : Around} {E : Value → Shared → Prop} {s : Shared} {β : Type} {vs : List Value} {bs : List β} {enc : β → PyData} {R : Value → β → Prop}
theorem sorted_tup_sort {l : Addr} {vs : List Value} {kw : List (Str × Value)} {Q : Value → Shared → Prop} (hl : s.heap.IsTuple l vs.toArray) (hL : vs.length ≤ sizeLine) (ha1 : argsOk "sorted" ⟨[.ref l], kw⟩) (ha2 : ∀ x, argsOk "list.sort" ⟨[.ref x], kw⟩)
    (body : ∀ E' : Value → Shared → Prop, wpAny (model prog w) A.in1.in1 (Builtin.«list.sort» ⟨[.ref (s.heap.objs.size + 1)], kw⟩) (fun f s' => f = .done (.ret .none) ∧ Q (.ref (s.heap.objs.size + 1)) s') E' { s with heap := copyHeap s.heap vs }) :
    wpAny (model prog w) A (call (.builtin "sorted") [.ref l] kw) Q E s := by
  refine call_function_entry_kw kind_sorted plain_sorted entry_sorted ha1 ?_
  unfold Builtin.«sorted»
  refine wpAny_bind (m := checkCount "sorted" 1 1 _) (wpAny_pure ?_)
  refine wpAny_bind (collect_tup hl ?_ hL)
  refine wpAny_bind (wpAny_newList ?_ hL)
  have hsz : ((s.heap.push (seqObj "list" #[] 0)).update s.heap.objs.size (Obj.mapSeq (· ++ vs.toArray))).objs.size = s.heap.objs.size + 1 := by
    rw [Heap.size_update, size_push']
  show wpAny _ _ _ _ _ { s with heap := copyHeap s.heap vs }
  rw [hsz]
  refine wpAny_bind (wpAny_holding (wpAny_call_entry_kw slot_list_sort ⟨_, copyHeap_at s.heap vs, rfl⟩ entry_list_sort ?body (ha2 _)))
  case body =>
    show wpAny (model prog w) A.in1.in1 (Builtin.«list.sort» ⟨[.ref (s.heap.objs.size + 1)], kw⟩) _ _ _
    refine wpAny_mono (body _) (fun f s' hf => ?_) fun _ _ e => e
    obtain ⟨rfl, hq⟩ := hf
    exact ⟨_, rfl, wpAny_pure ⟨_, rfl, hq⟩⟩
theorem sorted_tup_data {l : Addr} {Q : Value → Shared → Prop} (hl : s.heap.IsTuple l vs.toArray) (e : EachIs R vs bs) (er : EachIs (fun v b => ∃ as, Reads s.heap v (enc b) as) vs bs) (hal : AllAlike (bs.map enc)) (hk : Sortable (bs.map enc)) (hL : bs.length ≤ sizeLine)
    (hu : ∀ b, b ∈ bs → A.units + 2 + (enc b).depth < cLine) (h : ∀ out, out.length = bs.length → EachIs R out (bs.mergeSort (dataLe false enc)) → Q (.ref (s.heap.objs.size + 1)) { s with heap := sortedAll s.heap vs (List.toArray out) }) :
    wpAny (model prog w) A (call (.builtin "sorted") [.ref l]) Q E s := by
  have er' : EachIs (fun v b => ∃ as, Reads (sortingHeap (copyHeap s.heap vs) (s.heap.objs.size + 1) vs) v (enc b) as) vs bs := er.mono fun _ _ ⟨as, r⟩ => ⟨as, PyProof.Rows.Reads.keeps (fun _ _ => sorting_copy_old) r⟩
  have hL' : vs.length ≤ sizeLine := by rw [e.length]; exact hL
  exact sorted_tup_sort hl hL' (args_sorted1 _) (fun _ => args_list_sort _) fun _ => list_sort_vals (s := { s with heap := copyHeap s.heap vs }) (copyHeap_at s.heap vs)
    (SortsAt.data (s := { s with heap := sortingHeap (copyHeap s.heap vs) (s.heap.objs.size + 1) vs }) (each_map (R := fun v d => ∃ as, Reads (sortingHeap (copyHeap s.heap vs) (s.heap.objs.size + 1) vs) v d as) enc er') hal hk (bound_map hu)) hL'
    ⟨rfl, h _ (by rw [sortVals_length false rfl]; exact e.length) (sortVals_data false e er' hal)⟩
end
end PySem.W
namespace Ev
open PySem PySem.Spec PyProof.Rows L2
section
variable {X : Cx} {u : Tb} {W : WX}
/-! ### a[i], a[lo:hi] -/
theorem atI_enc {g : Gx} {H : Hp} {m : Nat → Addr} {n : Nat} {xs : List D} {vs : List V} {i : Int} {d : D} (h : EncAll g H m n xs vs) (e : L2.atI xs i = some d) : ∃ v, L2.atI vs i = some v ∧ Enc g H m n d v := by
  unfold L2.atI at e ⊢
  rw [h.length]
  cases e1 : ixN xs.length i with
  | none =>
    rw [e1] at e
    cases e
  | some j =>
    rw [e1] at e
    exact h.get e
theorem ix_getF : IxR X (rOp (gof u X) getF) := by
  intro value slice pins s σ H x y v w Q I rx ry h hs
  obtain ⟨S, m, ta, tb, t, st, ea, eb, e, k⟩ := h
  unfold getF at e
  split at e
  · rename_i j
    split at e
    · rename_i xs q1
      cases e1 : ixAt xs j with
      | none =>
        rw [e1] at e
        cases e
      | some d =>
        rw [e1] at e
        cases e
        obtain ⟨p, vs, h1, h2, h3⟩ := asQ_ok st ea q1
        obtain ⟨z, h4, h5⟩ := atI_enc h3 e1
        have h6 : y = .int j := eb
        have q := k m H z Ext.refl st trivial h5
        rcases h2 with h2 | ⟨h2, _⟩
        · exact ix_list value slice pins s σ H x y v w Q I rx ry ⟨p, vs, j, z, h1, h6, h2, h4, q⟩ hs
        · exact ix_tup value slice pins s σ H x y v w Q I rx ry ⟨p, vs, j, z, h1, h6, h2.sq, h4, q⟩ hs
    · cases e
  · cases e
/-- t[lo:hi] of a tuple -/
def rSlF (K : PySem.W.Frag) : V → Option Int → Option Int → Hp → VK → Prop := fun x lo hi H Q => ∃ a xs, x = .ref a ∧ SqT K H a xs ∧
  (HT.sIx xs.length 0 lo = 0 ∧ HT.sIx xs.length xs.length hi = xs.length → Q (.ref a) H) ∧ (¬ (HT.sIx xs.length 0 lo = 0 ∧ HT.sIx xs.length xs.length hi = xs.length) → ∀ p o, H p = none → Obj.dict o = none → Q (.ref p) (upd H p (.frz o (.tup (cutV xs lo hi)))))
theorem sl_tupF : SlR X (rSlF X.K) := by
  intro pins s σ H x v vl vu lo hi sl Q I rx hs pl pu h
  obtain ⟨a, xs, rfl, hx, q1, q2⟩ := h
  cases rx
  obtain ⟨its, r, ht, hz⟩ := I.tuple hx
  have hlen : its.toArray.size = xs.length := by rw [List.size_toArray]; exact r.length.symm
  refine ⟨"tuple", _, PyProof.Rows.slot_tuple_getitem.lookup, ht.typeIs, ?_⟩
  by_cases hw : HT.sIx xs.length 0 lo = 0 ∧ HT.sIx xs.length xs.length hi = xs.length
  · exact getItem_tuple_whole ht hs pl pu (by rw [hlen]; exact hw) ⟨.ref a, H, I, rfl, q1 hw⟩
  · refine HT.getItem_tuple_cut ht hs pl pu (by rw [hlen]; exact hw) ?_ (by rw [hlen]; exact hz)
    rw [hlen]
    exact ⟨.ref s.heap.objs.size, _, laidT (t' := s.toks) I ((r.drop (HT.sIx xs.length 0 lo)).take (HT.sIx xs.length xs.length hi - HT.sIx xs.length 0 lo)) (Nat.le_trans (cutV_length xs lo hi) hz), rfl, q2 hw _ _ (I.hok.fresh (Nat.le_refl _)) rfl⟩
/-- tuple(x) -/
theorem call_tupleF : CallR X (.type "tuple") (fun xs H Q => ∃ p ys, xs = [.ref p] ∧ ((SqL X.K H p ys ∧ ∀ l o, H l = none → Obj.dict o = none → Q (.ref l) (upd H l (.frz o (.tup ys)))) ∨ (SqT X.K H p ys ∧ Q (.ref p) H))) := by
  intro pins s σ H xs us Q I r h
  obtain ⟨p, ys, rfl, h⟩ := h
  obtain ⟨u, rfl, rx⟩ := vals1 r
  cases rx
  rcases h with ⟨hq, q⟩ | ⟨hq, q⟩
  · obtain ⟨its, r', pl, hz⟩ := I.list hq
    have hlen := r'.length
    refine call_tuple_list pl.isList (fun h' kp => ?_) (by simp only [List.size_toArray] <;> omega)
    have I1 : L2.Inv X pins σ H { s with heap := h' } := I.kept (t' := s.toks) kp
    exact ⟨.ref h'.objs.size, _, laidT (t' := s.toks) I1 r' hz, rfl, q _ _ (I1.hok.fresh (Nat.le_refl _)) rfl⟩
  · obtain ⟨its, r', pl, hz⟩ := I.tuple hq
    exact call_tuple_same pl ⟨.ref p, H, I, rfl, q⟩
/-- what may stand as a plain index -/
def plainI : Expr → Bool
  | .Name .. => true
  | .Constant .. => true
  | .BinOp .. => true
  | .UnaryOp .. => true
  | .Subscript .. => true
  | .Call .. => true
  | _ => false
theorem plainI_ok {b : Expr} (h : plainI b = true) : PlainIx b := by
  cases b <;> first | (intro o i; rfl) | cases h
theorem pe_ixE {a b : Expr} {Ea Eb : Env → Store → R T} {pos : Pos} (hp : plainI b = true) (ha : PE X a (RdE (gof u X) W Ea)) (hb : PE X b (RdE (gof u X) W Eb)) :
    PE X (.Subscript a b pos) (RdE (gof u X) W fun ρ S => (Ea ρ S).bind fun ta S1 => (Eb ρ S1).bind fun tb S2 => opt (getF ta tb S2) S2) := by
  refine PE.imp (pe_ix (ix_getF (u := u)) ha hb (plainI_ok hp)) ?_
  rintro σ H Q ⟨S, m, ρ, st, en, p⟩
  refine sub2 st en p fun ta tb S2 m2 H2 x y x2 st2 e1 e2 p2 => ?_
  obtain ⟨t, e, k⟩ := p2.opt
  exact ⟨S2, m2, ta, tb, t, st2, e1, e2, e, fun m' H' v y st' fr en' => k m' H' y st' v (FreT.back x2 fr) en'⟩
/-- a slice's part -/
def RdO (g : Gx) (W : WX) (P : Env → Store → R (Option Int)) : TO := fun σ H Q => ∃ S m ρ, StRel g S m H ∧ EnvRel g H m S.length ρ σ ∧ Post g W S m H σ (fun l _ _ H' => Q l H') (P ρ S)
theorem PO.imp {e : Option Expr} {t t' : TO} (h : PO X e t) (i : ∀ σ H Q, t' σ H Q → t σ H Q) : PO X e t' := ⟨fun pins s σ H Q I q => h.run pins s σ H Q I (i σ H Q q)⟩
theorem po_no {E : Env → Store → R T} : PO X none (RdO (gof u X) W (evP false E)) := by
  refine PO.imp po_none ?_
  rintro σ H Q ⟨S, m, ρ, st, en, p⟩
  exact Post.here (a := none) st p
theorem po_e {e : Expr} {E : Env → Store → R T} (h : PE X e (RdE (gof u X) W E)) : PO X (some e) (RdO (gof u X) W (evP true E)) := by
  refine PO.imp (po_some h) ?_
  rintro σ H Q ⟨S, m, ρ, st, en, p⟩
  refine sub st en ((Post.bind p).mono fun t S1 m1 H1 x1 st1 p1 v fv ev => ?_)
  split at p1
  · rename_i i
    exact ⟨i, ev, Post.here st1 p1⟩
  · exact p1.elim
def rSlE (g : Gx) : V → Option Int → Option Int → Hp → VK → Prop := fun x lo hi H Q => ∃ S m ta t, StRel g S m H ∧ EncT g H m S.length ta x ∧ slice ta lo hi S = some t ∧ ∀ m' H' v, Ext g S m H S m' H' → StRel g S m' H' → FreT H t v → EncT g H' m' S.length t v → Q v H'
theorem cut_enc {g : Gx} {H : Hp} {m : Nat → Addr} {n : Nat} {xs : List D} {vs : List V} (h : EncAll g H m n xs vs) (lo hi : Option Int) : EncAll g H m n (cutD xs lo hi) (cutV vs lo hi) := by
  unfold cutD cutV
  rw [h.length]
  exact EncAll.take _ (EncAll.drop _ h)
theorem sl_E : SlR X (rSlE (gof u X)) := by
  intro pins s σ H x v vl vu lo hi sl Q I rx hs pl pu h
  obtain ⟨S, m, ta, t, st, ea, e, k⟩ := h
  have base : (asL ta S).map (fun xs => T.l (cutD xs lo hi)) = some t → ∃ T id, typeLookup (.type T) "__getitem__" = pure (some (.builtin id)) ∧ s.TypeIs v T ∧ wpAny (model X.prog X.w) X.A (getItem v (.ref sl)) (EP X pins σ Q) X.xe s := fun e => by
    cases e1 : asL ta S with
    | none =>
      rw [e1] at e
      cases e
    | some xs =>
      rw [e1] at e
      cases e
      obtain ⟨p, vs, h1, h2, h3⟩ := asL_ok st ea e1
      refine sl_list pins s σ H x v vl vu lo hi sl Q I rx hs pl pu ⟨p, vs, h1, h2, fun q hq => ?_⟩
      obtain ⟨x1, st1⟩ := alloc_ok (o := .lst (cutV vs lo hi)) st hq
      refine k m _ _ x1 st1 (fun r e => ?_) ⟨q, _, rfl, upd_same, x1.encAll (cut_enc h3 lo hi), st.apart hq⟩
      cases e
      exact Fr.of hq
  unfold slice at e
  split at e
  · rename_i xs
    cases e
    obtain ⟨p, vs, h1, h2, h3⟩ := ea
    refine sl_tupF pins s σ H x v vl vu lo hi sl Q I rx hs pl pu ⟨p, vs, h1, h2.sq, fun hw => ?_, fun hw q o hq ho => ?_⟩
    · refine k m H _ Ext.refl st trivial ⟨p, vs, rfl, h2, ?_⟩
      have : cutV vs lo hi = vs := by
        unfold cutV
        rw [hw.1, hw.2]
        simp
      rw [← this]
      exact cut_enc h3 lo hi
    · obtain ⟨x1, st1⟩ := alloc_ok (o := .frz o (.tup (cutV vs lo hi))) st hq
      exact k m _ _ x1 st1 trivial ⟨q, _, rfl, PlT.new ho, x1.encAll (cut_enc h3 lo hi)⟩
  · exact base e
theorem pe_slE {a : Expr} {lo hi : Option Expr} {Ea : Env → Store → R T} {Pl Ph : Env → Store → R (Option Int)} {pos p2 : Pos} (ha : PE X a (RdE (gof u X) W Ea)) (hl : PO X lo (RdO (gof u X) W Pl)) (hh : PO X hi (RdO (gof u X) W Ph)) :
    PE X (.Subscript a (.Slice lo hi none p2) pos) (RdE (gof u X) W fun ρ S => (Ea ρ S).bind fun ta S1 => (Pl ρ S1).bind fun l S2 => (Ph ρ S2).bind fun h S3 => opt (slice ta l h S3) S3) := by
  refine PE.imp (pe_slice (sl_E (u := u)) ha hl hh) ?_
  rintro σ H Q ⟨S, m, ρ, st, en, p⟩
  refine sub st en (p.bind.mono fun ta S1 m1 H1 x1 st1 p1 v fv ev => ?_)
  refine ⟨S1, m1, ρ, st1, x1.env en, p1.bind.mono fun l S2 m2 H2 x2 st2 p2 => ?_⟩
  refine ⟨S2, m2, ρ, st2, (x1.trans x2).env en, p2.bind.mono fun h S3 m3 H3 x3 st3 p3 => ?_⟩
  obtain ⟨t, e, k⟩ := p3.opt
  exact ⟨S3, m3, ta, t, st3, (x2.trans x3).encT st1 ev, e, fun m' H' v y st' fr en' => k m' H' y st' v (FreT.back ((x1.trans x2).trans x3) fr) en'⟩

/-! ### builtins -/
def rBi (g : Gx) (b : Bi) : List V → Hp → VK → Prop := fun xs H Q => ∃ S m H0 ts t, StRel g S m H ∧ EncTs g H0 H m S.length ts xs ∧ biF b ts S = some t ∧ ∀ m' H' v, Ext g S m H S m' H' → StRel g S m' H' → FreT H t v → EncT g H' m' S.length t v → Q v H'
theorem encTs1 {g : Gx} {H0 H : Hp} {m : Nat → Addr} {n : Nat} {t : T} {vs : List V} (h : EncTs g H0 H m n [t] vs) : ∃ v, vs = [v] ∧ EncT g H m n t v := by
  cases h with
  | cons f e r =>
    cases r
    exact ⟨_, rfl, e⟩
theorem encTs2 {g : Gx} {H0 H : Hp} {m : Nat → Addr} {n : Nat} {t t' : T} {vs : List V} (h : EncTs g H0 H m n [t, t'] vs) : ∃ v v', vs = [v, v'] ∧ EncT g H m n t v ∧ EncT g H m n t' v' := by
  cases h with
  | cons f e r =>
    cases r with
    | cons f' e' r' =>
      cases r'
      exact ⟨_, _, rfl, e, e'⟩
theorem enc_ints {g : Gx} {H : Hp} {m : Nat → Addr} {n : Nat} : ∀ {xs : List D} {vs : List V} {ns : List Int}, EncAll g H m n xs vs → intL xs = some ns → vs = ns.map V.int
  | [], _, _, h, e => by
    cases e
    exact h
  | d :: xs, vs, ns, h, e => by
    obtain ⟨v, r, e1, h1, h2⟩ := h
    cases d with
    | int i =>
      have e' : (intL xs).map (i :: ·) = some ns := e
      cases e2 : intL xs with
      | none =>
        rw [e2] at e'
        cases e'
      | some ms =>
        rw [e2] at e'
        cases e'
        have h1' : v = .int i := h1
        rw [e1, h1', enc_ints h2 e2]
        rfl
    | _ => cases e
theorem enc_bools {g : Gx} {H : Hp} {m : Nat → Addr} {n : Nat} : ∀ {xs : List D} {vs : List V} {ns : List Bool}, EncAll g H m n xs vs → bools xs = some ns → vs = ns.map V.bl
  | [], _, _, h, e => by
    cases e
    exact h
  | d :: xs, vs, ns, h, e => by
    obtain ⟨v, r, e1, h1, h2⟩ := h
    cases d with
    | bl i =>
      have e' : (bools xs).map (i :: ·) = some ns := e
      cases e2 : bools xs with
      | none =>
        rw [e2] at e'
        cases e'
      | some ms =>
        rw [e2] at e'
        cases e'
        have h1' : v = .bl i := h1
        rw [e1, h1', enc_bools h2 e2]
        rfl
    | _ => cases e
theorem bi_all (hc : X.calm = true) : CallR X (.builtin "all") (rBi (gof u X) .all) := by
  intro pins s σ H xs us Q I r h
  obtain ⟨S, m, H0, ts, t, st, ea, e, k⟩ := h
  unfold biF at e
  split at e <;> try contradiction
  rename_i ta _
  obtain ⟨v, rfl, ev⟩ := encTs1 ea
  cases e1 : asL ta S with
  | none =>
    rw [e1] at e
    cases e
  | some ds =>
    rw [e1] at e
    have e' : (bools ds).map (fun bs => T.v (.bl (bs.all id))) = some t := e
    cases e2 : bools ds with
    | none =>
      rw [e2] at e'
      cases e'
    | some bs =>
      rw [e2] at e'
      cases e'
      obtain ⟨p, vs, rfl, h2, h3⟩ := asL_ok st ev e1
      have h4 := enc_bools h3 e2
      subst h4
      exact cr_all hc pins s σ H _ us Q I r ⟨p, bs, rfl, h2, k m H _ Ext.refl st trivial rfl⟩
theorem bi_abs : CallR X (.builtin "abs") (rBi (gof u X) .abs) := by
  intro pins s σ H xs us Q I r h
  obtain ⟨S, m, H0, ts, t, st, ea, e, k⟩ := h
  unfold biF at e
  split at e <;> try contradiction
  cases e
  obtain ⟨v, rfl, ev⟩ := encTs1 ea
  have ev' : v = .int _ := ev
  subst ev'
  exact call_abs pins s σ H _ us Q I r ⟨_, rfl, k m H _ Ext.refl st trivial rfl⟩
theorem bi_int : CallR X (.type "int") (rBi (gof u X) .int) := by
  intro pins s σ H xs us Q I r h
  obtain ⟨S, m, H0, ts, t, st, ea, e, k⟩ := h
  unfold biF at e
  split at e <;> try contradiction
  cases e
  obtain ⟨v, rfl, ev⟩ := encTs1 ea
  have ev' : v = .int _ := ev
  subst ev'
  exact call_int1 pins s σ H _ us Q I r (.inl ⟨_, rfl, k m H _ Ext.refl st trivial rfl⟩)
theorem bi_max2 (hc : X.calm = true) : CallR X (.builtin "max") (rBi (gof u X) .max2) := by
  intro pins s σ H xs us Q I r h
  obtain ⟨S, m, H0, ts, t, st, ea, e, k⟩ := h
  unfold biF at e
  split at e <;> try contradiction
  cases e
  obtain ⟨v, v', rfl, ev, ev2⟩ := encTs2 ea
  have e1 : v = .int _ := ev
  have e2 : v' = .int _ := ev2
  subst e1 e2
  exact call_max2 hc pins s σ H _ us Q I r ⟨_, _, rfl, k m H _ Ext.refl st trivial rfl⟩
theorem maxI_spec : ∀ (ms : List Int) (m : Int), maxI m ms ∈ m :: ms ∧ ∀ y ∈ m :: ms, y ≤ maxI m ms
  | [], m => ⟨List.mem_cons_self, fun y hy => by rw [List.mem_singleton.mp hy]; exact Int.le_refl _⟩
  | x :: ms, m => by
    show maxI (if x > m then x else m) ms ∈ m :: x :: ms ∧ ∀ y ∈ m :: x :: ms, y ≤ maxI (if x > m then x else m) ms
    obtain ⟨h1, h2⟩ := maxI_spec ms (if x > m then x else m)
    refine ⟨?_, fun y hy => ?_⟩
    · rcases List.mem_cons.mp h1 with z | z
      · rw [z]
        split
        · exact List.mem_cons_of_mem _ List.mem_cons_self
        · exact List.mem_cons_self
      · exact List.mem_cons_of_mem _ (List.mem_cons_of_mem _ z)
    · have q := h2 _ List.mem_cons_self
      rcases List.mem_cons.mp hy with z | hy
      · rw [z]
        refine Int.le_trans ?_ q
        split <;> omega
      · rcases List.mem_cons.mp hy with z | hy
        · rw [z]
          refine Int.le_trans ?_ q
          split <;> omega
        · exact h2 _ (List.mem_cons_of_mem _ hy)
theorem bi_max1 (hc : X.calm = true) : CallR X (.builtin "max") (rBi (gof u X) .max1) := by
  intro pins s σ H xs us Q I r h
  obtain ⟨S, m, H0, ts, t, st, ea, e, k⟩ := h
  unfold biF at e
  split at e <;> try contradiction
  rename_i ta _
  obtain ⟨v, rfl, ev⟩ := encTs1 ea
  cases e1 : asL ta S with
  | none =>
    rw [e1] at e
    cases e
  | some ds =>
    rw [e1] at e
    have e' : ((intL ds).bind fun ns => (match ns with | m :: ms => some (T.v (.int (maxI m ms))) | [] => none)) = some t := e
    cases e2 : intL ds with
    | none =>
      rw [e2] at e'
      cases e'
    | some ns =>
      rw [e2] at e'
      cases ns with
      | nil => cases e'
      | cons n0 ms =>
        cases e'
        obtain ⟨p, vs, rfl, h2, h3⟩ := asL_ok st ev e1
        have h4 := enc_ints h3 e2
        subst h4
        obtain ⟨q1, q2⟩ := maxI_spec ms n0
        refine cr_max hc pins s σ H _ us Q I r ⟨p, n0 :: ms, rfl, h2, by simp, fun mm hm hle => ?_⟩
        have : mm = maxI n0 ms := Int.le_antisymm (q2 _ hm) (hle _ q1)
        rw [this]
        exact k m H _ Ext.refl st trivial rfl
theorem bi_tuple : CallR X (.type "tuple") (rBi (gof u X) .tuple) := by
  intro pins s σ H xs us Q I r h
  obtain ⟨S, m, H0, ts, t, st, ea, e, k⟩ := h
  unfold biF at e
  split at e <;> try contradiction
  rename_i ta _
  obtain ⟨v, rfl, ev⟩ := encTs1 ea
  cases e1 : asQ ta S with
  | none =>
    rw [e1] at e
    cases e
  | some ds =>
    rw [e1] at e
    cases e
    obtain ⟨p, vs, rfl, h2, h3⟩ := asQ_ok st ev e1
    rcases h2 with h2 | ⟨h2, _⟩
    · refine call_tupleF pins s σ H _ us Q I r ⟨p, vs, rfl, .inl ⟨h2, fun q o hq ho => ?_⟩⟩
      obtain ⟨x1, st1⟩ := alloc_ok (o := .frz o (.tup vs)) st hq
      exact k m _ _ x1 st1 trivial ⟨q, _, rfl, PlT.new ho, x1.encAll h3⟩
    · exact call_tupleF pins s σ H _ us Q I r ⟨p, vs, rfl, .inr ⟨h2.sq, k m H _ Ext.refl st trivial ⟨p, vs, rfl, h2, h3⟩⟩⟩
theorem bi_list : CallR X (.type "list") (rBi (gof u X) .list) := by
  intro pins s σ H xs us Q I r h
  obtain ⟨S, m, H0, ts, t, st, ea, e, k⟩ := h
  unfold biF at e
  split at e <;> try contradiction
  rename_i ta _
  obtain ⟨v, rfl, ev⟩ := encTs1 ea
  cases e1 : asQ ta S with
  | none =>
    rw [e1] at e
    cases e
  | some ds =>
    rw [e1] at e
    cases e
    obtain ⟨p, vs, rfl, h2, h3⟩ := asQ_ok st ev e1
    refine call_list_of pins s σ H _ us Q I r ⟨p, vs, rfl, h2.imp id fun h => h.1.sq, fun q hq => ?_⟩
    obtain ⟨x1, st1⟩ := alloc_ok (o := .lst vs) st hq
    refine k m _ _ x1 st1 (fun r e => ?_) ⟨q, _, rfl, upd_same, x1.encAll h3, st.apart hq⟩
    cases e
    exact Fr.of hq
theorem bi_sum (hc : X.calm = true) : CallR X (.builtin "sum") (rBi (gof u X) .sum) := by
  intro pins s σ H xs us Q I r h
  obtain ⟨S, m, H0, ts, t, st, ea, e, k⟩ := h
  unfold biF at e
  split at e <;> try contradiction
  rename_i ta _
  obtain ⟨v, rfl, ev⟩ := encTs1 ea
  cases e1 : asQ ta S with
  | none =>
    rw [e1] at e
    cases e
  | some ds =>
    rw [e1] at e
    have e' : (intL ds).map (fun ns => T.v (.int ns.sum)) = some t := e
    cases e2 : intL ds with
    | none =>
      rw [e2] at e'
      cases e'
    | some ns =>
      rw [e2] at e'
      cases e'
      obtain ⟨p, vs, rfl, h2, h3⟩ := asQ_ok st ev e1
      have h4 := enc_ints h3 e2
      subst h4
      have q := k m H _ Ext.refl st trivial rfl
      rw [Vals.ref1 r]
      rcases h2 with h2 | ⟨h2, _⟩
      · obtain ⟨its, rv, pl, hz⟩ := I.list h2
        exact sum_raw (I.ok.hd hc) pl.isList (intsAre_of rv) fun h' tk t' hk => ⟨.int ns.sum, H, I.kept hk, ⟨t', rfl⟩, q⟩
      · obtain ⟨its, rv, pl, hz⟩ := I.tuple h2.sq
        have hi := intsAre_of rv
        obtain ⟨ys, e3⟩ := hi.allInts.items
        have hn : numsOf (intItems ys).toList = ns := by
          rw [← e3]
          exact hi.numsOf
        rw [nums_intItems] at hn
        rw [e3] at pl
        refine PySem.W.ktm_sumG (I.ok.hd hc) pl fun h' tk t' hk => ?_
        refine ⟨.int ns.sum, H, I.kept hk, ⟨t', ?_⟩, q⟩
        rw [preSum_eq, List.take_of_length_le (by simp), hn]
theorem enc_each {g : Gx} {H : Hp} {m : Nat → Addr} {n : Nat} : ∀ {xs : List D} {vs : List V} {us : List Value}, EncAll g H m n xs vs → Vals vs us → PySem.W.EachIs (fun w d => ∃ v, L2.RelV v w ∧ Enc g H m n d v) us xs
  | [], _, us, h, r => by
    have h' : _ = [] := h
    subst h'
    cases r
    exact .nil
  | d :: xs, _, us, h, r => by
    obtain ⟨v, q, e1, h1, h2⟩ := h
    subst e1
    cases r with
    | cons r1 r2 => exact .cons ⟨v, r1, h1⟩ (enc_each h2 r2)
theorem each_enc {g : Gx} {H : Hp} {m : Nat → Addr} {n : Nat} {xs : List D} {us : List Value} (h : PySem.W.EachIs (fun w d => ∃ v, L2.RelV v w ∧ Enc g H m n d v) us xs) : ∃ vs, EncAll g H m n xs vs ∧ Vals vs us := by
  induction h with
  | nil => exact ⟨[], EncAll.nil, .nil⟩
  | cons h _ ih =>
    obtain ⟨v, r1, h1⟩ := h
    obtain ⟨vs, h2, r2⟩ := ih
    exact ⟨v :: vs, EncAll.cons h1 h2, .cons r1 r2⟩
theorem deps_mem : ∀ {xs : List D} {d : D}, d ∈ xs → d.dep ≤ D.deps xs
  | x :: xs, d, h => by
    show d.dep ≤ max x.dep (D.deps xs)
    rcases List.mem_cons.mp h with e | h
    · rw [e]
      exact Nat.le_max_left _ _
    · exact Nat.le_trans (deps_mem h) (Nat.le_max_right _ _)
theorem sortable_ok {xs : List D} (h : sortable xs = true) : D.pures xs = true ∧ PySem.W.AllAlike (xs.map D.py) ∧ PySem.W.Sortable (xs.map D.py) ∧ D.deps xs ≤ 50 ∧ xs.length ≤ lim := by
  unfold sortable at h
  rw [Bool.and_eq_true, Bool.and_eq_true, Bool.and_eq_true, Bool.and_eq_true, decide_eq_true_eq, decide_eq_true_eq, Bool.or_eq_true] at h
  obtain ⟨⟨⟨⟨h1, h2⟩, h3⟩, h4⟩, h5⟩ := h
  refine ⟨h1, ?_, ?_, h3, h4⟩
  · intro d hd d' hd'
    obtain ⟨b, hb, rfl⟩ := List.mem_map.mp hd
    obtain ⟨b', hb', rfl⟩ := List.mem_map.mp hd'
    exact List.all_eq_true.mp (List.all_eq_true.mp h2 b hb) b' hb'
  · rcases h5 with h5 | h5
    · left
      intro d hd
      obtain ⟨b, hb, rfl⟩ := List.mem_map.mp hd
      have z := List.all_eq_true.mp h5 b hb
      cases b with
      | tup ys =>
        cases ys with
        | nil => cases z
        | cons y ys => exact ⟨y.py, D.pys ys, rfl⟩
      | _ => cases z
    · right
      intro d hd
      obtain ⟨b, hb, rfl⟩ := List.mem_map.mp hd
      have z := List.all_eq_true.mp h5 b hb
      cases b with
      | int i => exact ⟨(fun e => by cases e), fun ys e => by cases e⟩
      | str i => exact ⟨(fun e => by cases e), fun ys e => by cases e⟩
      | bl i => exact ⟨(fun e => by cases e), fun ys e => by cases e⟩
      | _ => cases z
theorem enc_reads {m : Nat → Addr} {n : Nat} {pins : List (Addr × Obj)} {s : Shared} {σ : L2.St} {H : Hp} (I : L2.Inv X pins σ H s) : ∀ {xs : List D} {vs : List V} {us : List Value}, D.pures xs = true → EncAll (gof u X) H m n xs vs → Vals vs us →
    PySem.W.EachIs (fun w d => ∃ as, Reads s.heap w (D.py d) as) us xs
  | [], _, us, _, h, r => by
    have h' : _ = [] := h
    subst h'
    cases r
    exact .nil
  | d :: xs, _, us, p, h, r => by
    obtain ⟨v, q, e1, h1, h2⟩ := h
    subst e1
    have p' : (d.pure && D.pures xs) = true := p
    rw [Bool.and_eq_true] at p'
    cases r with
    | cons r1 r2 => exact .cons (Dp.reads I d.py v _ (Enc.dp d v p'.1 h1) r1) (enc_reads I p'.2 h2 r2)
theorem leD_total : PySem.W.TotalLe leD := PySem.W.sortLe_total _ false _
theorem insD_at {a : D} : ∀ {l1 l2 : List D}, (∀ b ∈ l1, leD a b = false) → (∀ b ∈ l2, leD a b = true) → insD a (l1 ++ l2) = l1 ++ a :: l2
  | [], [], _, _ => rfl
  | [], y :: ys, _, h => by
    show (if leD a y then a :: y :: ys else y :: insD a ys) = _
    rw [if_pos (h y List.mem_cons_self)]
    rfl
  | x :: xs, l2, h1, h2 => by
    show (if leD a x then a :: x :: (xs ++ l2) else x :: insD a (xs ++ l2)) = _
    rw [if_neg (by rw [h1 x List.mem_cons_self]; decide), insD_at (fun b hb => h1 b (List.mem_cons_of_mem _ hb)) h2]
    rfl
theorem sortD_eq : ∀ xs : List D, xs.mergeSort (PySem.W.dataLe false D.py) = sortD xs
  | [] => by simp [sortD]
  | a :: l => by
    have T := leD_total
    obtain ⟨l1, l2, h1, h2, h3⟩ := List.mergeSort_cons (le := leD) T.trans (fun a b => by simpa using T.total a b) a l
    have hp : ((a :: l).mergeSort leD).Pairwise (fun x y => leD x y = true) := List.pairwise_mergeSort T.trans (fun a b => by simpa using T.total a b) _
    have ih := sortD_eq l
    show (a :: l).mergeSort leD = insD a (sortD l)
    rw [← ih, show l.mergeSort (PySem.W.dataLe false D.py) = l1 ++ l2 from h2, h1]
    rw [h1] at hp
    refine (insD_at (fun b hb => by have z := h3 b hb; simpa using z) fun b hb => ?_).symm
    exact (List.pairwise_cons.mp (List.pairwise_append.mp hp).2.1).1 b hb
theorem bi_sorted (hu : X.A.units + 64 < cLine) : CallR X (.builtin "sorted") (rBi (gof u X) .sorted) := by
  intro pins s σ H xs us Q I r h
  obtain ⟨S, m, H0, ts, t, st, ea, e, k⟩ := h
  unfold biF at e
  split at e <;> try contradiction
  rename_i ta _
  obtain ⟨v, rfl, ev⟩ := encTs1 ea
  cases e1 : asQ ta S with
  | none =>
    rw [e1] at e
    cases e
  | some ds =>
    rw [e1] at e
    have e' : (if sortable ds then some (T.l (sortD ds)) else none) = some t := e
    split at e'
    · rename_i hs
      cases e'
      obtain ⟨p, vs, rfl, h2, h3⟩ := asQ_ok st ev e1
      obtain ⟨s1, s2, s3, s4, s5⟩ := sortable_ok hs
      rw [Vals.ref1 r]
      have fin : ∀ (its : List Value), Vals vs its → PySem.W.EachIs (fun w d => ∃ v, L2.RelV v w ∧ Enc (gof u X) H m S.length d v) its ds ∧ PySem.W.EachIs (fun v b => ∃ as, Reads s.heap v (D.py b) as) its ds ∧ (∀ b, b ∈ ds → X.A.units + 2 + (D.py b).depth < cLine) ∧
          ∀ out : List Value, out.length = ds.length → PySem.W.EachIs (fun w d => ∃ v, L2.RelV v w ∧ Enc (gof u X) H m S.length d v) out (ds.mergeSort (PySem.W.dataLe false D.py)) →
            EP X pins σ Q (.ref (s.heap.objs.size + 1)) { s with heap := sortedAll s.heap its (List.toArray out) } := fun its rv => by
        have ee := enc_each h3 rv
        refine ⟨ee, ?_, fun b hb => ?_, fun out ho eo => ?_⟩
        · exact enc_reads I s1 h3 rv
        · rw [py_dep]
          have z := deps_mem hb
          omega
        · rw [sortD_eq] at eo
          obtain ⟨ws, w1, w2⟩ := each_enc eo
          obtain ⟨c, hc⟩ := sortedAll_at s.heap its out.toArray
          have hl : ws.length ≤ sizeLine := by
            rw [w1.length, ← sortD_eq, List.length_mergeSort]
            exact Nat.le_trans s5 lim_le
          have I1 : L2.Inv X pins σ (upd H (s.heap.objs.size + 1) (.lst ws)) { s with heap := sortedAll s.heap its (List.toArray out) } :=
            I.laid (t' := s.toks) (fun b o q => sortedAll_old q) (Nat.le_succ _) ⟨hl, out, c, w2, hc⟩
          have hp : H (s.heap.objs.size + 1) = none := I.hok.fresh (Nat.le_succ _)
          obtain ⟨x1, st1⟩ := alloc_ok (o := .lst ws) st hp
          refine ⟨.ref (s.heap.objs.size + 1), _, I1, rfl, k m _ _ x1 st1 (fun r e => ?_) ⟨_, ws, rfl, upd_same, x1.encAll w1, st.apart hp⟩⟩
          cases e
          exact Fr.of hp
      rcases h2 with h2 | ⟨h2, _⟩
      · obtain ⟨its, rv, pl, hz⟩ := I.list h2
        obtain ⟨f1, f2, f3, f4⟩ := fin its rv
        exact PySem.W.sorted_data pl.isList f1 f2 s2 s3 (Nat.le_trans s5 lim_le) f3 f4
      · obtain ⟨its, rv, pl, hz⟩ := I.tuple h2.sq
        obtain ⟨f1, f2, f3, f4⟩ := fin its rv
        exact PySem.W.sorted_tup_data pl f1 f2 s2 s3 (Nat.le_trans s5 lim_le) f3 f4
    · cases e'
end
end Ev
-- EvS6
set_option Elab.async false
set_option linter.all false
set_option maxRecDepth 100000
set_option maxHeartbeats 4000000
/-! EvS6: a cell is written; dicts. -/
namespace Ev
open PySem PySem.Spec PyProof.Rows L2

/-! ### a cell is written -/
def HO.wr : HO → Bool
  | .lst _ => true
  | .ext _ => true
  | .dK _ => true
  | _ => false
theorem PlT.upd {K : PySem.W.Frag} {H : Hp} {p : Addr} {o u : HO} (hp : H p = some u) (hu : HO.wr u = true) {a : Addr} {vs : List V} (h : PlT K H a vs) : PlT K (upd H p o) a vs := by
  rcases h with ⟨ob, h, d⟩ | h
  · refine .inl ⟨ob, ?_, d⟩
    rw [upd_ne ?_]
    · exact h
    · rintro rfl
      rw [hp] at h
      cases h
      cases hu
  · exact .inr h
theorem write_ok {g : Gx} {S : Store} {m : Nat → Addr} {H : Hp} {k : Nat} {c c' : Cell} {o u : HO} (st : StRel g S m H) (h0 : 0 < k) (hk : S[k]? = some c) (hl : lockAt S k = false) (hp : H (m k) = some u) (hu : HO.wr u = true) (hc : ∀ a q, u ≠ LamX.CodeO a q)
    (hwo : HO.wr o = true) (hr : c'.isRo = false) (hl' : ∀ S', S'[k]? = some c' → lockAt S' k = false) (new : CellRel g (upd H (m k) o) m S.length (m k) c') :
    Ext g S m H (S.set k c') m (upd H (m k) o) ∧ StRel g (S.set k c') m (upd H (m k) o) := by
  have hkl : k < S.length := (List.getElem?_eq_some_iff.mp hk).1
  have ll : (S.set k c').length = S.length := List.length_set
  have gk : (S.set k c')[k]? = some c' := by
    rw [List.getElem?_set_self hkl]
  have gj : ∀ j, j ≠ k → (S.set k c')[j]? = S[j]? := fun j hj => List.getElem?_set_ne (Ne.symm hj)
  have nd : ∀ {b : Addr} {w : HO}, H b = some w → HO.wr w = false → b ≠ m k := fun {b w} e hw z => by
    rw [z, hp] at e
    cases e
    rw [hu] at hw
    cases hw
  have keepB : ∀ b w, b ≠ m k → H b = some w → upd H (m k) o b = some w := fun b w hb e => by rw [upd_ne hb]; exact e
  refine ⟨⟨Nat.le_of_eq ll.symm, fun _ _ => rfl, fun j hj => ?_, fun b w e nt hlk => keepB b w (fun z => ?_) e, fun b xs e => keepB b _ (nd e rfl) e, fun b w v e => keepB b _ (nd e rfl) e, fun b e => ?_, fun j h1 h2 => ?_⟩, ⟨fun i j i0 j0 hi hj e => ?_, ?_, fun j xs e => ?_, fun j d e => ?_, ?_⟩⟩
  · by_cases hj' : j = k
    · rw [hj', hl, hl' _ gk]
    · unfold lockAt
      rw [gj j hj']
  · have q := hlk k hkl z.symm
    rw [hl] at q
    cases q
  · intro w ew
    by_cases hb : b = m k
    · have z := e o (by rw [hb, upd_same])
      obtain ⟨ps, z⟩ := z
      rw [z] at hwo
      cases hwo
    · exact e w (keepB b w hb ew)
  · rw [ll] at h2
    exact absurd (Nat.lt_of_le_of_lt h1 h2) (Nat.lt_irrefl _)
  · rw [ll] at hi hj
    exact st.inj i j i0 j0 hi hj e
  · obtain ⟨xs, e⟩ := st.zero
    exact ⟨xs, by rw [gj 0 (Nat.ne_of_lt h0)]; exact e⟩
  · by_cases hj : j = k
    · rw [hj, gk] at e
      cases e
      cases hr
    · rw [gj j hj] at e
      exact st.own j xs e
  · rw [ll]
    by_cases hj : j = k
    · rw [hj, gk] at e
      cases e
      rw [hj]
      exact new
    · rw [gj j hj] at e
      have cr := st.cell j d e
      have hjl : j < S.length := (List.getElem?_eq_some_iff.mp e).1
      have tk : TK g H (upd H (m k) o) := fun a vs h => PlT.upd hp hu h
      by_cases j0 : 0 < j
      · exact CellRel.mono tk (Nat.le_refl _) (fun _ _ => rfl) (fun w ew _ => keepB _ w (fun z => hj (st.inj j k j0 h0 hjl hkl z)) ew) cr
      · have ej : j = 0 := by omega
        obtain ⟨zs, hz⟩ := st.zero
        rw [ej, hz] at e
        cases e
        rw [ej] at cr ⊢
        obtain ⟨vs, q1, q2⟩ := cr
        refine ⟨vs, ?_, EncAll.mono tk (Nat.le_refl _) (fun _ _ => rfl) _ _ q2⟩
        rcases q1 with ⟨w, q⟩ | q
        · exact .inl ⟨w, keepB _ _ (nd q rfl) q⟩
        · exact .inr q
  · intro p hpT
    obtain ⟨ps, h1, h2, h3⟩ := st.tabs p hpT
    refine ⟨ps, keepB _ _ (nd h1 rfl) h1, h2, fun pos cv hcv => ?_⟩
    obtain ⟨c1, e1, e2⟩ := h3 pos cv hcv
    refine ⟨c1, e1, keepB _ _ (fun z => ?_) e2⟩
    rw [z, hp] at e2
    exact hc _ _ (Option.some.inj e2)
/-- a thing beside the store is written -/
theorem free_write {g : Gx} {S0 S : Store} {m0 m : Nat → Addr} {H0 H : Hp} {a : Addr} {o u : HO} (x : Ext g S0 m0 H0 S m H) (st : StRel g S m H) (h0 : H0 a = none) (ha : H a = some u) (hu : HO.wr u = true) (hc : ∀ b q, u ≠ LamX.CodeO b q)
    (ap : ∀ j, 0 < j → j < S.length → m j ≠ a) : Ext g S0 m0 H0 S m (upd H a o) ∧ StRel g S m (upd H a o) := by
  have keepB : ∀ b w, b ≠ a → H b = some w → upd H a o b = some w := fun b w hb e => by rw [upd_ne hb]; exact e
  have nd : ∀ {b : Addr} {w : HO}, H b = some w → HO.wr w = false → b ≠ a := fun {b w} e hw z => by
    rw [z, ha] at e
    cases e
    rw [hu] at hw
    cases hw
  have nz : ∀ {b : Addr} {w : HO}, H0 b = some w → b ≠ a := fun {b w} e z => by
    rw [z, h0] at e
    cases e
  have tk : TK g H (upd H a o) := fun b vs h => PlT.upd ha hu h
  refine ⟨⟨x.le, x.ag, x.lk, fun b w e nt hl => keepB b w (nz e) (x.keep b w e nt hl), fun b xs e => keepB b _ (nz e) (x.tup b xs e), fun b w v e => keepB b _ (nz e) (x.frz b w v e), fun b e => ?_, x.new⟩, ⟨st.inj, st.zero, st.own, fun j d e => ?_, ?_⟩⟩
  · by_cases hb : b = a
    · rw [hb]
      exact Fr.of h0
    · refine x.dom b fun w ew => e w (keepB b w hb ew)
  · have cr := st.cell j d e
    have hjl : j < S.length := (List.getElem?_eq_some_iff.mp e).1
    by_cases j0 : 0 < j
    · exact CellRel.mono tk (Nat.le_refl _) (fun _ _ => rfl) (fun w ew _ => keepB _ w (ap j j0 hjl) ew) cr
    · have ej : j = 0 := by omega
      obtain ⟨zs, hz⟩ := st.zero
      rw [ej, hz] at e
      cases e
      rw [ej] at cr ⊢
      obtain ⟨vs, q1, q2⟩ := cr
      refine ⟨vs, ?_, EncAll.mono tk (Nat.le_refl _) (fun _ _ => rfl) _ _ q2⟩
      rcases q1 with ⟨w, q⟩ | q
      · exact .inl ⟨w, keepB _ _ (nd q rfl) q⟩
      · exact .inr q
  · intro p hpT
    obtain ⟨ps, h1, h2, h3⟩ := st.tabs p hpT
    refine ⟨ps, keepB _ _ (nd h1 rfl) h1, h2, fun pos cv hcv => ?_⟩
    obtain ⟨c1, e1, e2⟩ := h3 pos cv hcv
    refine ⟨c1, e1, keepB _ _ (fun z => ?_) e2⟩
    rw [z, ha] at e2
    exact hc _ _ (Option.some.inj e2)
/-- a thing that is laid beside the store stays beside it -/
theorem apart_up {g : Gx} {S S' : Store} {m m' : Nat → Addr} {H H' : Hp} {a : Addr} (x : Ext g S m H S' m' H') (ha : ∃ o, H a = some o ∧ ∀ ps, o ≠ .tbl ps) (ap : ∀ j, 0 < j → j < S.length → m j ≠ a) : ∀ j, 0 < j → j < S'.length → m' j ≠ a := fun j j0 hj z => by
  by_cases hs : j < S.length
  · exact ap j j0 hs ((x.ag j hs).symm.trans z)
  · have q := x.new j (Nat.le_of_not_lt hs) hj
    rw [z] at q
    obtain ⟨o, e, nt⟩ := ha
    exact q.no e nt
/-- what lies beside the store is kept -/
theorem keep_free {g : Gx} {S S' : Store} {m m' : Nat → Addr} {H H' : Hp} {a : Addr} {o : HO} (x : Ext g S m H S' m' H') (st : StRel g S m H) (ha : H a = some o) (nt : ∀ ps, o ≠ .tbl ps) (ap : ∀ j, 0 < j → j < S.length → m j ≠ a) : H' a = some o :=
  x.keep a o ha nt fun j hj z => by
    by_cases j0 : 0 < j
    · exact absurd z (ap j j0 hj)
    · have : j = 0 := by omega
      obtain ⟨zs, hz⟩ := st.zero
      rw [this]
      unfold lockAt
      rw [hz]
theorem raw_code {X : Cx} {pins : List (Addr × Obj)} {σ : L2.St} {H : Hp} {s : Shared} {a : Addr} {o : Obj} {es : Array DictEntry} {ep : Nat} (I : L2.Inv X pins σ H s) (h : H a = some (RawO a o)) (hd : o.data = .dict es ep) (c : Addr) (q : Str) : RawO a o ≠ LamX.CodeO c q := fun e => by
  have h1 : ObjOk X.prog X.w H s.heap a (RawO a o) := I.hok a _ h
  have h2 : s.heap.get? a = some o := h1.1
  have e' : (fun h : Heap => h.get? a = some o) = (fun h => ∃ (oc : Obj) (vs : Array Value) (t : Tok), h.get? c = some oc ∧ oc.data = .fields vs ∧ vs[1]? = some (.str q t)) := HO.ext.inj e
  by_cases hac : c = a
  · have h3 : ∃ (oc : Obj) (vs : Array Value) (t : Tok), s.heap.get? c = some oc ∧ oc.data = .fields vs ∧ vs[1]? = some (.str q t) := cast (congrFun e' s.heap) h2
    obtain ⟨oc, vs, t, g1, g2, _⟩ := h3
    rw [hac, h2] at g1
    cases g1
    rw [hd] at g2
    cases g2
  · have h4 : (PySem.W.hideAll s.heap [c]).get? a = some o := PySem.W.hideAll_get _ h2 (by simp; exact fun z => hac z.symm)
    have h3 : ∃ (oc : Obj) (vs : Array Value) (t : Tok), (PySem.W.hideAll s.heap [c]).get? c = some oc ∧ oc.data = .fields vs ∧ vs[1]? = some (.str q t) := cast (congrFun e' (PySem.W.hideAll s.heap [c])) h4
    obtain ⟨oc, vs, t, g1, g2, _⟩ := h3
    have z : (PySem.W.hideAll s.heap [c]).get? c = none := PySem.W.hideAll_none [c] (List.mem_singleton.mpr rfl)
    rw [z] at g1
    cases g1

/-! ### a dict, opened and closed -/
section
variable {X : Cx} {u : Tb} {W : WX} {pins : List (Addr × Obj)} {σ : L2.St} {H : Hp} {s : Shared} {m : Nat → Addr} {n : Nat}
mutual
theorem nested_ok (I : L2.Inv X pins σ H s) : ∀ (d : D) (v : V) (w : Value), d.pure = true → Enc (gof u X) H m n d v → L2.RelV v w → NestedIs s.heap d.nk w
  | .non, _, _, _, h, r => by
    have h' : _ = V.non := h
    subst h'
    have r' : _ = Value.none := r
    rw [r']
    exact .none
  | .bl b, _, _, _, h, r => by
    have h' : _ = V.bl b := h
    subst h'
    have r' : _ = Value.bool b := r
    rw [r']
    exact .bool rfl
  | .int b, _, _, _, h, r => by
    have h' : _ = V.int b := h
    subst h'
    obtain ⟨t, r'⟩ := r
    rw [r']
    exact .int b t
  | .str b, _, _, _, h, r => by
    have h' : _ = V.str b := h
    subst h'
    obtain ⟨t, r'⟩ := r
    rw [r']
    exact .text b t
  | .tup xs, _, _, p, h, r => by
    obtain ⟨a, vs, e, h1, h2⟩ := h
    subst e
    have r' : _ = Value.ref a := r
    rw [r']
    obtain ⟨its, rv, ⟨o, ho, hc, k, hd⟩, _⟩ := I.tuple h1.sq
    exact .tup ho hc hd (nested_all I xs vs its p h2 rv)
  | .ref _, _, _, p, _, _ => by cases p
  | .fn _, _, _, p, _, _ => by cases p
theorem nested_all (I : L2.Inv X pins σ H s) : ∀ (ds : List D) (vs : List V) (ws : List Value), D.pures ds = true → EncAll (gof u X) H m n ds vs → Vals vs ws → NestedAll s.heap (D.nks ds) ws
  | [], _, _, _, h, r => by
    have h' : _ = [] := h
    subst h'
    cases r
    exact .nil
  | d :: ds, _, _, p, h, r => by
    obtain ⟨v, q, e, h1, h2⟩ := h
    subst e
    have p' : (d.pure && D.pures ds) = true := p
    rw [Bool.and_eq_true] at p'
    cases r with
    | cons r1 r2 => exact .cons (nested_ok I d v _ p'.1 h1 r1) (nested_all I ds q _ p'.2 h2 r2)
end
mutual
theorem nk_depth : ∀ d : D, d.nk.depth = d.dep
  | .non => by simp [D.nk, D.dep, NestedKey.depth]
  | .bl _ => by simp [D.nk, D.dep, NestedKey.depth]
  | .int _ => by simp [D.nk, D.dep, NestedKey.depth]
  | .str _ => by simp [D.nk, D.dep, NestedKey.depth]
  | .tup xs => by
    show NestedKey.depth (.tup (D.nks xs)) = D.deps xs + 1
    rw [NestedKey.depth, nks_depth xs]
  | .ref _ => by simp [D.nk, D.dep, NestedKey.depth]
  | .fn _ => by simp [D.nk, D.dep, NestedKey.depth]
theorem nks_depth : ∀ ds : List D, NestedKey.depthAll (D.nks ds) = D.deps ds
  | [] => by simp [D.nks, D.deps, NestedKey.depthAll]
  | d :: ds => by
    show NestedKey.depthAll (d.nk :: D.nks ds) = max d.dep (D.deps ds)
    rw [NestedKey.depthAll, nk_depth d, nks_depth ds]
end
theorem key_is (I : L2.Inv X pins σ H s) {d : D} {b : Addr} (hk : d.isKey = true) (h : Enc (gof u X) H m n d (.ref b)) : (nestedKind X.prog X.w).is s.heap d.nk b := by
  cases d with
  | tup xs =>
    have hk' : (D.pures xs && decide (D.deps xs ≤ 7)) = true := hk
    rw [Bool.and_eq_true, decide_eq_true_eq] at hk'
    refine ⟨nested_ok I (.tup xs) _ _ hk'.1 h rfl, ?_⟩
    rw [nk_depth]
    exact Nat.succ_le_succ hk'.2
  | _ => cases hk
theorem key_ref {g : Gx} {d : D} {v : V} (hk : d.isKey = true) (h : Enc g H m n d v) : ∃ b, v = .ref b := by
  cases d with
  | tup xs =>
    obtain ⟨a, vs, e, _⟩ := h
    exact ⟨a, e⟩
  | _ => cases hk
/-- an entry, opened -/
def XOk (g : Gx) (H : Hp) (m : Nat → Addr) (n : Nat) (x : NestedKey × Addr × Value) (p : D × D) : Prop :=
  x.1 = p.1.nk ∧ p.1.isKey = true ∧ Enc g H m n p.1 (.ref x.2.1) ∧ ∃ v, L2.RelV v x.2.2 ∧ Enc g H m n p.2 v
theorem XOk.ex {g : Gx} {H' : Hp} {m' : Nat → Addr} {n' : Nat} (t : TK g H H') (hn : n ≤ n') (hm : ∀ k, k < n → m' k = m k) {x : NestedKey × Addr × Value} {p : D × D} (h : XOk g H m n x p) : XOk g H' m' n' x p := by
  obtain ⟨h1, h2, h3, v, h4, h5⟩ := h
  exact ⟨h1, h2, Enc.mono t hn hm _ _ h3, v, h4, Enc.mono t hn hm _ _ h5⟩
theorem ents_open {g : Gx} : ∀ {es : List DictEntry} {kvs : List (D × D)}, Paired (EntOk g H m n) es kvs → ∃ xs : List (NestedKey × Addr × Value), es = xs.map (fun x => ⟨x.1.hash g.w, .ref x.2.1, x.2.2⟩) ∧ Paired (XOk g H m n) xs kvs
  | _, _, .nil => ⟨[], rfl, .nil⟩
  | _, _, .cons (a := e) (b := p) h t => by
    obtain ⟨b, w, v, h1, h2, h3, h4, h5⟩ := h
    obtain ⟨xs, e1, e2⟩ := ents_open t
    exact ⟨(p.1.nk, b, w) :: xs, by rw [h1, e1]; rfl, .cons ⟨rfl, h2, h3, v, h4, h5⟩ e2⟩
theorem ents_close {g : Gx} : ∀ {xs : List (NestedKey × Addr × Value)} {kvs : List (D × D)}, Paired (XOk g H m n) xs kvs → Paired (EntOk g H m n) (xs.map (fun x => (⟨x.1.hash g.w, .ref x.2.1, x.2.2⟩ : DictEntry))) kvs
  | _, _, .nil => .nil
  | _, _, .cons (a := x) (b := p) h t => by
    obtain ⟨h1, h2, h3, v, h4, h5⟩ := h
    exact .cons ⟨x.2.1, x.2.2, v, by show (⟨x.1.hash g.w, _, _⟩ : DictEntry) = _; rw [h1], h2, h3, h4, h5⟩ (ents_close t)
theorem xs_keys {g : Gx} {xs : List (NestedKey × Addr × Value)} {kvs : List (D × D)} (h : Paired (XOk g H m n) xs kvs) : xs.map (·.1) = kvs.map (·.1.nk) := by
  induction h with
  | nil => rfl
  | cons r _ ih => rw [List.map_cons, List.map_cons, ih, r.1]
theorem xs_is (I : L2.Inv X pins σ H s) {xs : List (NestedKey × Addr × Value)} {kvs : List (D × D)} (h : Paired (XOk (gof u X) H m n) xs kvs) : ∀ x ∈ xs, (nestedKind X.prog X.w).is s.heap x.1 x.2.1 := by
  induction h with
  | nil => intro x hx; cases hx
  | cons r _ ih =>
    intro x hx
    rcases List.mem_cons.mp hx with e | hx
    · rw [e, r.1]
      exact key_is I r.2.1 r.2.2.1
    · exact ih x hx
theorem dt_open (I : L2.Inv X pins σ H s) {a : Addr} {kvs : List (D × D)} (h : DTrel (gof u X) H m n a kvs) : ∃ (o : Obj) (es : Array DictEntry) (ep : Nat) (xs : List (NestedKey × Addr × Value)), H a = some (RawO a o) ∧ s.heap.get? a = some o ∧ o.ExactDict ∧ o.data = .dict es ep ∧ (a == sysModules) = false ∧
    s.heap.DictOfH (nestedKind X.prog X.w) a xs ∧ Paired (XOk (gof u X) H m n) xs kvs ∧ xs.length ≤ sizeLine ∧ (kvs.map (·.1.nk)).Nodup := by
  obtain ⟨o, es, ep, h1, h2, h3, h4, h5, h6, h7⟩ := h
  obtain ⟨xs, e1, e2⟩ := ents_open h6
  have hok : ObjOk X.prog X.w H s.heap a (RawO a o) := I.hok a _ h1
  have hg : s.heap.get? a = some o := hok.1
  refine ⟨o, es, ep, xs, h1, hg, h2, h3, h4, ⟨o, es, ep, hg, h2, h3, e1, xs_is I e2, by rw [xs_keys e2]; exact h7⟩, e2, ?_, h7⟩
  have : es.toList.length = xs.length := by rw [e1, List.length_map]
  rw [← this, Array.length_toList]
  exact h5
theorem dt_close {h' : Heap} {a : Addr} {xs : List (NestedKey × Addr × Value)} {kvs : List (D × D)} (hd : h'.DictOfH (nestedKind X.prog X.w) a xs) (ha : (a == sysModules) = false) (hx : xs.length ≤ sizeLine) :
    ∃ o : Obj, h'.get? a = some o ∧ ∀ H' : Hp, H' a = some (RawO a o) → Paired (XOk (gof u X) H' m n) xs kvs → DTrel (gof u X) H' m n a kvs := by
  obtain ⟨o, es, ep, h1, h2, h3, h4, _, h6⟩ := hd
  refine ⟨o, h1, fun H' hH' hp => ⟨o, es, ep, hH', h2, h3, ha, ?_, ?_, ?_⟩⟩
  · rw [← Array.length_toList, h4, List.length_map]
    exact hx
  · rw [h4]
    exact ents_close hp
  · rw [← xs_keys hp]
    exact h6
theorem keq_iff {a b : D} : keq a b = decide (a.nk = b.nk) := (NestedKey.decide_eq _ _).symm
theorem at_pair {g : Gx} {xs : List (NestedKey × Addr × Value)} {kvs : List (D × D)} (h : Paired (XOk g H m n) xs kvs) (d : D) :
    (atKey xs d.nk = none ∧ getD kvs d = none) ∨ ∃ b w v y, atKey xs d.nk = some (b, w) ∧ getD kvs d = some y ∧ L2.RelV v w ∧ Enc g H m n y v := by
  induction h with
  | nil => exact .inl ⟨rfl, rfl⟩
  | @cons x p xs ps r _ ih =>
    by_cases e : p.1.nk = d.nk
    · right
      obtain ⟨h1, h2, h3, v, h4, h5⟩ := r
      refine ⟨x.2.1, x.2.2, v, p.2, ?_, ?_, h4, h5⟩
      · unfold atKey
        rw [List.find?_cons, h1, decide_eq_true e]
        rfl
      · unfold getD
        rw [List.find?_cons, keq_iff, decide_eq_true e]
        rfl
    · have e1 : atKey (x :: xs) d.nk = atKey xs d.nk := by
        unfold atKey
        rw [List.find?_cons, r.1, decide_eq_false e]
      have e2 : getD (p :: ps) d = getD ps d := by
        unfold getD
        rw [List.find?_cons, keq_iff, decide_eq_false e]
      rw [e1, e2]
      exact ih
theorem getD_any {kvs : List (D × D)} {d : D} : (getD kvs d).isSome = kvs.any fun p => keq p.1 d := by
  induction kvs with
  | nil => rfl
  | cons p ps ih =>
    by_cases e : keq p.1 d = true
    · unfold getD
      rw [List.find?_cons, e, List.any_cons, e]
      rfl
    · have e' : keq p.1 d = false := by simpa using e
      unfold getD at ih ⊢
      rw [List.find?_cons, e', List.any_cons, e', Bool.false_or]
      exact ih
theorem put_map {g : Gx} {xs : List (NestedKey × Addr × Value)} {kvs : List (D × D)} (h : Paired (XOk g H m n) xs kvs) {d y : D} {v : V} {w : Value} (r : L2.RelV v w) (e : Enc g H m n y v) :
    Paired (XOk g H m n) (xs.map (putAt d.nk w)) (kvs.map fun p => if keq p.1 d then (p.1, y) else p) := by
  induction h with
  | nil => exact .nil
  | @cons x p xs ps q _ ih =>
    rw [List.map_cons, List.map_cons]
    refine .cons ?_ ih
    obtain ⟨h1, h2, h3, h4⟩ := q
    unfold putAt
    rw [keq_iff, h1]
    by_cases e1 : p.1.nk = d.nk
    · rw [if_pos e1, if_pos (decide_eq_true e1)]
      exact ⟨rfl, h2, h3, v, r, e⟩
    · rw [if_neg e1, if_neg (by rw [decide_eq_false e1]; exact Bool.false_ne_true)]
      exact ⟨h1, h2, h3, h4⟩
theorem paired_app {α β : Type} {F : α → β → Prop} : ∀ {l₁ : List α} {l₂ : List β} {a : α} {b : β}, Paired F l₁ l₂ → F a b → Paired F (l₁ ++ [a]) (l₂ ++ [b])
  | _, _, _, _, .nil, h => .cons h .nil
  | _, _, _, _, .cons r t, h => .cons r (paired_app t h)
theorem put_pair {g : Gx} {xs : List (NestedKey × Addr × Value)} {kvs : List (D × D)} (h : Paired (XOk g H m n) xs kvs) {d y : D} {b : Addr} {v : V} {w : Value} (hk : d.isKey = true) (ed : Enc g H m n d (.ref b)) (r : L2.RelV v w) (e : Enc g H m n y v) :
    Paired (XOk g H m n) (storedH xs d.nk b w) (putD kvs d y) := by
  have hs : (atKey xs d.nk).isSome = (getD kvs d).isSome := by
    rcases at_pair h d with ⟨h1, h2⟩ | ⟨_, _, _, _, h1, h2, _⟩ <;> rw [h1, h2] <;> rfl
  unfold storedH putD
  rw [← getD_any, hs]
  cases (getD kvs d).isSome with
  | true => exact put_map h r e
  | false => exact paired_app h ⟨rfl, hk, ed, v, r, e⟩
theorem storedH_len {xs : List (NestedKey × Addr × Value)} {k : NestedKey} {b : Addr} {w : Value} : (storedH xs k b w).length ≤ xs.length + 1 := by
  unfold storedH
  split
  · rw [List.length_map]
    exact Nat.le_succ _
  · rw [List.length_append]
    exact Nat.le_refl _

/-! ### the dict's rules -/
/-- len -/
theorem bi_len : CallR X (.builtin "len") (rBi (gof u X) .len) := by
  intro pins s σ H xs us Q I r h
  obtain ⟨S, m, H0, ts, t, st, ea, e, k⟩ := h
  unfold biF at e
  split at e <;> try contradiction
  rename_i ta _
  obtain ⟨v, rfl, ev⟩ := encTs1 ea
  cases e1 : asQ ta S with
  | some ds =>
    rw [e1] at e
    cases e
    obtain ⟨p, vs, rfl, h2, h3⟩ := asQ_ok st ev e1
    have q := k m H _ Ext.refl st trivial rfl
    rw [← h3.length] at q
    exact call_len_seq pins s σ H _ us Q I r ⟨p, vs, rfl, h2.imp id fun h => h.1.sq, q⟩
  | none =>
    rw [e1] at e
    have e' : (asT ta S).map (fun kvs => T.v (.int kvs.length)) = some t := e
    cases e2 : asT ta S with
    | none =>
      rw [e2] at e'
      cases e'
    | some kvs =>
      rw [e2] at e'
      cases e'
      obtain ⟨p, rfl, h2⟩ := asT_ok st ev e2
      obtain ⟨o, es, ep, ys, q1, q2, q3, q4, q5, q6, q7, q8, q9⟩ := dt_open I h2
      rw [Vals.ref1 r]
      have hl : ys.length = kvs.length := Paired.length q7
      refine call_len_dictH q5 q6 (by rw [sizeLine_eq] at q8; omega) ?_
      rw [hl]
      exact ⟨.int kvs.length, H, I.tok _, ⟨_, rfl⟩, k m H _ Ext.refl st trivial rfl⟩
/-- d.get(k, x) -/
def rGet2 (g : Gx) : V → List V → Hp → VK → Prop := fun x xs H Q => ∃ S m H0 t ts d, StRel g S m H ∧ EncT g H m S.length t x ∧ EncTs g H0 H m S.length ts xs ∧ meF .get2 t ts S = .ok (.v d) S ∧ ∀ v, Enc g H m S.length d v → Q v H
theorem mt_get2 (hu : X.A.units + 64 < cLine) : MtR X "dict.get" (rGet2 (gof u X)) := by
  intro pins s σ H x xs v us Q I rx rs h
  obtain ⟨S, m, H0, t, ts, d, st, ea, es', e, k⟩ := h
  unfold meF at e
  split at e <;> try contradiction
  · rename_i kd x0 _
    split at e
    · rename_i kvs e2
      split at e
      · rename_i hk
        obtain ⟨v1, v2, rfl, ev1, ev2⟩ := encTs2 es'
        obtain ⟨p, rfl, h2⟩ := asT_ok st ea e2
        obtain ⟨b, rfl⟩ := key_ref hk (show Enc (gof u X) H m S.length kd v1 from ev1)
        obtain ⟨o, es, ep, ys, q1, q2, q3, q4, q5, q6, q7, q8, q9⟩ := dt_open I h2
        obtain ⟨u1, u2, rfl, r1, r2⟩ := rs.two
        have r1' : u1 = Value.ref b := r1
        subst r1'
        have rx' : v = Value.ref p := rx
        subst rx'
        have hd : d = (getD kvs kd).getD x0 := by
          injection e with e3 e4
          injection e3 with e5
          exact e5.symm
        refine call_meetsIn F.slot_dict_get q6.typeIs F.entry_dict_get (F.args_dict_get_3 _ _ _) (meetsH_dict_get_default (nestedKind X.prog X.w) p b q5 u2) ⟨?_, kd.nk, ys, key_is I hk ev1, q6, ?_⟩
        · show X.A.units + 1 + 8 < cLine
          omega
        · rcases at_pair q7 kd with ⟨a1, a2⟩ | ⟨b1, w1, y1, z1, a1, a2, a3, a4⟩
          · rw [a1]
            rw [a2] at hd
            subst hd
            exact ⟨v2, H, I.tok _, r2, k v2 ev2⟩
          · rw [a1]
            rw [a2] at hd
            subst hd
            exact ⟨y1, H, I.tok _, a3, k y1 a4⟩
      · cases e
    · cases e
/-- o.append(x) -/
def rApE (g : Gx) : V → List V → Hp → VK → Prop := fun x xs H Q => ∃ S m H0 t ts S', StRel g S m H ∧ EncT g H m S.length t x ∧ EncTs g H0 H m S.length ts xs ∧ meF .append t ts S = .ok (.v .non) S' ∧ ∀ m' H', Ext g S m H S' m' H' → StRel g S' m' H' → Q .non H'
theorem mt_apE : MtR X "list.append" (rApE (gof u X)) := by
  intro pins s σ H x xs v us Q I rx rs h
  obtain ⟨S, m, H0, t, ts, S', st, ea, es', e, k⟩ := h
  unfold meF at e
  split at e <;> try contradiction
  rename_i j d' _
  obtain ⟨w, rfl, ed⟩ := encTs1 es'
  obtain ⟨h1, h2⟩ := (show j < S.length ∧ x = V.ref (m j) from ea)
  split at e
  · rename_i ys e1
    split at e
    · rename_i hl
      injection e with e3 e4
      subst e4
      have cr := st.cell j _ e1
      obtain ⟨vs, c1, c2⟩ := cr
      have h0 : 0 < j := by
        rcases Nat.eq_zero_or_pos j with z | z
        · obtain ⟨zs, hz⟩ := st.zero
          rw [z, hz] at e1
          cases e1
        · exact z
      obtain ⟨x1, st1⟩ := write_ok (c' := .lst false (ys ++ [d'])) (o := .lst (vs ++ [w])) st h0 e1 (by unfold lockAt; rw [e1]) c1 rfl (fun a q z => by cases z) rfl rfl (fun S' z => by unfold lockAt; rw [z])
        ⟨_, upd_same, EncAll.mono (fun a vs h => PlT.upd c1 rfl h) (Nat.le_refl _) (fun _ _ => rfl) _ _ (c2.append (EncAll.cons ed EncAll.nil))⟩
      refine mt_append pins s σ H x [w] v us Q I rx rs ⟨m j, vs, w, h2, rfl, c1, ?_, k m _ x1 st1⟩
      rw [c2.length]
      exact Nat.lt_of_lt_of_le hl lim_le
    · cases e
  · cases e

/-! ### a call of a method, the receiver by any test -/
theorem pe_bmR {o e : Expr} {es : List Expr} {to : TE} {t : TA} {name : Str} {apos cpos : Pos} {T id : String} {r : V → List V → Hp → VK → Prop} {ty : V → Hp → Prop} (pa : PlainAttrs T) (slot : Slot T name id) (hty : typeOf (.builtin id) = pure (.type "method_descriptor"))
    (hT : ∀ (pins : List (Addr × Obj)) (s : Shared) (σ : L2.St) (H : Hp) (x : V) (v : Value), L2.Inv X pins σ H s → L2.RelV x v → ty x H → s.TypeIs v T ∧ ∀ a, v = .ref a → ∃ ob, s.heap.get? a = some ob ∧ ob.dict = none) (hm : MtR X id r) (ho : PE X o to) (ha : PA X (e :: es) t)
    (hbase : attributeBase o name X.env (eval o X.env) = eval o X.env)
    (hfew : ((backTo cpos (starEach (e :: es) X.env)).all (fun x => !x.1) && (backToKw cpos (keywordEach [] X.env)).all (fun x => x.1.isSome)
      && decide ((e :: es).length + ([] : List Keyword).length + (if ([] : List Keyword).isEmpty then 0 else 1) < 30)) = true)
    (hline : (apos.endLine == cpos.line) = true) (hs : starEach (e :: es) X.env = (false, eval e X.env) :: starEach es X.env) (hplain : (backTo cpos (starEach es X.env)).any (·.1) = false) :
    PE X (.Call (.Attribute o name apos) (e :: es) [] cpos) (fun σ H Q => to σ H fun x H1 => ty x H1 ∧ t σ H1 fun xs H2 => r x xs H2 Q) := by
  refine ⟨fun pins s σ H Q I h => ?_⟩
  refine wpAny_Call_method_late hbase hfew hline rfl (thn (ho.run pins s σ H _ I h) fun v s1 ⟨x, H1, I1, r1, ty1, q1⟩ => ?_)
  obtain ⟨h1, h2⟩ := hT pins s1 σ H1 x v I1 r1 ty1
  refine ⟨T, id, pa, slot, hty, h1, h2, ?_⟩
  have hA := ha.run cpos pins s1 σ H1 _ I1 q1
  rw [hs] at hA ⊢
  refine Calls.callWith_builtin (by show (false || (backTo cpos (starEach es X.env)).any (·.1)) = false; rw [hplain] <;> rfl) (Calls.evalArgs_plain ?_)
  exact thn hA fun us s2 ⟨vs, H2, I2, r2, q2⟩ => hm pins s2 σ H2 x vs v us Q I2 r1 r2 q2
end
end Ev
-- EvS7
set_option Elab.async false
set_option linter.all false
set_option maxRecDepth 100000
set_option maxHeartbeats 4000000
/-! EvS7: dict displays, dict(pairs), o[i] = v, calls of builtins. -/
namespace Ev
open PySem PySem.Spec PyProof.Rows L2
section
variable {X : Cx} {u : Tb} {W : WX}

/-- the base stays the first one -/
theorem Post.bindK {α β : Type} {g : Gx} {S S1 : Store} {m m1 : Nat → Addr} {H H1 : Hp} {σ : L2.St} {r : R α} {f : α → Store → R β} {K : β → Store → (Nat → Addr) → Hp → Prop} (x : Ext g S m H S1 m1 H1) (p : Post g W S m H σ K (r.bind f)) :
    Post g W S1 m1 H1 σ (fun a S2 _ _ => Post g W S m H σ K (f a S2)) r := by
  cases r with
  | ok a S' => exact fun _ _ _ _ => p
  | exc e S' => exact fun m' H' c y s => p m' H' c (x.trans y) s
  | bad => exact p
theorem Post.matK {β : Type} {g : Gx} {S S1 : Store} {m m1 : Nat → Addr} {H H1 : Hp} {σ : L2.St} {r : R T} {f : D → Store → R β} {K : β → Store → (Nat → Addr) → Hp → Prop} (x : Ext g S m H S1 m1 H1) (p : Post g W S m H σ K (r.bind fun t S2 => (Ev.mat t S2).bind f)) :
    Post g W S1 m1 H1 σ (fun t S2 m2 H2 => ∀ v, FreT H1 t v → EncT g H2 m2 S2.length t v → ∃ d S3 m3, Ext g S1 m1 H1 S3 m3 H2 ∧ StRel g S3 m3 H2 ∧ Enc g H2 m3 S3.length d v ∧ Post g W S m H σ K (f d S3)) r := by
  refine (Post.bindK x p).mono fun t S2 m2 H2 y st q v fr en => ?_
  obtain ⟨d, S3, e⟩ := mat_cases t S2
  obtain ⟨m3, x3, st3, en3⟩ := mat_ok y st en fr e
  rw [e] at q
  exact ⟨d, S3, m3, x3, st3, en3, q⟩

/-! ### displays -/
abbrev dict0 : Obj := { cls := .type "dict", data := .dict #[] }
theorem raw_laid {pins : List (Addr × Obj)} {σ : L2.St} {H : Hp} {s : Shared} {h' : Heap} {t' : Nat} {a : Addr} {o : Obj} (I : L2.Inv X pins σ H s) (k : ∀ b v, s.heap.get? b = some v → h'.get? b = some v) (ha : s.heap.objs.size ≤ a) (ho : h'.get? a = some o) :
    L2.Inv X pins σ (upd H a (RawO a o)) { s with heap := h', toks := t' } :=
  I.laid k ha ⟨ho, ⟨o, ho⟩, fun _ _ e k => k _ e⟩
theorem ns_big {pins : List (Addr × Obj)} {σ : L2.St} {H : Hp} {s : Shared} (I : L2.Inv X pins σ H s) : (s.heap.objs.size == sysModules) = false := beq_eq_false_iff_ne.mpr (Ne.symm (Nat.ne_of_lt I.big))
theorem dt_nil {g : Gx} {H : Hp} {m : Nat → Addr} {n : Nat} {p : Addr} (h : H p = some (RawO p dict0)) (hp : (p == sysModules) = false) : DTrel g H m n p [] :=
  ⟨dict0, #[], 0, h, ⟨rfl, rfl, rfl⟩, rfl, hp, Nat.zero_le _, .nil, List.nodup_nil⟩
theorem pe_d0 {pos : Pos} {C : Calls} : PE X (.Dict [] [] pos) (RdE (gof u X) W (ev C .dT0).E) := by
  refine ⟨fun pins s σ H Q I q => ?_⟩
  obtain ⟨S, m, ρ, st, en, p⟩ := q
  have hp := I.hok.fresh (Nat.le_refl s.heap.objs.size)
  have I1 := raw_laid (t' := s.toks) (h' := s.heap.push dict0) I (fun _ _ q => Heap.get?_push_of_some _ q) (Nat.le_refl _) (Heap.get?_push_size _ rfl)
  obtain ⟨x1, st1⟩ := alloc_ok (o := RawO s.heap.objs.size dict0) st hp
  have p' : Post (gof u X) W S m H σ (KE (gof u X) H Q) (R.ok (T.t []) S) := p
  refine wpAny_Dict_empty ⟨.ref s.heap.objs.size, _, I1, rfl, p' m _ x1 st1 _ (fun r e => ?_) ⟨_, rfl, dt_nil upd_same (ns_big I), st.apart hp⟩⟩
  cases e
  exact Fr.of hp
theorem TK.write {g : Gx} {H : Hp} {a : Addr} {o u : HO} (h : H a = some u) (hu : HO.wr u = true) : TK g H (upd H a o) := fun b vs q => PlT.upd h hu q
theorem pe_d1 (hu : X.A.units + 64 < cLine) {k v : Expr} {Ek Ev' : Env → Store → R T} {pos : Pos} (hk : PE X k (RdE (gof u X) W Ek)) (hv : PE X v (RdE (gof u X) W Ev')) :
    PE X (.Dict [some k] [v] pos) (RdE (gof u X) W fun ρ S => (Ek ρ S).bind fun tk S1 => (mat tk S1).bind fun dk S2 => (Ev' ρ S2).bind fun tv S3 => (mat tv S3).bind fun dv S4 => if dk.isKey then .ok (.t [(dk, dv)]) S4 else .bad) := by
  refine ⟨fun pins s σ H Q I q => ?_⟩
  obtain ⟨S, m, ρ, st, en, p⟩ := q
  have hp := I.hok.fresh (Nat.le_refl s.heap.objs.size)
  have I1 := raw_laid (t' := s.toks) (h' := s.heap.push dict0) I (fun _ _ q => Heap.get?_push_of_some _ q) (Nat.le_refl _) (Heap.get?_push_size _ rfl)
  obtain ⟨x1, st1⟩ := alloc_ok (o := RawO s.heap.objs.size dict0) st hp
  have nbig := ns_big I
  refine wpAny_Dict_any rfl rfl (by simp) (by simp) ?_
  generalize s.heap.objs.size = a at *
  refine pairTrees_cons_walk (thn (hk.run pins _ σ _ _ I1 (sub st1 (x1.env en) (Post.matK x1 p))) fun uk s2 ⟨vk, H2, I2, rk, dk, S2, m2, x2, st2, ek, p2⟩ => ?_)
  refine thn (hv.run pins s2 σ H2 _ I2 (sub st2 (x2.env (x1.env en)) (Post.matK (x1.trans x2) p2))) fun uv s3 ⟨vv, H3, I3, rv, dv, S3, m3, x3, st3, ed, p3⟩ => ?_
  refine pairTrees_nil_walk ?_
  split at p3
  · rename_i hkey
    obtain ⟨b, rfl⟩ := key_ref hkey ek
    have rk' : uk = Value.ref b := rk
    subst rk'
    have x23 := x2.trans x3
    have apart1 : ∀ j, 0 < j → j < S.length → m j ≠ a := st.apart hp
    have hne : ∃ o, upd H a (RawO a dict0) a = some o ∧ ∀ ps, o ≠ .tbl ps := ⟨_, upd_same, fun ps z => by unfold RawO at z; cases z⟩
    have raw3 : H3 a = some (RawO a dict0) := keep_free x23 st1 upd_same (fun ps z => by unfold RawO at z; cases z) apart1
    have apart3 := apart_up x23 hne apart1
    have dt3 : DTrel (gof u X) H3 m3 S3.length a [] := dt_nil raw3 nbig
    obtain ⟨o, es, ep, ys, q1, q2, q3, q4, q5, q6, q7, q8, q9⟩ := dt_open I3 dt3
    cases q7
    have ek3 := x3.enc ek
    show wpAny _ _ (storeAll a [(.ref b, uv)]) _ _ _
    unfold storeAll
    rw [List.forIn_cons]
    refine wpAny_bind (wpAny_bind (wpAny_dictSet_heap (knd := nestedKind X.prog X.w) (hsz := Nat.zero_le _) (by show X.A.units + 8 < cLine; omega) (key_is I3 hkey ek3) q6 fun h' hm' hs' => wpAny_pure ?_))
    show wpAny _ _ (forIn ([] : List (Value × Value)) PUnit.unit _) _ _ _
    rw [List.forIn_nil]
    refine wpAny_pure ?_
    have hlen : (storedH ([] : List (NestedKey × Addr × Value)) dk.nk b uv).length ≤ sizeLine := by
      refine Nat.le_trans storedH_len ?_
      rw [sizeLine_eq]
      decide
    obtain ⟨o', ho', mk⟩ := dt_close (u := u) (m := m3) (n := S3.length) (kvs := putD [] dk dv) hm' q5 hlen
    have raw3' := raw3
    have cfree := raw_code I3 raw3 (es := #[]) (ep := 0) rfl
    have I4 : L2.Inv X pins σ (upd H3 a (RawO a o')) { s3 with heap := h', toks := s3.toks + (nestedKind X.prog X.w).draws dk.nk } :=
      I3.write (x := a) (e := a) (by rw [raw3]; exact trivial) (.inl rfl) (fun c w hc hw => (hs'.2 c hc).trans hw) ⟨o', ho'⟩ ⟨ho', ⟨o', ho'⟩, fun _ _ e k => k _ e⟩
    have tk3 : TK (gof u X) H3 (upd H3 a (RawO a o')) := TK.write raw3 rfl
    obtain ⟨x4, st4⟩ := free_write (o := RawO a o') (x1.trans x23) st3 hp raw3 rfl cfree apart3
    refine ⟨.ref a, _, I4, rfl, p3 m3 _ x4 st4 _ (fun r e => ?_) ⟨a, rfl, ?_, apart3⟩⟩
    · cases e
      exact Fr.of hp
    · refine mk _ upd_same ?_
      have z : XOk (gof u X) (upd H3 a (RawO a o')) m3 S3.length (dk.nk, b, uv) (dk, dv) := XOk.ex tk3 (Nat.le_refl _) (fun _ _ => rfl) ⟨rfl, hkey, ek3, vv, rv, ed⟩
      exact .cons z .nil
  · exact p3.elim

/-! ### dict(pairs) -/
theorem pairs_open {pins : List (Addr × Obj)} {σ : L2.St} {H : Hp} {s : Shared} {m : Nat → Addr} {n : Nat} (I : L2.Inv X pins σ H s) : ∀ {xs : List D} {vs : List V} {its : List Value} {kvs : List (D × D)}, EncAll (gof u X) H m n xs vs → Vals vs its → pairs xs = some kvs →
    ∃ (ys : List (NestedKey × Addr × Value)) (ts : List Addr), its = ts.map Value.ref ∧ ys.length = ts.length ∧ Paired (XOk (gof u X) H m n) ys kvs ∧ ∀ (j : Nat) (t : Addr) (y : NestedKey × Addr × Value), ts[j]? = some t → ys[j]? = some y → PairAt s.heap t (.ref y.2.1) y.2.2
  | [], _, _, _, h, r, e => by
    have h' : _ = [] := h
    subst h'
    cases r
    cases e
    exact ⟨[], [], rfl, rfl, .nil, fun j t y e => by simp at e⟩
  | d :: xs, vs, its, kvs, h, r, e => by
    obtain ⟨v, q, e1, h1, h2⟩ := h
    subst e1
    cases r with
    | cons r1 r2 =>
      unfold pairs at e
      split at e <;> try contradiction
      rename_i k y r0 e0
      injection e0 with e3 e4
      subst e3 e4
      split at e
      · rename_i hk
        cases e2 : pairs xs with
        | none =>
          rw [e2] at e
          cases e
        | some ps =>
          rw [e2] at e
          cases e
          obtain ⟨ys, ts, g1, g2, g3, g4⟩ := pairs_open I h2 r2 e2
          obtain ⟨a, ws, e5, h3, h4⟩ := h1
          subst e5
          obtain ⟨v1, q1, e6, h5, h6⟩ := h4
          obtain ⟨v2, q2, e7, h7, h8⟩ := h6
          have e8 : q2 = [] := h8
          subst e6 e7 e8
          obtain ⟨b, rfl⟩ := key_ref hk h5
          obtain ⟨its2, rv, tp, _⟩ := I.tuple h3.sq
          obtain ⟨w1, w2, e9, rw1, rw2⟩ := rv.two
          subst e9
          have rw1' : w1 = Value.ref b := rw1
          subst rw1'
          have r1' : _ = Value.ref a := r1
          subst r1'
          refine ⟨(k.nk, b, w2) :: ys, a :: ts, by rw [g1]; rfl, by simp [g2], .cons ⟨rfl, hk, h5, v2, rw2, h7⟩ g3, fun j t y et ey => ?_⟩
          cases j with
          | zero =>
            simp at et ey
            subst et ey
            exact .inl tp
          | succ j => exact g4 j t y (by simpa using et) (by simpa using ey)
      · cases e
theorem put_all {g : Gx} {H : Hp} {m : Nat → Addr} {n : Nat} {ys : List (NestedKey × Addr × Value)} {kvs : List (D × D)} (h : Paired (XOk g H m n) ys kvs) : ∀ {xs : List (NestedKey × Addr × Value)} {acc : List (D × D)}, Paired (XOk g H m n) xs acc →
    Paired (XOk g H m n) (storedAllH xs ys) (kvs.foldl (fun acc p => putD acc p.1 p.2) acc) := by
  induction h with
  | nil => intro xs acc q; exact q
  | @cons y p ys ps r _ ih =>
    intro xs acc q
    obtain ⟨h1, h2, h3, v, h4, h5⟩ := r
    have z := put_pair q h2 h3 h4 h5
    rw [← h1] at z
    exact ih z
theorem storedAll_len : ∀ (ys xs : List (NestedKey × Addr × Value)), (storedAllH xs ys).length ≤ xs.length + ys.length
  | [], xs => Nat.le_refl _
  | y :: ys, xs => by
    have h1 := storedAll_len ys (storedH xs y.1 y.2.1 y.2.2)
    have h2 := storedH_len (xs := xs) (k := y.1) (b := y.2.1) (w := y.2.2)
    show (storedAllH (storedH xs y.1 y.2.1 y.2.2) ys).length ≤ _
    rw [List.length_cons]
    omega
theorem bi_dict (hc : X.calm = true) (hu : X.A.units + 64 < cLine) : CallR X (.type "dict") (rBi (gof u X) .dict) := by
  intro pins s σ H xs us Q I r h
  obtain ⟨S, m, H0, ts, t, st, ea, e, k⟩ := h
  unfold biF at e
  split at e <;> try contradiction
  rename_i ta _
  obtain ⟨v, rfl, ev⟩ := encTs1 ea
  cases e1 : asQ ta S with
  | none =>
    rw [e1] at e
    cases e
  | some ds =>
    rw [e1] at e
    have e' : (if ds.length ≤ lim then (pairs ds).map fun kvs => T.t (kvs.foldl (fun acc p => putD acc p.1 p.2) []) else none) = some t := e
    split at e'
    · rename_i hlim
      cases e2 : pairs ds with
      | none =>
        rw [e2] at e'
        cases e'
      | some kvs =>
        rw [e2] at e'
        cases e'
        obtain ⟨p, vs, rfl, h2, h3⟩ := asQ_ok st ev e1
        rw [Vals.ref1 r]
        have go : ∀ (its : List Value), Vals vs its → ∃ (ys : List (NestedKey × Addr × Value)) (Ts : Nat → Addr), PairItems s.heap its.toArray Ts (ys.map fun y => (Value.ref y.2.1, y.2.2)) ∧ Paired (XOk (gof u X) H m S.length) ys kvs ∧ ys.length = its.length := fun its rv => by
          obtain ⟨ys, ts, g1, g2, g3, g4⟩ := pairs_open I h3 rv e2
          refine ⟨ys, fun j => (ts[j]?).getD 0, ⟨by rw [g1]; simp [g2], fun j kk vv ej => ?_⟩, g3, by rw [g1, g2, List.length_map]⟩
          rw [List.getElem?_map] at ej
          cases ey : ys[j]? with
          | none =>
            rw [ey] at ej
            cases ej
          | some y =>
            rw [ey] at ej
            cases ej
            have hj : j < ts.length := by
              rw [← g2]
              exact (List.getElem?_eq_some_iff.mp ey).1
            have et : ts[j]? = some ts[j] := List.getElem?_eq_getElem hj
            refine ⟨?_, ?_⟩
            · have e9 : ((ts[j]?).getD 0 : Addr) = ts[j] := by rw [et]; rfl
              show (its.toArray)[j]? = some (.ref ((ts[j]?).getD 0))
              rw [e9, g1]
              simp [et]
            · have e9 : ((ts[j]?).getD 0 : Addr) = ts[j] := by rw [et]; rfl
              show PairAt s.heap ((ts[j]?).getD 0) _ _
              rw [e9]
              exact g4 j _ y et ey
        have fin : ∀ (T : String) (a : Addr) (fp : List Addr) (OK : Heap → Prop) (its : List Value) (ys : List (NestedKey × Addr × Value)), a = p → Paired (XOk (gof u X) H m S.length) ys kvs → ys.length = its.length → Vals vs its →
            PairArg X.prog X.w T a fp [] (ys.map fun y => (Value.ref y.2.1, y.2.2)).length (PairRel (ys.map fun y => (Value.ref y.2.1, y.2.2))) OK → OK s.heap → wpAny (model X.prog X.w) X.A (call (.type "dict") [.ref p]) (EP X pins σ Q) X.xe s := fun T a fp OK its ys ea g3 gl rv P ok => by
          subst ea
          have hn : ys.length ≤ lim := by
            rw [gl, ← rv.length, h3.length]
            exact hlim
          refine call_dict_pairsH (knd := nestedKind X.prog X.w) (ps := ys) P (I.ok.hd hc) (by show X.A.units + 1 + 1 + 8 < cLine; omega) ok ⟨by rw [List.length_map], fun i key v' hr => ?_⟩ (fun h' hk x hx => ?_) (by rw [List.length_map]; exact Nat.le_trans hn lim_le) fun h' tk hd' hk => ?_
          · have hr' : (ys.map fun y => (Value.ref y.2.1, y.2.2))[i]? = some (key, v') := hr
            rw [List.getElem?_map] at hr'
            cases ey : ys[i]? with
            | none =>
              rw [ey] at hr'
              cases hr'
            | some y =>
              rw [ey] at hr'
              cases hr'
              exact ⟨y.1, y.2.1, rfl, rfl⟩
          · refine nestedKind_stays.stays (fun b o vs' n' hb hd => hk b o (Nat.ne_of_lt (Heap.lt_size hb)) (by simp) hb) (xs_is I g3 x hx)
          · have kp : ∀ b o, s.heap.get? b = some o → h'.get? b = some o := fun b o e => hk b o (by simp) e
            have hp := I.hok.fresh (Nat.le_refl s.heap.objs.size)
            obtain ⟨o', ho', mk⟩ := dt_close (u := u) (m := m) (n := S.length) (kvs := kvs.foldl (fun acc p => putD acc p.1 p.2) []) hd' (ns_big I) (by
              refine Nat.le_trans (storedAll_len ys []) ?_
              rw [List.length_nil, Nat.zero_add]
              exact Nat.le_trans hn lim_le)
            have I1 := raw_laid (t' := tk) I kp (Nat.le_refl _) ho'
            obtain ⟨x1, st1⟩ := alloc_ok (o := RawO s.heap.objs.size o') st hp
            refine ⟨.ref s.heap.objs.size, _, I1, rfl, k m _ _ x1 st1 (fun r e => ?_) ⟨_, rfl, mk _ upd_same ?_, st.apart hp⟩⟩
            · cases e
              exact Fr.of hp
            · have z := put_all g3 (xs := []) (acc := []) .nil
              exact Paired.imp (fun a b q => XOk.ex x1.tk (Nat.le_refl _) (fun _ _ => rfl) q) z
        rcases h2 with h2 | ⟨h2, _⟩
        · obtain ⟨its, rv, ⟨o, nn, ho, hcl, hdn, hdat⟩, hz⟩ := I.list h2
          obtain ⟨ys, Ts, g1, g3, gl⟩ := go its rv
          exact fin "list" p _ _ its ys rfl g3 gl rv (PairArg.list p its.toArray Ts _) ⟨⟨o, nn, ho, hcl, hdn, hdat⟩, g1⟩
        · obtain ⟨its, rv, ⟨o, ho, hcl, nn, hdat⟩, hz⟩ := I.tuple h2.sq
          have hdn : o.dict = none := by
            rcases h2 with ⟨o2, q1, q2⟩ | ⟨o2, it2, n2, q1, q2, q3, _⟩
            · have z : ObjOk X.prog X.w H s.heap p (.frz o2 (.tup vs)) := I.hok p _ q1
              have z2 : s.heap.get? p = some o2 := z.1
              rw [ho] at z2
              cases z2
              exact q2
            · have z2 := I.kIn p o2 q1
              rw [ho] at z2
              cases z2
              exact q3
          obtain ⟨ys, Ts, g1, g3, gl⟩ := go its rv
          exact fin "tuple" p _ _ its ys rfl g3 gl rv (PairArg.tuple p its.toArray Ts _) ⟨⟨o, nn, ho, hcl, hdn, hdat⟩, g1⟩
    · cases e'
end
end Ev
-- EvS8
set_option Elab.async false
set_option linter.all false
set_option maxRecDepth 100000
set_option maxHeartbeats 4000000
/-! EvS8: calls of builtins and defs, targets, o[i] = v. -/
namespace Ev
open PySem PySem.Spec PyProof.Rows L2
section
variable {X : Cx} {u : Tb} {W : WX}
theorem nostar_any : ∀ {es : List Expr} {env : PySem.Env} {pos : Pos}, es.all noStar = true → (backTo pos (starEach es env)).any (·.1) = false
  | [], _, _, _ => rfl
  | e :: es, env, pos, h => by
    rw [List.all_cons, Bool.and_eq_true] at h
    rw [star_ok h.1]
    show (false || (backTo pos (starEach es env)).any (·.1)) = false
    rw [nostar_any h.2]
    rfl
theorem nostar_all : ∀ {es : List Expr} {env : PySem.Env} {pos : Pos}, es.all noStar = true → (backTo pos (starEach es env)).all (fun x => !x.1) = true
  | [], _, _, _ => rfl
  | e :: es, env, pos, h => by
    rw [List.all_cons, Bool.and_eq_true] at h
    rw [star_ok h.1]
    show (!false && (backTo pos (starEach es env)).all (fun x => !x.1)) = true
    rw [nostar_all h.2]
    rfl
/-! ### builtins -/
def biE (b : Bi) (M : Env → Store → R (List T)) : Env → Store → R T := fun ρ S => (M ρ S).bind fun ts S1 => opt (biF b ts S1) S1
theorem bi_sub {g : Gx} {b : Bi} {M : Env → Store → R (List T)} {σ : L2.St} {H : Hp} {Q : VK} (h : RdE g W (biE b M) σ H Q) : tCB (rBi g b) (RdTs g W M) σ H Q := by
  obtain ⟨S, m, ρ, st, en, p⟩ := h
  refine ⟨S, m, ρ, st, en, (Post.bind p).mono fun ts S1 m1 H1 x1 st1 p1 vs hvs => ?_⟩
  obtain ⟨t, e, k⟩ := p1.opt
  exact ⟨S1, m1, H, ts, t, st1, hvs, e, fun m' H' v y st' fr en' => k m' H' y st' v (FreT.back x1 fr) en'⟩
variable {x : Str} {p pos : Pos} {e : Expr} {es : List Expr} {M : Env → Store → R (List T)} {b : Bi} {id T : String}
theorem pe_biB (hc : CallR X (.builtin id) (rBi (gof u X) b)) (hg : Gl X x) (hm : X.mg x = none) (hv : bootBuiltins x = some (.builtin id)) (hn : x ≠ "__name__") (hdb : (x == ("__debug__" : Str)) = false) (hs : (e :: es).all noStar = true) (ha : PA X (e :: es) (RdTs (gof u X) W M)) :
    PE X (.Call (.Name x p) (e :: es) [] pos) (RdE (gof u X) W (biE b M)) := by
  rw [List.all_cons, Bool.and_eq_true] at hs
  exact PE.imp (pe_callB hc hg hm hv ha hn hdb (star_ok hs.1) (nostar_any hs.2)) fun σ H Q h => bi_sub h
theorem pe_biT (hc : CallR X (.type T) (rBi (gof u X) b)) (hg : Gl X x) (hm : X.mg x = none) (hv : bootBuiltins x = some (.type T)) (hn : x ≠ "__name__") (hdb : (x == ("__debug__" : Str)) = false) (hs : (e :: es).all noStar = true) (ha : PA X (e :: es) (RdTs (gof u X) W M)) :
    PE X (.Call (.Name x p) (e :: es) [] pos) (RdE (gof u X) W (biE b M)) := by
  rw [List.all_cons, Bool.and_eq_true] at hs
  exact PE.imp (pe_callTy hc hg hm hv ha hn hdb (star_ok hs.1) (nostar_any hs.2)) fun σ H Q h => bi_sub h
/-- isinstance(e, T) -/
theorem pe_isi {tn : Str} {ty : String} {s : Sm} {p2 : Pos} (he : PE X e (RdE (gof u X) W s.E)) (hn1 : noStar e = true) (hg : Gl X "isinstance") (hm : X.mg "isinstance" = none) (hg2 : Gl X tn) (hm2 : X.mg tn = none) (hv2 : bootBuiltins tn = some (.type ty)) (hn : tn ≠ "__name__") (hdb : (tn == ("__debug__" : Str)) = false)
    (hb : ∀ (ts : List Ev.T) (S : Store) (t : Ev.T), biF b ts S = some t → ∃ d, ts = [.v d] ∧ ∃ k, t = .v (.bl k) ∧ ((∃ i, d = .int i ∧ PySem.W.kitOne X.K (.type "int") (.type ty) = some k) ∨ (∃ i, d = .bl i ∧ PySem.W.kitOne X.K (.type "bool") (.type ty) = some k) ∨
      (d = .non ∧ PySem.W.kitOne X.K (.type "NoneType") (.type ty) = some k) ∨ (∃ i, d = .str i ∧ PySem.W.kitOne X.K (.type "str") (.type ty) = some k))) :
    PE X (.Call (.Name "isinstance" p) [e, .Name tn p2] [] pos) (RdE (gof u X) W (biE b (evTs [s]))) := by
  have h2 : PE X (.Name tn p2) (tC (.ty ty)) := pe_bltn hg2 hm2 hv2 rfl hn hdb
  refine PE.imp (pe_callB call_isi hg hm boot_isinstance (pa_cons he (pa_cons h2 pa_nil) (star_ok hn1)) (by decide) (by decide) (star_ok hn1) rfl) ?_
  rintro σ H Q ⟨S, m, ρ, st, en, p⟩
  have p : Post (gof u X) W S m H σ (KE (gof u X) H Q) (((s.E ρ S).bind fun t S1 => R.ok [t] S1).bind fun ts S1 => opt (biF b ts S1) S1) := p
  rw [R.bind_assoc] at p
  refine sub st en (p.bind.mono fun t S1 m1 H1 x1 st1 p1 v fv ev => ?_)
  obtain ⟨t', e', k⟩ := p1.opt
  obtain ⟨d, e1, k', e2, hk⟩ := hb [t] S1 t' e'
  cases e1
  subst e2
  have q := k m1 H1 Ext.refl st1 (.bl k') trivial rfl
  rcases hk with ⟨i, rfl, hk⟩ | ⟨i, rfl, hk⟩ | ⟨rfl, hk⟩ | ⟨i, rfl, hk⟩
  · have z : v = .int i := ev
    subst z
    exact ⟨_, .ty ty, _, _, k', rfl, .ty ty, .base (.int i), hk, q⟩
  · have z : v = .bl i := ev
    subst z
    exact ⟨_, .ty ty, _, _, k', rfl, .ty ty, .base (.bl i), hk, q⟩
  · have z : v = .non := ev
    subst z
    exact ⟨_, .ty ty, _, _, k', rfl, .ty ty, .base .non, hk, q⟩
  · have z : v = .str i := ev
    subst z
    exact ⟨_, .ty ty, _, _, k', rfl, .ty ty, .base (.str i), hk, q⟩
/-! ### methods -/
theorem pe_get2 (hu : X.A.units + 64 < cLine) {o e1 e2 : Expr} {so : Sm} {M : Env → Store → R (List Ev.T)} {apos cpos : Pos} (ho : PE X o (RdE (gof u X) W so.E)) (ha : PA X [e1, e2] (RdTs (gof u X) W M)) (hs : [e1, e2].all noStar = true)
    (hbase : attributeBase o "get" X.env (eval o X.env) = eval o X.env) (hline : (apos.endLine == cpos.line) = true) :
    PE X (.Call (.Attribute o "get" apos) [e1, e2] [] cpos) (RdE (gof u X) W fun ρ S => (so.E ρ S).bind fun t S1 => if rcv .get2 t S1 then (M ρ S1).bind fun ts S2 => meF .get2 t ts S2 else .bad) := by
  have hs' := hs
  rw [List.all_cons, Bool.and_eq_true] at hs'
  refine PE.imp (pe_bmR (ty := fun x H => ∃ S m t, StRel (gof u X) S m H ∧ EncT (gof u X) H m S.length t x ∧ (asT t S).isSome = true) F.plainAttrs_dict F.slot_dict_get F.type_dict_get ?_ (mt_get2 (u := u) hu) ho ha hbase ?_ hline (star_ok hs'.1) (nostar_any hs'.2)) ?_
  · rintro pins s σ H x v I r ⟨S, m, t, st, ea, hT⟩
    cases e2 : asT t S with
    | none =>
      rw [e2] at hT
      cases hT
    | some kvs =>
      obtain ⟨p, rfl, h2⟩ := asT_ok st ea e2
      obtain ⟨o, es, ep, ys, q1, q2, q3, q4, q5, q6, q7, q8, q9⟩ := dt_open I h2
      have r' : v = Value.ref p := r
      subst r'
      exact ⟨⟨o, q2, q3.1⟩, fun a ea' => by
        cases ea'
        exact ⟨o, q2, q3.2.1⟩⟩
  · rw [nostar_all hs]
    rfl
  · rintro σ H Q ⟨S, m, ρ, st, en, p⟩
    refine sub st en (p.bind.mono fun t S1 m1 H1 x1 st1 p1 v fv ev => ?_)
    split at p1
    · rename_i hr
      refine ⟨⟨S1, m1, t, st1, ev, hr⟩, S1, m1, ρ, st1, x1.env en, p1.bind.mono fun ts S2 m2 H2 x2 st2 p2 vs hvs => ?_⟩
      have ex : ∃ d, meF .get2 t ts S2 = .ok (.v d) S2 := by
        unfold meF at p2 ⊢
        split at p2 <;> try contradiction
        all_goals (try exact p2.elim)
        rename_i kd x0 _
        split at p2
        · split at p2
          · rename_i hq
            exact ⟨_, if_pos hq⟩
          · exact p2.elim
        · exact p2.elim
      obtain ⟨d, ed⟩ := ex
      rw [ed] at p2
      exact ⟨S2, m2, H1, t, ts, d, st2, x2.encT st1 ev, hvs, ed, fun v hv => (Post.here st2 p2) v trivial hv⟩
    · exact p1.elim
/-- o.append(e) as a value that is dropped -/
theorem pe_ap {o e1 : Expr} {so s1 : Sm} {apos cpos : Pos} (ho : PE X o (RdE (gof u X) W so.E)) (h1 : PE X e1 (RdE (gof u X) W s1.E)) (hs : noStar e1 = true)
    (hbase : attributeBase o "append" X.env (eval o X.env) = eval o X.env) (hline : (apos.endLine == cpos.line) = true) :
    PE X (.Call (.Attribute o "append" apos) [e1] [] cpos) (RdE (gof u X) W fun ρ S => (so.E ρ S).bind fun t S1 => if rcv .append t S1 then (evM [s1] ρ S1).bind fun ds S2 => meF .append t (ds.map .v) S2 else .bad) := by
  have ha : PA X [e1] (RdM (gof u X) W (evM [s1])) := pa_m1 hs h1 pa_m0
  refine PE.imp (pe_bmR (ty := fun x H => ∃ S m t, StRel (gof u X) S m H ∧ EncT (gof u X) H m S.length t x ∧ (asM t S).isSome = true) F.plainAttrs_list F.slot_list_append F.type_list_append ?_ (mt_apE (u := u)) ho ha hbase ?_ hline (star_ok hs) rfl) ?_
  · rintro pins s σ H x v I r ⟨S, m, t, st, ea, hT⟩
    cases e2 : asM t S with
    | none =>
      rw [e2] at hT
      cases hT
    | some xs =>
      obtain ⟨p, vs, rfl, h2, h3⟩ := asM_ok st ea e2
      obtain ⟨z, its, n, rv, hl, e⟩ := I.lstM h2
      have r' : v = Value.ref p := r
      subst r'
      exact ⟨⟨_, e, rfl⟩, fun a ea' => by
        cases ea'
        exact ⟨_, e, rfl⟩⟩
  · rw [star_ok hs]
    rfl
  · rintro σ H Q ⟨S, m, ρ, st, en, p⟩
    refine sub st en (p.bind.mono fun t S1 m1 H1 x1 st1 p1 v fv ev => ?_)
    split at p1
    · rename_i hr
      refine ⟨⟨S1, m1, t, st1, ev, hr⟩, S1, m1, ρ, st1, x1.env en, p1.bind.mono fun ds S2 m2 H2 x2 st2 p2 vs hvs => ?_⟩
      have ex : ∃ S3, meF .append t (ds.map .v) S2 = .ok (.v .non) S3 := by
        unfold meF at p2 ⊢
        split at p2 <;> try contradiction
        all_goals (try exact p2.elim)
        split at p2
        · split at p2
          · rename_i hq
            exact ⟨_, if_pos hq⟩
          · exact p2.elim
        · exact p2.elim
      obtain ⟨S3, ed⟩ := ex
      rw [ed] at p2
      have hts : EncTs (gof u X) H2 H2 m2 S2.length (ds.map .v) vs := by
        clear p2 ed p1 hr
        induction ds generalizing vs with
        | nil =>
          have : vs = [] := hvs
          subst this
          exact .nil
        | cons d ds ih =>
          obtain ⟨w, r, e, q1, q2⟩ := hvs
          subst e
          exact .cons trivial q1 (ih r q2)
      exact ⟨S2, m2, H2, t, ds.map .v, S3, st2, x2.encT st1 ev, hts, ed, fun m' H' y st' => p2 m' H' y st' _ trivial rfl⟩
    · exact p1.elim

/-! ### o[i] = v -/
theorem set_E (hu : X.A.units + 64 < cLine) : PSet X (fun o i v H Q => ∃ S m to ti d S', StRel (gof u X) S m H ∧ EncT (gof u X) H m S.length to o ∧ EncT (gof u X) H m S.length ti i ∧ Enc (gof u X) H m S.length d v ∧ setF to ti d S = some S' ∧
    ∀ m' H', Ext (gof u X) S m H S' m' H' → StRel (gof u X) S' m' H' → Q H') := by
  intro pins s σ H o i v ov iv w Q I ro ri rv h
  obtain ⟨S, m, to, ti, d, S', st, eo, ei, ed, e, k⟩ := h
  unfold setF at e
  split at e <;> try contradiction
  rename_i j ki
  obtain ⟨h1, h2⟩ := (show j < S.length ∧ o = V.ref (m j) from eo)
  have pos : ∀ {c : Cell}, S[j]? = some c → c.isRo = false → 0 < j := fun {c} e1 hc => by
    rcases Nat.eq_zero_or_pos j with z | z
    · obtain ⟨zs, hz⟩ := st.zero
      rw [z, hz] at e1
      cases e1
      cases hc
    · exact z
  split at e
  · -- a list
    rename_i xs jj e1
    split at e
    · rename_i p hp
      cases e
      obtain ⟨vs, c1, c2⟩ := st.cell j _ e1
      obtain ⟨x1, st1⟩ := write_ok (c' := .lst false (xs.set p d)) (o := .lst (vs.set p v)) st (pos e1 rfl) e1 (by unfold lockAt; rw [e1]) c1 rfl (fun a q z => by cases z) rfl rfl (fun S' z => by unfold lockAt; rw [z])
        ⟨_, upd_same, EncAll.mono (fun a vs h => PlT.upd c1 rfl h) (Nat.le_refl _) (fun _ _ => rfl) _ _ (EncAll.set ed p c2)⟩
      exact set_list pins s σ H o i v ov iv w Q I ro ri rv ⟨m j, vs, jj, p, h2, ei, c1, by rw [c2.length]; exact hp, k m _ x1 st1⟩
    · cases e
  · -- a dict
    rename_i ki c0 k0 kvs e1
    split at e
    · rename_i hk
      cases e
      have dt : DTrel (gof u X) H m S.length (m j) kvs := st.cell j _ e1
      obtain ⟨b, rfl⟩ := key_ref hk.1 (show Enc (gof u X) H m S.length ki i from ei)
      obtain ⟨ob, es, ep, ys, q1, q2, q3, q4, q5, q6, q7, q8, q9⟩ := dt_open I dt
      subst h2
      have ro' : ov = Value.ref (m j) := ro
      subst ro'
      have ri' : iv = Value.ref b := ri
      subst ri'
      refine wpAny_setItem_heap (knd := nestedKind X.prog X.w) (hsz := q8) (by show X.A.units + 1 + 8 < cLine; omega) (key_is I hk.1 ei) q6 fun h' hm' hs' => ?_
      have hl : ys.length = kvs.length := Paired.length q7
      have hlen : (storedH ys ki.nk b w).length ≤ sizeLine := by
        refine Nat.le_trans storedH_len ?_
        rw [hl]
        exact Nat.le_trans (Nat.succ_le_of_lt hk.2) lim_le
      obtain ⟨o', ho', mk⟩ := dt_close (u := u) (m := m) (n := S.length) (kvs := putD kvs ki d) hm' q5 hlen
      have cfree := raw_code I q1 q4
      have tk : TK (gof u X) H (upd H (m j) (RawO (m j) o')) := TK.write q1 rfl
      have np := put_pair q7 hk.1 ei rv ed
      obtain ⟨x1, st1⟩ := write_ok (c' := .dT false (putD kvs ki d)) (o := RawO (m j) o') st (pos e1 rfl) e1 (by unfold lockAt; rw [e1]) q1 rfl cfree rfl rfl (fun S' z => by unfold lockAt; rw [z])
        (mk _ upd_same (Paired.imp (fun a b q => XOk.ex tk (Nat.le_refl _) (fun _ _ => rfl) q) np))
      have I4 : L2.Inv X pins σ (upd H (m j) (RawO (m j) o')) { s with heap := h', toks := s.toks + (nestedKind X.prog X.w).draws ki.nk } := I.write (x := m j) (e := m j) (by rw [q1]; exact trivial) (.inl rfl) (fun c w hc hw => (hs'.2 c hc).trans hw) ⟨o', ho'⟩ ⟨ho', ⟨o', ho'⟩, fun _ _ e k => k _ e⟩
      exact ⟨_, I4, k m _ x1 st1⟩
    · cases e
  · cases e

/-! ### targets -/
mutual
/-- the names of a target by their places; st: what may be stored to -/
def cG (N : List Str) (st : Str → Bool) : Expr → Option Tg
  | .Name x _ => (N.idxOf? x).bind fun i => if st x then some (.v i) else none
  | .Tuple es _ _ => (cGs N st es).map .tup
  | _ => none
def cGs (N : List Str) (st : Str → Bool) : List Expr → Option (List Tg)
  | [] => some []
  | e :: es => (cG N st e).bind fun t => (cGs N st es).map (t :: ·)
end
end
end Ev
-- EvS9
set_option Elab.async false
set_option linter.all false
set_option maxRecDepth 100000
set_option maxHeartbeats 4000000
/-! EvS9: targets, simple statements. -/
namespace Ev
open PySem PySem.Spec PyProof.Rows L2
/-- data of a value; of a tuple that was just yielded, weakly -/
def EncW (g : Gx) (H : Hp) (m : Nat → Addr) (n : Nat) (d : D) (v : V) : Prop := Enc g H m n d v ∨ ∃ ds a vs, d = .tup ds ∧ v = .ref a ∧ SqT g.K H a vs ∧ EncAll g H m n ds vs
def EncG (b : Bool) (g : Gx) (H : Hp) (m : Nat → Addr) (n : Nat) (d : D) (v : V) : Prop := if b = true then EncW g H m n d v else Enc g H m n d v
def Tg.isTup : Tg → Bool
  | .tup _ => true
  | _ => false
section
variable {X : Cx} {u : Tb} {W : WX}
theorem env_set {g : Gx} {H : Hp} {m : Nat → Addr} {n : Nat} {ρ : Env} {σ : L2.St} (en : EnvRel g H m n ρ σ) {i : Nat} {d : D} {v : V} (e : Enc g H m n d v) : EnvRel g H m n (ρ.set i (some d)) (σ.set i (some v)) := by
  refine ⟨by rw [List.length_set, List.length_set]; exact en.len, fun j d' h => ?_⟩
  by_cases hj : i = j
  · subst hj
    have hl : i < ρ.length := by
      have := (List.getElem?_eq_some_iff.mp h).1
      rw [List.length_set] at this
      exact this
    rw [List.getElem?_set_self hl] at h
    cases h
    exact ⟨v, by rw [List.getElem?_set_self (by rw [← en.len]; exact hl)], e⟩
  · rw [List.getElem?_set_ne hj] at h ⊢
    exact en.at_ j d' h
mutual
def Tg.vars : Tg → List Nat
  | .v i => [i]
  | .tup ts => Tg.varsL ts
def Tg.varsL : List Tg → List Nat
  | [] => []
  | t :: ts => t.vars ++ Tg.varsL ts
end
/-- the slots beside vs are as they were -/
def Same (vs : List Nat) (σ σ' : L2.St) : Prop := σ'.length = σ.length ∧ ∀ i, i ∉ vs → σ'[i]? = σ[i]?
theorem Same.trans {a b : List Nat} {σ σ1 σ2 : L2.St} (h : Same a σ σ1) (k : Same b σ1 σ2) : Same (a ++ b) σ σ2 :=
  ⟨k.1.trans h.1, fun i hi => (k.2 i fun z => hi (List.mem_append_right _ z)).trans (h.2 i fun z => hi (List.mem_append_left _ z))⟩
theorem wipe_at (vs : List Nat) : ∀ (σ : L2.St) (i : Nat), i ∉ vs → (wipe σ vs)[i]? = σ[i]? := fun σ i hi => by
  induction vs with
  | nil => rfl
  | cons v vs ih =>
    unfold wipe
    rw [List.getElem?_set_ne (fun z => hi (by rw [z]; exact List.mem_cons_self))]
    exact ih fun z => hi (List.mem_cons_of_mem _ z)
theorem wipe_in (vs : List Nat) : ∀ (σ : L2.St) (i : Nat), i ∈ vs → i < σ.length → (wipe σ vs)[i]? = some none := fun σ i hi hl => by
  induction vs with
  | nil => cases hi
  | cons v vs ih =>
    unfold wipe
    by_cases h : v = i
    · subst h
      rw [List.getElem?_set_self (by rw [wipe_length]; exact hl)]
    · rw [List.getElem?_set_ne h]
      rcases List.mem_cons.mp hi with z | z
      · exact absurd z.symm h
      · exact ih z
theorem wipe_same {a vs : List Nat} {σ σ2 : L2.St} (h : Same a (wipe σ vs) σ2) (ha : ∀ i ∈ a, i ∈ vs) : wipe σ2 vs = wipe σ vs := by
  have hl : σ2.length = σ.length := h.1.trans (wipe_length σ vs)
  apply List.ext_getElem?
  intro i
  by_cases hi : i ∈ vs
  · by_cases hn : i < σ.length
    · rw [wipe_in vs σ i hi hn, wipe_in vs σ2 i hi (by rw [hl]; exact hn)]
    · rw [List.getElem?_eq_none (by rw [wipe_length, hl]; omega), List.getElem?_eq_none (by rw [wipe_length]; omega)]
  · rw [wipe_at vs σ2 i hi, h.2 i (fun z => hi (ha i z))]
theorem wipe_env {g : Gx} {H : Hp} {m : Nat → Addr} {n : Nat} {ρ : Env} {σ : L2.St} (en : EnvRel g H m n ρ σ) (vs : List Nat) : EnvRel g H m n (wipeE ρ vs) (wipe σ vs) := by
  induction vs with
  | nil => exact en
  | cons v vs ih =>
    refine ⟨by show ((wipeE ρ vs).set v none).length = ((wipe σ vs).set v none).length; rw [List.length_set, List.length_set]; exact ih.len, fun i d e => ?_⟩
    have e' : ((wipeE ρ vs).set v none)[i]? = some (some d) := e
    show ∃ w, ((wipe σ vs).set v none)[i]? = some (some w) ∧ _
    by_cases h : v = i
    · subst h
      by_cases hv : v < (wipeE ρ vs).length
      · rw [List.getElem?_set_self hv] at e'
        cases e'
      · rw [List.getElem?_eq_none (by simpa using hv)] at e'
        cases e'
    · rw [List.getElem?_set_ne h] at e' ⊢
      exact ih.at_ i d e'
def RdG (g : Gx) (b : Bool) (t : Tg) : TG := fun v σ H Q => ∃ S m ρ d ρ', StRel g S m H ∧ EnvRel g H m S.length ρ σ ∧ EncG b g H m S.length d v ∧ asg t d ρ = some ρ' ∧ ∀ σ', EnvRel g H m S.length ρ' σ' → Same t.vars σ σ' → Q σ' H
def RdGs (g : Gx) (ts : List Tg) : TGs := fun vs σ H Q => ∃ S m ρ ds ρ', StRel g S m H ∧ EnvRel g H m S.length ρ σ ∧ EncAll g H m S.length ds vs ∧ asgs ts ds ρ = some ρ' ∧ ∀ σ', EnvRel g H m S.length ρ' σ' → Same (Tg.varsL ts) σ σ' → Q σ' H
theorem PG.imp {e : Expr} {t t' : TG} (h : PG X e t) (i : ∀ v σ H Q, t' v σ H Q → t v σ H Q) : PG X e t' := ⟨fun pins s σ H v u Q I r q => h.run pins s σ H v u Q I r (i v σ H Q q)⟩
theorem PGs.imp {e : List Expr} {t t' : TGs} (h : PGs X e t) (i : ∀ v σ H Q, t' v σ H Q → t v σ H Q) : PGs X e t' := ⟨fun pins s σ H v u Q I r q => h.run pins s σ H v u Q I r (i v σ H Q q)⟩
theorem PG.iff {e : Expr} {t : TG} (h : ∀ v σ H Q, t v σ H Q → ∃ t', PG X e t' ∧ t' v σ H Q) : PG X e t := ⟨fun pins s σ H v u Q I r q => by
  obtain ⟨t', h1, h2⟩ := h v σ H Q q
  exact h1.run pins s σ H v u Q I r h2⟩
def nameT : Expr → Bool
  | .Name .. => true
  | .Tuple .. => true
  | _ => false
theorem cG_name {N : List Str} {sc : Str → Bool} {e : Expr} {t : Tg} (h : cG N sc e = some t) : nameT e = true := by
  cases e <;> first | rfl | (unfold cG at h; cases h)
theorem assignEach_ok {e : Expr} {es : List Expr} {env : PySem.Env} (h : nameT e = true) : assignEach (e :: es) env = (false, assign e env) :: assignEach es env := by
  cases e <;> first | rfl | cases h
theorem cGs_each {N : List Str} {sc : Str → Bool} {env : PySem.Env} : ∀ {es : List Expr} {ts : List Tg}, cGs N sc es = some ts → (assignEach es env).length = ts.length ∧ (assignEach es env).findIdx? (·.1) = none
  | [], _, h => by
    cases h
    exact ⟨rfl, rfl⟩
  | e :: es, ts, h => by
    unfold cGs at h
    cases h1 : cG N sc e with
    | none =>
      rw [h1] at h
      cases h
    | some t =>
      rw [h1] at h
      cases h2 : cGs N sc es with
      | none =>
        rw [h2] at h
        cases h
      | some ts' =>
        rw [h2] at h
        cases h
        obtain ⟨a, b⟩ := cGs_each (env := env) h2
        rw [assignEach_ok (cG_name h1)]
        refine ⟨by rw [List.length_cons, List.length_cons, a], ?_⟩
        rw [List.findIdx?_cons, b]
        rfl
/-- what a context gives to its text -/
structure Ctx (u : Tb) (sn : Str → Bool) (X : Cx) (W : WX) : Prop where
  nd : X.N.Nodup
  fn : ∀ x, sn x = true → Loc X.env.scope x ∧ (X.fn x = true ∨ X.env.scope.names.lookup x = some .local)
  calm : X.calm = true
  tk : Takes X W
  po : PassesOwn (model X.prog X.w) X.A X.env X.xe
  un : X.A.units + 64 < cLine
theorem idx_some {N : List Str} {x : Str} {i : Nat} (h : N.idxOf? x = some i) : N[i]? = some x := by
  have h2 := List.findIdx?_eq_some_iff_getElem.mp (show N.findIdx? (· == x) = some i from h)
  obtain ⟨hi, e, _⟩ := h2
  rw [List.getElem?_eq_getElem hi]
  have : N[i] = x := by simpa using e
  rw [this]
theorem encG_tup {b : Bool} {g : Gx} {H : Hp} {m : Nat → Addr} {n : Nat} {ds : List D} {v : V} (h : EncG b g H m n (.tup ds) v) : ∃ a vs, v = .ref a ∧ SqT g.K H a vs ∧ EncAll g H m n ds vs := by
  unfold EncG at h
  split at h
  · rcases h with ⟨a, vs, h1, h2, h3⟩ | ⟨es, a, vs, h0, h1, h2, h3⟩
    · exact ⟨a, vs, h1, h2.sq, h3⟩
    · cases h0
      exact ⟨a, vs, h1, h2, h3⟩
  · obtain ⟨a, vs, h1, h2, h3⟩ := h
    exact ⟨a, vs, h1, h2.sq, h3⟩
mutual
theorem pg_ok {sn : Str → Bool} (c : Ctx u sn X W) : ∀ (e : Expr) (t : Tg), cG X.N sn e = some t → ∀ b, (b = true → t.isTup = true) → PG X e (RdG (gof u X) b t)
  | .Name x pos, t, h, b, hb => by
    unfold cG at h
    cases h1 : X.N.idxOf? x with
    | none =>
      rw [h1] at h
      cases h
    | some i =>
      rw [h1] at h
      have h' : (if sn x then some (Tg.v i) else none) = some t := h
      split at h'
      · rename_i hl
        cases h'
        refine PG.imp (pg_name c.nd (idx_some h1) (c.fn x hl).1 (c.fn x hl).2) ?_
        rintro v σ H Q ⟨S, m, ρ, d, ρ', st, en, ed, ea, k⟩
        have hbf : b = false := by
          cases b with
          | false => rfl
          | true => exact absurd (hb rfl) (by simp [Tg.isTup])
        subst hbf
        have ea' : (if i < ρ.length then some (ρ.set i (some d)) else none) = some ρ' := by
          unfold asg at ea
          exact ea
        split at ea'
        · cases ea'
          refine k _ (env_set en ed) ⟨List.length_set, fun j hj => ?_⟩
          have hij : i ≠ j := fun z => hj (by rw [← z]; exact List.mem_singleton.mpr rfl)
          exact List.getElem?_set_ne hij
        · cases ea'
      · cases h'
  | .Tuple es k pos, t, h, b, hb => by
    unfold cG at h
    cases h1 : cGs X.N sn es with
    | none =>
      rw [h1] at h
      cases h
    | some ts =>
      rw [h1] at h
      cases h
      obtain ⟨a1, a2⟩ := cGs_each (env := X.env) h1
      refine PG.imp (pg_tup c.calm (pgs_ok c es ts h1) a1 a2) ?_
      rintro v σ H Q ⟨S, m, ρ, d, ρ', st, en, ed, ea, k⟩
      cases d with
      | tup ds =>
        obtain ⟨a, vs, h2, h3, h4⟩ := encG_tup ed
        have ea' : asgs ts ds ρ = some ρ' := by
          unfold asg at ea
          exact ea
        refine ⟨a, vs, h2, h3, ?_, S, m, ρ, ds, ρ', st, en, h4, ea', k⟩
        rw [h4.length]
        clear k hb en h4 h3 h2 ed st a1 a2 h1 ea
        induction ts generalizing ds ρ with
        | nil =>
          cases ds with
          | nil => rfl
          | cons d ds => unfold asgs at ea'; cases ea'
        | cons t ts ih =>
          cases ds with
          | nil => unfold asgs at ea'; cases ea'
          | cons d ds =>
            unfold asgs at ea'
            cases e1 : asg t d ρ with
            | none =>
              rw [e1] at ea'
              cases ea'
            | some ρ1 =>
              rw [e1] at ea'
              rw [List.length_cons, List.length_cons, ih _ _ ea']
      | _ => unfold asg at ea; cases ea
  | .BoolOp .., _, h, _, _ => by unfold cG at h; cases h
  | .NamedExpr .., _, h, _, _ => by unfold cG at h; cases h
  | .BinOp .., _, h, _, _ => by unfold cG at h; cases h
  | .UnaryOp .., _, h, _, _ => by unfold cG at h; cases h
  | .Lambda .., _, h, _, _ => by unfold cG at h; cases h
  | .IfExp .., _, h, _, _ => by unfold cG at h; cases h
  | .Dict .., _, h, _, _ => by unfold cG at h; cases h
  | .Set .., _, h, _, _ => by unfold cG at h; cases h
  | .ListComp .., _, h, _, _ => by unfold cG at h; cases h
  | .SetComp .., _, h, _, _ => by unfold cG at h; cases h
  | .DictComp .., _, h, _, _ => by unfold cG at h; cases h
  | .GeneratorExp .., _, h, _, _ => by unfold cG at h; cases h
  | .Await .., _, h, _, _ => by unfold cG at h; cases h
  | .Yield .., _, h, _, _ => by unfold cG at h; cases h
  | .YieldFrom .., _, h, _, _ => by unfold cG at h; cases h
  | .Compare .., _, h, _, _ => by unfold cG at h; cases h
  | .Call .., _, h, _, _ => by unfold cG at h; cases h
  | .FormattedValue .., _, h, _, _ => by unfold cG at h; cases h
  | .JoinedStr .., _, h, _, _ => by unfold cG at h; cases h
  | .Constant .., _, h, _, _ => by unfold cG at h; cases h
  | .Attribute .., _, h, _, _ => by unfold cG at h; cases h
  | .Subscript .., _, h, _, _ => by unfold cG at h; cases h
  | .Starred .., _, h, _, _ => by unfold cG at h; cases h
  | .List .., _, h, _, _ => by unfold cG at h; cases h
  | .Slice .., _, h, _, _ => by unfold cG at h; cases h
theorem pgs_ok {sn : Str → Bool} (c : Ctx u sn X W) : ∀ (es : List Expr) (ts : List Tg), cGs X.N sn es = some ts → PGs X es (RdGs (gof u X) ts)
  | [], ts, h => by
    cases h
    refine PGs.imp pgs_nil ?_
    rintro vs σ H Q ⟨S, m, ρ, ds, ρ', st, en, ed, ea, k⟩
    cases ds with
    | nil =>
      have e1 : vs = [] := ed
      have e2 : some ρ = some ρ' := by
        unfold asgs at ea
        exact ea
      cases e2
      exact ⟨e1, k σ en ⟨rfl, fun _ _ => rfl⟩⟩
    | cons d ds => unfold asgs at ea; cases ea
  | e :: es, ts, h => by
    unfold cGs at h
    cases h1 : cG X.N sn e with
    | none =>
      rw [h1] at h
      cases h
    | some t =>
      rw [h1] at h
      cases h2 : cGs X.N sn es with
      | none =>
        rw [h2] at h
        cases h
      | some ts' =>
        rw [h2] at h
        cases h
        refine PGs.imp (pgs_cons (pg_ok c e t h1 false (fun z => by cases z)) (pgs_ok c es ts' h2) (by rw [assignEach_ok (cG_name h1)]; rfl)) ?_
        rintro vs σ H Q ⟨S, m, ρ, ds, ρ', st, en, ed, ea, k⟩
        cases ds with
        | nil => unfold asgs at ea; cases ea
        | cons d ds =>
          obtain ⟨v, r, e1, h3, h4⟩ := ed
          unfold asgs at ea
          cases e2 : asg t d ρ with
          | none =>
            rw [e2] at ea
            cases ea
          | some ρ1 =>
            rw [e2] at ea
            exact ⟨v, r, e1, S, m, ρ, d, ρ1, st, en, h3, e2, fun σ1 en1 s1 => ⟨S, m, ρ1, ds, ρ', st, en1, h4, ea, fun σ2 en2 s2 => k σ2 en2 (s1.trans s2)⟩⟩
end
end
end Ev
-- EvS10
set_option Elab.async false
set_option linter.all false
set_option maxRecDepth 100000
set_option maxHeartbeats 4000000
/-! EvS10: simple statements. -/
namespace Ev
open PySem PySem.Spec PyProof.Rows L2
/-- what is wanted behind a statement -/
def KF (g : Gx) (H : Hp) (De : Ends) (σ' : L2.St) (S' : Store) (m' : Nat → Addr) (H' : Hp) : Fl → Prop
  | .nx => De.nx σ' H'
  | .bk => De.bk σ' H'
  | .ct => De.ct σ' H'
  | .rt t => ∀ v, FreT H t v → EncT g H' m' S'.length t v → De.rt v H'
def PostS (g : Gx) (W : WX) (S : Store) (m : Nat → Addr) (H : Hp) (De : Ends) : SR → Prop
  | .ok f ρ' S' => ∀ m' H' σ', Ext g S m H S' m' H' → StRel g S' m' H' → EnvRel g H' m' S'.length ρ' σ' → KF g H De σ' S' m' H' f
  | .exc x ρ' S' => ∀ m' H' σ' cls, Ext g S m H S' m' H' → StRel g S' m' H' → EnvRel g H' m' S'.length ρ' σ' → x.cls ∈ g.exc → g.mg x.cls = some cls → W cls none σ' H'
  | .bad => False
def RdS (g : Gx) (W : WX) (f : Env → Store → SR) : TS := fun De σ H => ∃ S m ρ, StRel g S m H ∧ EnvRel g H m S.length ρ σ ∧ PostS g W S m H De (f ρ S)
section
variable {X : Cx} {u : Tb} {W : WX} {g : Gx} {S S1 : Store} {m m1 : Nat → Addr} {H H1 : Hp} {De : Ends} {ρ : Env} {σ : L2.St}
theorem KF.back {S' : Store} {m' : Nat → Addr} {H' : Hp} {σ' : L2.St} (x : Ext g S m H S1 m1 H1) {f : Fl} (k : KF g H De σ' S' m' H' f) : KF g H1 De σ' S' m' H' f := by
  cases f with
  | rt t => exact fun v fr en => k v (FreT.back x fr) en
  | _ => exact k
theorem PostS.rebase {r : SR} (x : Ext g S m H S1 m1 H1) (p : PostS g W S m H De r) : PostS g W S1 m1 H1 De r := by
  cases r with
  | ok f ρ' S' => exact fun m' H' σ' y s e => KF.back x (p m' H' σ' (x.trans y) s e)
  | exc e ρ' S' => exact fun m' H' σ' c y s e => p m' H' σ' c (x.trans y) s e
  | bad => exact p
theorem PostS.thenS {α : Type} {r : R α} {f : α → Store → SR} (en : EnvRel g H m S.length ρ σ) (p : PostS g W S m H De (thenS r ρ f)) : Post g W S m H σ (fun a S1 m1 H1 => PostS g W S1 m1 H1 De (f a S1)) r := by
  cases r with
  | ok a S' => exact fun m' H' x s => PostS.rebase x p
  | exc e S' => exact fun m' H' c x s q1 q2 => p m' H' σ c x s (x.env en) q1 q2
  | bad => exact p
theorem PostS.thenK {α : Type} {r : R α} {f : α → Store → SR} (en : EnvRel g H m S.length ρ σ) (p : PostS g W S m H De (Ev.thenS r ρ f)) : Post g W S m H σ (fun a S1 _ _ => PostS g W S m H De (f a S1)) r := by
  cases r with
  | ok a S' => exact fun _ _ _ _ => p
  | exc e S' => exact fun m' H' c x s q1 q2 => p m' H' σ c x s (x.env en) q1 q2
  | bad => exact p
theorem PostS.here {f : Fl} (st : StRel g S m H) (en : EnvRel g H m S.length ρ σ) (p : PostS g W S m H De (.ok f ρ S)) : KF g H De σ S m H f := p m H σ Ext.refl st en
/-! ### rows of statements -/
theorem pss_n : PSs X [] (RdS (gof u X) W fun ρ S => .ok .nx ρ S) := by
  refine PSs.imp pss_nil ?_
  rintro De σ H ⟨S, m, ρ, st, en, p⟩
  exact PostS.here st en p
theorem pss_c {st : Stmt} {sts : List Stmt} {f g' : Env → Store → SR} (h1 : PS X st (RdS (gof u X) W f)) (h2 : PSs X sts (RdS (gof u X) W g')) : PSs X (st :: sts) (RdS (gof u X) W fun ρ S => seqS (f ρ S) g') := by
  refine PSs.imp (pss_cons h1 h2) ?_
  rintro De σ H ⟨S, m, ρ, st, en, p⟩
  refine ⟨S, m, ρ, st, en, ?_⟩
  have p' : PostS (gof u X) W S m H De (seqS (f ρ S) g') := p
  revert p'
  generalize f ρ S = r
  intro p'
  cases r with
  | ok fl ρ1 S1 =>
    cases fl with
    | nx => exact fun m' H' σ' x s e => ⟨S1, m', ρ1, s, e, PostS.rebase x p'⟩
    | bk => exact p'
    | ct => exact p'
    | rt t => exact p'
  | exc e ρ1 S1 => exact p'
  | bad => exact p'
variable {pos : Pos}
theorem ps_pa : PS X (.Pass pos) (RdS (gof u X) W fun ρ S => .ok .nx ρ S) := by
  refine PS.imp ps_pass ?_
  rintro De σ H ⟨S, m, ρ, st, en, p⟩
  exact PostS.here st en p
theorem ps_bk : PS X (.Break pos) (RdS (gof u X) W fun ρ S => .ok .bk ρ S) := by
  refine PS.imp ps_break ?_
  rintro De σ H ⟨S, m, ρ, st, en, p⟩
  exact PostS.here st en p
theorem ps_ct : PS X (.Continue pos) (RdS (gof u X) W fun ρ S => .ok .ct ρ S) := by
  refine PS.imp ps_continue ?_
  rintro De σ H ⟨S, m, ρ, st, en, p⟩
  exact PostS.here st en p
theorem ps_rn : PS X (.Return none pos) (RdS (gof u X) W fun ρ S => .ok (.rt (.v .non)) ρ S) := by
  refine PS.imp ps_retN ?_
  rintro De σ H ⟨S, m, ρ, st, en, p⟩
  exact PostS.here st en p _ trivial rfl
theorem ps_rt {e : Expr} {E : Env → Store → R T} (h : PE X e (RdE (gof u X) W E)) : PS X (.Return (some e) pos) (RdS (gof u X) W fun ρ S => thenS (E ρ S) ρ fun t S1 => .ok (.rt t) ρ S1) := by
  refine PS.imp (ps_ret h) ?_
  rintro De σ H ⟨S, m, ρ, st, en, p⟩
  exact ⟨S, m, ρ, st, en, (PostS.thenK en p).mono fun t S1 m1 H1 x1 st1 p1 v fv ev => p1 m1 H1 σ x1 st1 (x1.env en) v fv ev⟩
theorem ps_ite {c : Expr} {a b : List Stmt} {B : Env → Store → R Bool} {f g' : Env → Store → SR} (hc : PT X c (RdB (gof u X) W B)) (ha : PSs X a (RdS (gof u X) W f)) (hb : PSs X b (RdS (gof u X) W g')) :
    PS X (.If c a b pos) (RdS (gof u X) W fun ρ S => thenS (B ρ S) ρ fun k S1 => if k then f ρ S1 else g' ρ S1) := by
  refine PS.imp (ps_if hc ha hb) ?_
  rintro De σ H ⟨S, m, ρ, st, en, p⟩
  refine ⟨S, m, ρ, st, en, (PostS.thenS en p).mono fun k S1 m1 H1 x1 st1 p1 => ?_⟩
  cases k with
  | true => exact ⟨S1, m1, ρ, st1, x1.env en, p1⟩
  | false => exact ⟨S1, m1, ρ, st1, x1.env en, p1⟩
def noComp : Expr → Bool
  | .ListComp .. => false
  | .SetComp .. => false
  | .DictComp .. => false
  | _ => true
theorem noComp_ok {e : Expr} {t : Option Expr} {l : Nat} {env : PySem.Env} (h : noComp e = true) : swapsWith e t l env = pure false := by
  cases e <;> first | rfl | cases h
theorem ps_ex {e : Expr} {E : Env → Store → R T} (hn : noComp e = true) (h : PE X e (RdE (gof u X) W E)) : PS X (.Expr e pos) (RdS (gof u X) W fun ρ S => thenS (E ρ S) ρ fun _ S1 => .ok .nx ρ S1) := by
  refine PS.imp (ps_expr h (noComp_ok hn)) ?_
  rintro De σ H ⟨S, m, ρ, st, en, p⟩
  exact ⟨S, m, ρ, st, en, (PostS.thenS en p).mono fun t S1 m1 H1 x1 st1 p1 v fv ev => PostS.here st1 (x1.env en) p1⟩
/-! ### stores -/
def noTup : Expr → Bool
  | .Tuple .. => false
  | _ => true
def noTL : Expr → Bool
  | .Tuple .. => false
  | .List .. => false
  | _ => true
theorem sw_none1 {tg e : Expr} {env : PySem.Env} (h : noTL tg = true) : swappedStores [tg] e env = pure none := by
  cases tg <;> first | rfl | cases h
theorem sw_none2 {tg e : Expr} {env : PySem.Env} (h : noTup e = true) : swappedStores [tg] e env = pure none := by
  cases tg <;> first | rfl | (cases e <;> first | rfl | cases h)
/-- a tuple of targets one of which is no local name -/
def someCell (sc : Scope) : Expr → Bool
  | .Tuple ts _ _ => ts.any fun t => match t with
    | .Name x _ => !decide (sc.names.lookup x = some .local)
    | _ => true
  | _ => false
theorem filterMap_lt {α β : Type} {f : α → Option β} : ∀ {l : List α} {a : α}, a ∈ l → f a = none → (l.filterMap f).length < l.length
  | b :: l, a, h, e => by
    rcases List.mem_cons.mp h with z | z
    · subst z
      rw [List.filterMap_cons, e]
      exact Nat.lt_succ_of_le (List.length_filterMap_le _ _)
    · have ih := filterMap_lt z e
      rw [List.filterMap_cons]
      cases f b with
      | none => exact Nat.lt_succ_of_lt ih
      | some c => exact Nat.succ_lt_succ ih
theorem sw_none3 {tg e : Expr} {env : PySem.Env} (h : someCell env.scope tg = true) : swappedStores [tg] e env = pure none := by
  cases tg with
  | Tuple ts k p =>
    cases e with
    | Tuple vs k2 p2 =>
      obtain ⟨t, ht, hq⟩ := List.any_eq_true.mp (show (ts.any fun t => match t with | .Name x _ => !decide (env.scope.names.lookup x = some .local) | _ => true) = true from h)
      unfold swappedStores
      dsimp only
      have hl : (ts.filterMap fun t => match t with
        | .Name id pos => if env.kindOf id == some .local && pos.line == (ts.head?.map (·.pos.line)).getD 0 then some id else none
        | _ => none).length < ts.length := filterMap_lt ht (by
          cases t with
          | Name x q =>
            have hq' : (!decide (env.scope.names.lookup x = some .local)) = true := hq
            rw [Bool.not_eq_true', decide_eq_false_iff_not] at hq'
            show (if env.kindOf x == some .local && q.line == (ts.head?.map (·.pos.line)).getD 0 then some x else none) = none
            rw [if_neg]
            intro z
            rw [Bool.and_eq_true] at z
            exact hq' (eq_of_beq z.1)
          | _ => rfl)
      split
      · rfl
      split
      · rfl
      split
      · rfl
      rename_i hz
      exfalso
      apply hz
      rw [Bool.or_eq_true]
      left
      rw [bne_iff_ne]
      exact Nat.ne_of_lt hl
    | _ => rfl
  | _ => cases h
theorem each1 {tg : Expr} {env : PySem.Env} (h : noStar tg = true) : (assignEach [tg] env).map (·.2) = [assign tg env] := by
  cases tg <;> first | rfl | cases h
theorem matR {r : R T} {f : D → Store → SR} : thenS (r.bind mat) ρ f = thenS r ρ fun t S1 => thenS (mat t S1) ρ f := by
  cases r <;> rfl
theorem ps_asT {sn : Str → Bool} (c : Ctx u sn X W) {tg e : Expr} {t : Tg} {E : Env → Store → R T} (hn : noComp e = true) (hw : (noTL tg = true ∨ noTup e = true) ∨ someCell X.env.scope tg = true) (ht : cG X.N sn tg = some t) (h : PE X e (RdE (gof u X) W E)) :
    PS X (.Assign [tg] e pos) (RdS (gof u X) W fun ρ S => thenS ((E ρ S).bind mat) ρ fun d S1 => (match asg t d ρ with | some ρ' => .ok .nx ρ' S1 | none => .bad)) := by
  have hst : noStar tg = true := by
    have := cG_name ht
    cases tg <;> first | rfl | cases this
  refine PS.imp (ps_asg h (pg_ok c tg t ht false (fun z => by cases z)) (noComp_ok hn) (hw.elim (fun z => z.elim sw_none1 sw_none2) sw_none3) (each1 hst)) ?_
  rintro De σ H ⟨S, m, ρ, st, en, p⟩
  refine ⟨S, m, ρ, st, en, (PostS.thenS en p).mat.mono fun t1 S1 m1 H1 x1 st1 p1 v fv ev => ?_⟩
  obtain ⟨d, S2, m2, x2, st2, ed, p2⟩ := p1 v fv ev
  split at p2
  · rename_i ρ' ea
    exact ⟨S2, m2, ρ, d, ρ', st2, x2.env en, ed, ea, fun σ' en' _ => PostS.here st2 en' p2⟩
  · exact p2.elim
theorem ps_se (hu : X.A.units + 64 < cLine) {o i e : Expr} {Eo Ei E : Env → Store → R T} {tpos : Pos} (hn : noComp e = true) (hi : plainI i = true) (ho : PE X o (RdE (gof u X) W Eo)) (hix : PE X i (RdE (gof u X) W Ei)) (he : PE X e (RdE (gof u X) W E)) :
    PS X (.Assign [.Subscript o i tpos] e pos) (RdS (gof u X) W fun ρ S => thenS ((E ρ S).bind mat) ρ fun d S1 => thenS ((Eo ρ S1).bind fun to S2 => (Ei ρ S2).bind fun ti S3 => optS (setF to ti d S3)) ρ fun _ S4 => .ok .nx ρ S4) := by
  have ha : ∀ v, assign (.Subscript o i tpos) X.env v = (do
      let ov ← holding [v] (eval o X.env)
      let iv ← holding [v, ov] (eval i X.env)
      standAt tpos
      holding [v, ov, iv] (setItem ov iv v)
      release [v, ov, iv] []) := by
    intro v
    cases i <;> first | rfl | cases hi
  refine PS.imp (ps_asg (pos := pos) he (pg_sub ho hix (set_E (u := u) hu) ha) (noComp_ok (t := some (.Subscript o i tpos)) (l := pos.line) (env := X.env) hn) (sw_none1 rfl) rfl) ?_
  rintro De σ H ⟨S, m, ρ, st, en, p⟩
  refine ⟨S, m, ρ, st, en, (PostS.thenS en p).mat.mono fun t1 S1 m1 H1 x1 st1 p1 v fv ev => ?_⟩
  obtain ⟨d, S2, m2, x2, st2, ed, p2⟩ := p1 v fv ev
  have en2 := x2.env en
  refine sub st2 en2 ((PostS.thenS en2 p2).bind.mono fun to S3 m3 H3 x3 st3 p3 ov fo eo => ?_)
  refine ⟨S3, m3, ρ, st3, x3.env en2, p3.bind.mono fun ti S4 m4 H4 x4 st4 p4 iv fi ei => ?_⟩
  cases e5 : setF to ti d S4 with
  | none =>
    rw [e5] at p4
    exact p4.elim
  | some S5 =>
    rw [e5] at p4
    exact ⟨S4, m4, to, ti, d, S5, st4, x4.encT st3 eo, ei, (x3.trans x4).enc ed, e5, fun m' H' y s => PostS.here s ((x3.trans x4).trans y |>.env en2) (p4 m' H' y s)⟩
theorem aug2_ok {g : Gx} {o : Op2} {d d' : D} {t : T} {H : Hp} {m : Nat → Addr} {n : Nat} {x y : V} {Q : VK} (e : aug2 o (.v d) t = some d') (ed : Enc g H m n d x) (et : EncT g H m n t y) (q : ∀ v, Enc g H m n d' v → Q v H) : rBinI o x y H Q := by
  unfold aug2 at e
  split at e
  · rename_i i j e0
    cases e1 : binI o i j with
    | none =>
      rw [e1] at e
      cases e
    | some k =>
      rw [e1] at e
      cases e
      injection e0 with e3
      subst e3
      exact ⟨i, j, k, ed, et, e1, q _ rfl⟩
  · cases e
theorem ps_au {sn : Str → Bool} (c : Ctx u sn X W) {i : Nat} {x : Str} {e : Expr} {o : Op2} {E : Env → Store → R T} {pos' : Pos} (ho : o ≠ .pow) (hi : X.N[i]? = some x) (hx : sn x = true) (he : PE X e (RdE (gof u X) W E)) :
    PS X (.AugAssign (.Name x pos') (pyOp o) e pos) (RdS (gof u X) W fun ρ S => (match ρ[i]? with
    | some (some d) => thenS ((E ρ S).bind fun t S1 => opt (aug2 o (.v d) t) S1) ρ fun d' S1 => .ok .nx (ρ.set i (some d')) S1
    | _ => .bad)) := by
  have hp : PIp X (pyOp o) (rBinI o) := fun pins s σ H x y v u Q I r1 r2 h => iop_binI o ho pins s σ H x y v u Q I r1 r2 h
  refine PS.imp (ps_aug c.nd hi (c.fn x hx).1 he hp (c.fn x hx).2) ?_
  rintro De σ H ⟨S, m, ρ, st, en, p⟩
  dsimp only at p
  split at p
  · rename_i d ed
    obtain ⟨v, ev, hv⟩ := en.at_ i d ed
    refine ⟨v, ev, S, m, ρ, st, en, (PostS.thenS en p).bind.mono fun t S1 m1 H1 x1 st1 p1 w fw ew => ?_⟩
    obtain ⟨d', e', q⟩ := p1.opt
    exact aug2_ok e' (x1.enc hv) ew fun z hz => PostS.here st1 (env_set (x1.env en) hz) (q m1 H1 Ext.refl st1)
  · exact p.elim
def rGetE (g : Gx) : V → V → Hp → VK → Prop := fun x y H Q => ∃ S m ta tb t, StRel g S m H ∧ EncT g H m S.length ta x ∧ EncT g H m S.length tb y ∧ getF ta tb S = some t ∧ ∀ v, FreT H t v → EncT g H m S.length t v → Q v H
theorem get_E : PGet X (rGetE (gof u X)) := by
  rintro pins s σ H o i ov iv Q I r1 r2 ⟨S, m, ta, tb, t, st, ea, eb, e, k⟩
  unfold getF at e
  split at e
  · rename_i j
    split at e
    · rename_i xs q1
      cases e1 : ixAt xs j with
      | none =>
        rw [e1] at e
        cases e
      | some d =>
        rw [e1] at e
        cases e
        obtain ⟨p, vs, h1, h2, h3⟩ := asQ_ok st ea q1
        obtain ⟨z, h4, h5⟩ := atI_enc h3 e1
        have h6 : i = .int j := eb
        have q := k z trivial h5
        subst h1 h6
        have r1' : ov = Value.ref p := r1
        subst r1'
        obtain ⟨t0, rfl⟩ := r2
        obtain ⟨jj, g1, g2, g3, g4, g5⟩ := atI_get h4
        have hn := line63
        rcases h2 with h2 | ⟨h2, _⟩
        · obtain ⟨its, r, pl, hz⟩ := I.list h2
          obtain ⟨w, ew, rw'⟩ := r.get g2
          have hl := r.length
          have fin : EP X pins σ Q w s := ⟨z, H, I, rw', q⟩
          by_cases h0 : 0 ≤ j
          · have hj : j.toNat = jj := by
              rw [seqIndex_of h0 g5] at g1
              exact Option.some.inj g1
            exact wpAny_getItem_list pl.isList h0 (by omega) (by rw [hj]; simpa using ew) fin
          · have hj : (j + (its.toArray.size : Int)).toNat = jj := by
              rw [seqIndex_neg (by omega) g4] at g1
              rw [List.size_toArray, ← hl]
              exact Option.some.inj g1
            exact wpAny_getItem_list_neg pl.isList (by omega) (by rw [List.size_toArray] <;> omega) (by omega) (by rw [hj]; simpa using ew) fin
        · obtain ⟨its, r, pl, hz⟩ := I.tuple h2.sq
          obtain ⟨w, ew, rw'⟩ := r.get g2
          have hl := r.length
          have fin : EP X pins σ Q w s := ⟨z, H, I, rw', q⟩
          exact getItem_tuple (j := jj) pl (by omega) (by omega) (by rw [List.size_toArray, ← hl]; exact g1) (by simpa using ew) fin
    · cases e
  · cases e
theorem ps_aui (hu : X.A.units + 64 < cLine) {o i e : Expr} {op : Op2} {Eo Ei E : Env → Store → R T} {tpos : Pos} (hop : op ≠ .pow) (hi : plainI i = true) (ho : PE X o (RdE (gof u X) W Eo)) (hix : PE X i (RdE (gof u X) W Ei)) (he : PE X e (RdE (gof u X) W E)) :
    PS X (.AugAssign (.Subscript o i tpos) (pyOp op) e pos) (RdS (gof u X) W fun ρ S => thenS ((Eo ρ S).bind fun to S1 => (Ei ρ S1).bind fun ti S2 => (opt (getF to ti S2) S2).bind fun told S3 => (E ρ S3).bind fun t S4 =>
        (opt (aug2 op told t) S4).bind fun d' S5 => optS (setF to ti d' S5)) ρ fun _ S6 => .ok .nx ρ S6) := by
  have hp : PIp X (pyOp op) (rBinI op) := fun pins s σ H x y v u Q I r1 r2 h => iop_binI op hop pins s σ H x y v u Q I r1 r2 h
  have ha : ∀ ov iv new, augStore i ov iv new = (do holding [new, ov, iv] (setItem ov iv new); release [new, ov, iv] []; pure .next) := by
    intro ov iv new
    cases i <;> first | rfl | cases hi
  refine PS.imp (ps_augS ho hix (get_E (u := u)) he hp (set_E (u := u) hu) ha) ?_
  rintro De σ H ⟨S, m, ρ, st, en, p⟩
  refine sub st en ((PostS.thenS en p).bind.mono fun to S1 m1 H1 x1 st1 p1 ov fo eo => ?_)
  have en1 := x1.env en
  refine ⟨S1, m1, ρ, st1, en1, p1.bind.mono fun ti S2 m2 H2 x2 st2 p2 iv fi ei => ?_⟩
  have en2 := x2.env en1
  obtain ⟨told, e2, p3⟩ := p2.bind.opt
  have p4 := p3 m2 H2 Ext.refl st2
  refine ⟨S2, m2, to, ti, told, st2, x2.encT st1 eo, ei, e2, fun vold fold eold => ?_⟩
  refine sub st2 en2 (p4.bind.mono fun t S4 m4 H4 x4 st4 p5 v fv ev => ?_)
  obtain ⟨d', e5, p6⟩ := p5.bind.opt
  have p7 := p6 m4 H4 Ext.refl st4
  cases e6 : setF to ti d' S4 with
  | none =>
    rw [e6] at p7
    exact p7.elim
  | some S5 =>
    rw [e6] at p7
    have hx : ∀ dd, told = .v dd → rBinI op vold v H4 fun z H5 => ∃ S m to ti d S', StRel (gof u X) S m H5 ∧ EncT (gof u X) H5 m S.length to ov ∧ EncT (gof u X) H5 m S.length ti iv ∧ Enc (gof u X) H5 m S.length d z ∧ setF to ti d S = some S' ∧
        ∀ m' H', Ext (gof u X) S m H5 S' m' H' → StRel (gof u X) S' m' H' → De.nx σ H' := fun dd et => by
      subst et
      exact aug2_ok e5 (x4.enc eold) ev fun z hz => ⟨S4, m4, to, ti, d', S5, st4, (x2.trans x4).encT st1 eo, x4.encT st2 ei, hz, e6, fun m' H' y s => PostS.here s ((x4.trans y).env en2) (p7 m' H' y s)⟩
    cases told with
    | v dd => exact hx dd rfl
    | l xs => cases e5
    | t xs => cases e5
/-- o.append(e) -/
theorem ps_ap {o e1 : Expr} {so s1 : Sm} {apos cpos : Pos} (ho : PE X o (RdE (gof u X) W so.E)) (h1 : PE X e1 (RdE (gof u X) W s1.E)) (hs : noStar e1 = true)
    (hbase : attributeBase o "append" X.env (eval o X.env) = eval o X.env) (hline : (apos.endLine == cpos.line) = true) :
    PS X (.Expr (.Call (.Attribute o "append" apos) [e1] [] cpos) pos) (RdS (gof u X) W fun ρ S => thenS ((so.E ρ S).bind fun t S1 => if rcv .append t S1 then (evM [s1] ρ S1).bind fun ds S2 => meF .append t (ds.map .v) S2 else .bad) ρ fun _ S1 => .ok .nx ρ S1) :=
  ps_ex rfl (pe_ap ho h1 hs hbase hline)
/-- a, b = x, y -/
theorem ps_pr {sn : Str → Bool} (c : Ctx u sn X W) {i j : Nat} {x y : Str} {a b : Expr} {sa sb : Sm} {px py pt : Pos} {kt k2 : Nat} {pt2 : Pos} (hi : X.N[i]? = some x) (hj : X.N[j]? = some y) (hij : i ≠ j) (hx : X.env.scope.names.lookup x = some .local) (hy : X.env.scope.names.lookup y = some .local)
    (hna : noStar a = true) (hnb : noStar b = true) (ha : PE X a (RdE (gof u X) W sa.E)) (hb : PE X b (RdE (gof u X) W sb.E)) (hw : swappedStores [.Tuple [.Name x px, .Name y py] kt pt] (.Tuple [a, b] k2 pt2) X.env = pure (some [x, y])) :
    PS X (.Assign [.Tuple [.Name x px, .Name y py] kt pt] (.Tuple [a, b] k2 pt2) pos) (RdS (gof u X) W fun ρ S => thenS (evM [sa, sb] ρ S) ρ fun ds S1 => (match ds with
    | [x, y] => if i < ρ.length ∧ j < ρ.length then .ok .nx ((ρ.set i (some x)).set j (some y)) S1 else .bad
    | _ => .bad)) := by
  refine PS.imp (ps_par c.calm c.nd hi hj hij hx hy (pa_m1 hna ha (pa_m1 hnb hb pa_m0)) hw) ?_
  rintro De σ H ⟨S, m, ρ, st, en, p⟩
  refine ⟨S, m, ρ, st, en, (PostS.thenS en p).mono fun ds S1 m1 H1 x1 st1 p1 vs hvs => ?_⟩
  split at p1
  · rename_i d1 d2
    obtain ⟨v1, r1, e1, h1, h2⟩ := hvs
    obtain ⟨v2, r2, e2, h3, h4⟩ := h2
    have e3 : r2 = [] := h4
    subst e1 e2 e3
    split at p1
    · exact ⟨v1, v2, rfl, PostS.here st1 (env_set (env_set (x1.env en) h1) h3) p1⟩
    · exact p1.elim
  · exact p1.elim
end
end Ev
-- EvS11
set_option Elab.async false
set_option linter.all false
set_option maxRecDepth 100000
set_option maxHeartbeats 4000000
/-! EvS11: what is walked. -/
namespace PySem
theorem meets_enumerate_new1 {v : Value} {o : Obj} {H : Heap → Prop} (B : Begins v o H) :
    Meets (Builtin.«enumerate.__new__» ⟨[.type "enumerate", v], []⟩) (fun _ R s => H s.heap ∧
      R (.ok (.ret (.ref (s.heap.push o).objs.size))) { s with heap := (s.heap.push o).push { cls := .type "enumerate", data := .fields #[.none, .bool false, .ref s.heap.objs.size, rawInt 0, .none, .none] } }) :=
  .of_wp fun prog w A R s h => by
    obtain ⟨hp, g, d, tk, os⟩ := s; obtain ⟨h1, h⟩ := h
    have hsub := sub_enumerate
    have q1 : ∀ {A' : Around} {E : Value → Shared → Prop} {Q : Value → Shared → Prop}, Q (.ref hp.objs.size) ⟨hp.push o, g, d, tk, os⟩ → wpAny (model prog w) A' (pyIter v) Q E ⟨hp, g, d, tk, os⟩ :=
      fun q => B.iter prog w _ _ ⟨hp, g, d, tk, os⟩ _ h1 q
    wp_walk using q1
    refine wpAny_stack_any fun st => wpAny_pure ?_
    split
    · rename_i c _ _ _ _ _
      cases (c == Value.type "enumerate")
      · wp_walk using q1
        exact ⟨_, rfl, h⟩
      · wp_walk using q1
        exact ⟨_, rfl, h⟩
    · wp_walk using q1
      exact ⟨_, rfl, h⟩
section
variable {prog : Program} {w : World} {A : Around} {E : Value → Shared → Prop} {s : Shared}
theorem enum_begins1 {v : Value} {o : Obj} {H : Heap → Prop} {Q : Value → Shared → Prop} (B : Begins v o H) (h1 : H s.heap)
    (h : ∀ h', IsEnum h' (s.heap.objs.size + 1) s.heap.objs.size 0 .none → h'.get? s.heap.objs.size = some o → h'.objs.size = s.heap.objs.size + 2 →
      (∀ b o, s.heap.get? b = some o → h'.get? b = some o) → Q (.ref (s.heap.objs.size + 1)) { s with heap := h' }) :
    wpAny (model prog w) A (call (.type "enumerate") [v]) Q E s := by
  refine callType_new F.called_enumerate (by decide) (F.typeCall_enumerate_1 _) (F.newCall_enumerate_1 _) (fun obj => F.args_object_init_2 obj _) F.entry_enumerate_new
    (meets_enumerate_new1 B) ⟨h1, ?_⟩
  have hz : (s.heap.push o).objs.size = s.heap.objs.size + 1 := Heap.size_push ..
  show _ ∧ _
  rw [hz]
  have he : IsEnum ((s.heap.push o).push { cls := .type "enumerate", data := .fields #[.none, .bool false, .ref s.heap.objs.size, rawInt 0, .none, .none] }) (s.heap.objs.size + 1) s.heap.objs.size 0 .none := by
    have := Heap.get?_push_size (s.heap.push o) (o := { cls := .type "enumerate", data := .fields #[.none, .bool false, .ref s.heap.objs.size, rawInt 0, .none, .none] }) rfl
    rw [hz] at this; exact this
  refine ⟨⟨_, he, rfl⟩, h _ he (Heap.get?_push_of_some _ (Heap.get?_push_size _ B.free)) (by rw [Heap.size_push, hz]) fun b o x => Heap.get?_push_of_some _ (Heap.get?_push_of_some _ x)⟩
end
end PySem
namespace Ev
open PySem PySem.Spec PyProof.Rows L2
section
variable {P : Program} {w : World} {K : PySem.W.Frag}
/-! ### enumerate over a tuple -/
def IteT (K : PySem.W.Frag) (a : Addr) : It :=
  ⟨fun i H => ∃ (xs : List V) (x : V), SqT K H a xs ∧ xs[i]? = some x, fun i H v H' => ∃ T x, v = .ref T ∧ H T = none ∧ H' = upd H T (.tup [.int (i : Nat), x]) ∧ ∀ xs, SqT K H a xs → xs[i]? = some x, fun i H => ∃ xs : List V, SqT K H a xs ∧ xs.length = i⟩
theorem turn_enumT {elts : List Expr} {kk : Nat} {tpos : Pos} (a e it : Addr) :
    Turn P w K (.Tuple elts kk tpos) (IteT K a) [e, it] e (fun i h => (∃ old, IsEnum h e it ((i : Nat) : Int) old) ∧ h.IsTupleIter it a i ∧ e ≠ it ∧ a ≠ it ∧ a ≠ e) where
  mem := by simp
  obj := fun i h st b hb => by
    obtain ⟨⟨old, he⟩, ⟨o, ho, hc, hd⟩, _⟩ := st
    have e' : b = e ∨ b = it := by simpa using hb
    rcases e' with z | z
    · rw [z]; exact ⟨_, he, fun v q => nomatch q⟩
    · rw [z]; exact ⟨o, ho, fun v q => by rw [hd] at q; cases q⟩
  keep := fun i h h' st k => let ⟨⟨old, he⟩, hi, hne⟩ := st; ⟨⟨old, k e (by simp) _ he⟩, hi.at fun o q => k it (by simp) o q, hne⟩
  item := by
    intro X hP hw hK hc i pins s σ H E I hf st hg
    subst hP hw hK
    obtain ⟨⟨old, he⟩, hit, hne, hai, hae⟩ := st
    obtain ⟨xs, x, hq, hx⟩ := hg
    obtain ⟨its, rv, p, hz⟩ := I.tuple hq
    obtain ⟨u, hu, ru⟩ := rv.get hx
    have hel : e < s.heap.objs.size := Heap.lt_size he
    have hil : it < s.heap.objs.size := by obtain ⟨_, q, _⟩ := hit; exact Heap.lt_size q
    have hlt : i < its.toArray.size := by
      rw [List.size_toArray]
      exact (List.getElem?_eq_some_iff.mp hu).1
    refine wpAny_pyNext_enum_itemC (Draws.tuple (prog := X.prog) (w := X.w) (A := X.A.in1) (I.ok.hd hc) it a hai its.toArray) he ⟨hit, p⟩ hlt hne (by simp [hne, Ne.symm hae]) fun u' h' tk hP ho hst hT hsz hk => ?_
    have hu' : u' = u := by
      have z : its[i]? = some u' := by simpa using hP
      rw [hu] at z
      cases z
      rfl
    subst hu'
    refine ⟨_, rfl, wpAny_letOwnedTupleGo_enum (s := { s with heap := h', toks := tk + 1 }) ho fun h'' he' sb => ?_⟩
    have hT2 : h''.get? s.heap.objs.size = some { cls := .type "tuple", data := .seq #[.int i tk, u'] } := (sb.2 _ (Nat.ne_of_gt hel)).trans hT
    have new : ObjOk X.prog X.w (upd H s.heap.objs.size (.tup [.int (i : Nat), x])) h'' s.heap.objs.size (.tup [.int (i : Nat), x]) :=
      ⟨by show 2 ≤ sizeLine; decide, [.int i tk, u'], .cons ⟨_, rfl⟩ (.cons ru .nil), ⟨_, hT2, rfl, _, rfl⟩⟩
    have I1 : L2.Inv X pins σ (upd H s.heap.objs.size (.tup [.int (i : Nat), x])) { s with heap := h'', toks := tk + 1 } :=
      I.turnedNew (ch := [e, it]) (fun b ob hb q => (sb.2 b (fun z => hb (by simp [z]))).trans (hk b ob (fun z => hb (by simp [z])) (fun z => hb (by simp [z])) q)) hf (Nat.le_refl _) new
    refine ⟨.ref s.heap.objs.size, _, I1, rfl, ⟨_, x, rfl, I.hok.fresh (Nat.le_refl _), rfl, fun ys hy => by rw [I.tuple_inj hy hq]; exact hx⟩, ⟨⟨u', ?_⟩, hst.1.at fun o q => (sb.2 it (Ne.symm hne)).trans q, hne, hai, hae⟩, fun b hb => ?_⟩
    · have e1 : ((i + 1 : Nat) : Int) = (i : Int) + 1 := by omega
      rw [e1]; exact he'
    · have hb' : b < s.heap.objs.size := by
        have e' : b = e ∨ b = it := by simpa using hb
        rcases e' with z | z
        · rw [z]; exact hel
        · rw [z]; exact hil
      rw [upd_ne (Nat.ne_of_lt hb')]
      exact (hf b hb).1
  done := by
    intro X hP hw hK hc i pins s σ H E I hf st hg
    subst hP hw hK
    obtain ⟨⟨old, he⟩, hit, hne, hai, hae⟩ := st
    obtain ⟨xs, hq, hx⟩ := hg
    obtain ⟨its, rv, p, hz⟩ := I.tuple hq
    obtain ⟨f0, f1, f2, f3, f4, f5⟩ := hf it (by simp)
    have hl : its.toArray.size = i := by
      rw [List.size_toArray, ← rv.length]
      exact hx
    have D := Draws.tuple (prog := X.prog) (w := X.w) (A := X.A.in1) (I.ok.hd hc) it a hai its.toArray
    rw [hl] at D
    exact wpAny_pyNext_enum_endD D he ⟨hit, p⟩ fun h' eb => ⟨rfl, I.turned (t' := s.toks) (fun b o hb q => eb b o hb q) f0 f1 f3 f4 f5⟩
  self := fun A i s Q E st h => let ⟨⟨_, he⟩, _⟩ := st; wpAny_pyIter_enum he h
def iEnumT (K : PySem.W.Frag) (ta : TA) : TI := fun σ H R => ta σ H fun vs H1 => ∃ a xs, vs = [.ref a] ∧ SqT K H1 a xs ∧ R (IteT K a) H1
theorem pi_enumT {X : Cx} {e : Expr} {ta : TA} {p pos tpos : Pos} {elts : List Expr} {kk : Nat} (hg : Gl X "enumerate") (hm : X.mg "enumerate" = none) (ha : PA X [e] ta) (hs : starEach [e] X.env = [(false, eval e X.env)]) :
    PI X (.Tuple elts kk tpos) (.Call (.Name "enumerate" p) [e] [] pos) (iEnumT X.K ta) := by
  refine ⟨fun pins s σ H R I h => ?_⟩
  refine Call_ (ld_blt I hg hm boot_enumerate (PyProof.Rows.callWith_type1 (thn (ha.run pos pins s σ H _ I h) fun us s1 ⟨vs, H1, I1, r1, q1⟩ => ?_) hs rfl))
  obtain ⟨a, xs, ex, hq, q⟩ := q1
  subst ex
  cases r1 with
  | cons r rr =>
    cases rr
    cases r
    obtain ⟨its, rv, p', hz⟩ := I1.tuple hq
    have hal : a < s1.heap.objs.size := p'.lt
    refine enum_begins1 (begins_tuple a its.toArray) p' fun h' he hit hsz hk => wpAny_pyIter_enum he ?_
    have I2 : L2.Inv X pins σ H1 { s1 with heap := h' } := I1.kept (t' := s1.toks) hk
    refine ⟨s1.heap.objs.size + 1, [s1.heap.objs.size + 1, s1.heap.objs.size], _, _, H1, rfl, I2, turn_enumT a (s1.heap.objs.size + 1) s1.heap.objs.size, ⟨⟨.none, he⟩, ⟨_, hit, rfl, rfl⟩, Nat.succ_ne_self _, Nat.ne_of_lt hal, Nat.ne_of_lt (Nat.lt_succ_of_lt hal)⟩, fun b hb => ?_, q⟩
    have e' : b = s1.heap.objs.size + 1 ∨ b = s1.heap.objs.size := by simpa using hb
    have hle : s1.heap.objs.size ≤ b := by
      rcases e' with z | z
      · rw [z]; exact Nat.le_add_right _ _
      · rw [z]; exact Nat.le_refl _
    exact I1.fpOk hle (I1.hok.fresh hle)

/-! ### items of a dict that is known to the object -/
def ItiR (a : Addr) (o : Obj) (ps : List (Addr × V)) : It :=
  ⟨fun i H => H a = some (RawO a o) ∧ i < ps.length, fun i H x H' => ∃ T b v, ps[i]? = some (b, v) ∧ x = .ref T ∧ H T = none ∧ H' = upd H T (.tup [.ref b, v]), fun i H => H a = some (RawO a o) ∧ ps.length ≤ i⟩
abbrev EntP : DictEntry → Addr × V → Prop := fun e p => e.key = .ref p.1 ∧ L2.RelV p.2 e.val
theorem pget {α β : Type} {F : α → β → Prop} : ∀ {l₁ : List α} {l₂ : List β} {i : Nat} {b : β}, Paired F l₁ l₂ → l₂[i]? = some b → ∃ a, l₁[i]? = some a ∧ F a b
  | _, _, _, _, .nil, e => by simp at e
  | _, _, 0, _, .cons r _, e => by
    simp at e
    subst e
    exact ⟨_, rfl, r⟩
  | _, _, i + 1, _, .cons _ t, e => pget (i := i) t (by simpa using e)
theorem raw_at {X : Cx} {pins : List (Addr × Obj)} {σ : L2.St} {H : Hp} {s : Shared} {a : Addr} {o : Obj} (I : L2.Inv X pins σ H s) (h : H a = some (RawO a o)) : s.heap.get? a = some o := by
  have hok : ObjOk X.prog X.w H s.heap a (RawO a o) := I.hok a _ h
  exact hok.1
theorem turn_itemsR {elts : List Expr} {kk : Nat} {tpos : Pos} {a : Addr} {o : Obj} {es : Array DictEntry} {ep : Nat} {ps : List (Addr × V)} (it : Addr) (hx : o.ExactDict) (hod : o.data = .dict es ep) (hp : Paired EntP es.toList ps) :
    Turn P w K (.Tuple elts kk tpos) (ItiR a o ps) [it] it (fun i h => ∃ ok ov, IsItemIter h it a i es.size ep ok ov) where
  mem := by simp
  obj := fun i h st b hb => by
    have e : b = it := by simpa using hb
    subst e
    obtain ⟨ok, ov, e⟩ := st
    exact ⟨_, e, fun v z => nomatch z⟩
  keep := fun i h h' st k => let ⟨ok, ov, e⟩ := st; ⟨ok, ov, k it (by simp) _ e⟩
  item := by
    intro X hP hw hK hc i pins s σ H E I hf st hg
    subst hP hw hK
    obtain ⟨hd, hi⟩ := hg
    have hgt := raw_at I hd
    obtain ⟨⟨b, v⟩, hkv⟩ : ∃ p, ps[i]? = some p := ⟨ps[i], List.getElem?_eq_getElem hi⟩
    obtain ⟨en, hen, hk1, hr⟩ := pget hp hkv
    have hl : es.size = ps.length := by rw [← Array.length_toList]; exact Paired.length hp
    obtain ⟨ok, ov, he⟩ := st
    have hlt : it < s.heap.objs.size := Heap.lt_size he
    have hie : i < es.size := by rw [hl]; exact hi
    have hee : es[i] = en := by
      have z : es.toList[i]? = some es[i] := by rw [Array.getElem?_toList]; exact Array.getElem?_eq_getElem hie
      rw [hen] at z
      exact (Option.some.inj z).symm
    refine wpAny_pyNext_items_item_raw he ⟨o, hgt, hx, hod⟩ hie fun h' ho hT hz hk => ?_
    rw [hee] at hT ho
    refine ⟨_, rfl, wpAny_letOwnedTupleGo_items (s := { s with heap := h' }) ho fun h'' he' sb => ?_⟩
    have hT2 : h''.get? s.heap.objs.size = some { cls := .type "tuple", data := .seq #[en.key, en.val] } := (sb.2 _ (Nat.ne_of_gt hlt)).trans hT
    have new : ObjOk X.prog X.w (upd H s.heap.objs.size (.tup [.ref b, v])) h'' s.heap.objs.size (.tup [.ref b, v]) :=
      ⟨by show 2 ≤ sizeLine; decide, [en.key, en.val], .cons hk1 (.cons hr .nil), ⟨_, hT2, rfl, _, rfl⟩⟩
    have I1 : L2.Inv X pins σ (upd H s.heap.objs.size (.tup [.ref b, v])) { s with heap := h'' } :=
      I.turnedNew (t' := s.toks) (ch := [it]) (fun c ob hb e => (sb.2 c (by simpa using hb)).trans (hk c ob (by simpa using hb) e)) hf (Nat.le_refl _) new
    refine ⟨.ref s.heap.objs.size, _, I1, rfl, ⟨_, b, v, hkv, rfl, I.hok.fresh (Nat.le_refl _), rfl⟩, ⟨en.key, en.val, he'⟩, fun c hb => ?_⟩
    have e : c = it := by simpa using hb
    rw [e, upd_ne (Nat.ne_of_lt hlt)]
    exact (hf it (by simp)).1
  done := by
    intro X hP hw hK hc i pins s σ H E I hf st hg
    subst hP hw hK
    obtain ⟨hd, hi⟩ := hg
    obtain ⟨f0, f1, f2, f3, f4, f5⟩ := hf it (by simp)
    have hgt := raw_at I hd
    have hl : es.size = ps.length := by rw [← Array.length_toList]; exact Paired.length hp
    obtain ⟨ok, ov, he⟩ := st
    exact wpAny_pyNext_items_end_raw (I.ok.hd hc) he ⟨o, hgt, hx, hod⟩ (by rw [hl]; exact hi) fun h' eb => ⟨rfl, I.turned (t' := s.toks) (fun b ob hb e => eb b ob hb e) f0 f1 f3 f4 f5⟩
  self := fun A i s Q E st h => let ⟨_, _, e⟩ := st; PySem.W.kcp_self e h
/-- its keys -/
def ItkR (a : Addr) (o : Obj) (ps : List (Addr × V)) : It :=
  ⟨fun i H => H a = some (RawO a o) ∧ i < ps.length, fun i H x H' => H' = H ∧ ∃ b v, ps[i]? = some (b, v) ∧ x = .ref b, fun i H => H a = some (RawO a o) ∧ ps.length ≤ i⟩
theorem turn_keysR {tg : Expr} {a : Addr} {o : Obj} {es : Array DictEntry} {ep : Nat} {ps : List (Addr × V)} (it : Addr) (hod : o.data = .dict es ep) (hp : Paired EntP es.toList ps) :
    Turn P w K tg (ItkR a o ps) [it] it (fun i h => h.IsKeyIter it a i es.size ep) where
  mem := by simp
  obj := fun i h st b hb => by
    have e : b = it := by simpa using hb
    subst e
    obtain ⟨oi, e, c, dd⟩ := st
    exact ⟨oi, e, fun v z => by rw [dd] at z; cases z⟩
  keep := fun i h h' st k => st.at fun oi e => k it (by simp) oi e
  item := by
    intro X hP hw hK hc i pins s σ H E I hf st hg
    subst hP hw hK
    obtain ⟨hd, hi⟩ := hg
    obtain ⟨f0, f1, f2, f3, f4, f5⟩ := hf it (by simp)
    have hgt := raw_at I hd
    obtain ⟨⟨b, v⟩, hkv⟩ : ∃ p, ps[i]? = some p := ⟨ps[i], List.getElem?_eq_getElem hi⟩
    obtain ⟨en, hen, hk1, hr⟩ := pget hp hkv
    refine next_key_item st hgt hod rfl (en := en) (by rw [← Array.getElem?_toList]; exact hen) fun h' st' sb => ?_
    have I1 : L2.Inv X pins σ H { s with heap := h' } := I.turned (t' := s.toks) (fun b ob hb e => (sb.2 b hb).trans e) f0 f1 f3 f4 f5
    obtain ⟨oi, e, c, dd⟩ := id st'
    exact ⟨en.key, rfl, go_of (s := { s with heap := h' }) e c dd (by decide) ⟨.ref b, H, I1, hk1, ⟨rfl, b, v, hkv, rfl⟩, st', fun b hb => (hf b hb).1⟩⟩
  done := by
    intro X hP hw hK hc i pins s σ H E I hf st hg
    subst hP hw hK
    obtain ⟨hd, hi⟩ := hg
    obtain ⟨f0, f1, f2, f3, f4, f5⟩ := hf it (by simp)
    have hgt := raw_at I hd
    have hl : es.size = ps.length := by rw [← Array.length_toList]; exact Paired.length hp
    exact next_key_end (I.ok.hd hc) st hgt hod rfl (by rw [hl]; exact hi) fun h' eb => ⟨rfl, I.turned (t' := s.toks) (fun b ob hb e => eb b ob hb e) f0 f1 f3 f4 f5⟩
  self := fun A i s Q E st h => wpAny_pyIter_keyiter st h
def iItemsR (td : TE) : TI := fun σ H R => td σ H fun x H1 => ∃ (a : Addr) (o : Obj) (es : Array DictEntry) (ep : Nat) (ps : List (Addr × V)), x = .ref a ∧ H1 a = some (RawO a o) ∧ o.ExactDict ∧ o.data = .dict es ep ∧ (a == sysModules) = false ∧ Paired EntP es.toList ps ∧ R (ItiR a o ps) H1
theorem pi_itemsR {X : Cx} {e : Expr} {td : TE} {apos cpos : Pos} {elts : List Expr} {kk : Nat} {tpos : Pos} (he : PE X e td) (hbase : attributeBase e "items" X.env (eval e X.env) = eval e X.env) (hline : (apos.endLine == cpos.line) = true) :
    PI X (.Tuple elts kk tpos) (.Call (.Attribute e "items" apos) [] [] cpos) (iItemsR td) := by
  refine ⟨fun pins s σ H R I h => ?_⟩
  refine wpAny_Call_method (T := "dict") (id := "dict.items") hbase rfl hline F.plainAttrs_dict F.slot_dict_items F.type_dict_items (thn (he.run pins s σ H _ I h) fun u s1 ⟨x, H1, I1, rx, a, o, es, ep, ps, ex, hd, hx, hod, hs, hp, q⟩ => ?_)
  subst ex
  obtain rfl : u = Value.ref a := rx
  have hgt := raw_at I1 hd
  refine ⟨⟨o, hgt, hx.1⟩, fun b eb => ?_, ?_⟩
  · cases eb
    exact ⟨o, hgt, hx.2.1⟩
  have raw : DT.Raw s1.heap a es ep := ⟨o, hgt, hx, hod⟩
  have I2 : L2.Inv X pins σ H1 { s1 with heap := s1.heap.push { cls := .type "dict_items", data := .fields #[.ref a] } } := I1.kept (t' := s1.toks) fun b ob q => Heap.get?_push_of_some _ q
  have fin : wpAny (model X.prog X.w) X.A (pyIter (.ref s1.heap.objs.size)) (PIE X pins σ (.Tuple elts kk tpos) R) X.xe { s1 with heap := s1.heap.push { cls := .type "dict_items", data := .fields #[.ref a] } } := by
    refine DT.iterI (d := a) (es := es) (ep := ep) ⟨_, Heap.get?_push_size _ rfl, rfl, rfl⟩ (raw.push _) (pi_one (tk := s1.toks) I2 _ (turn_itemsR _ hx hod hp) ⟨.none, .none, ?_⟩ q)
    exact Heap.get?_push_size _ rfl
  show wpAny _ _ (callWith cpos (.builtin "dict.items") [.ref a] [] []) _ X.xe s1
  exact method_meetsIn F.slot_dict_items F.entry_dict_items rfl (PySem.evalArgs_none ⟨rfl, raw.typeIs, F.args_dict_items_1 _, _, DT.meetsItems (es := es) (ep := ep) hs, ⟨raw, fin⟩⟩)
/-! ### a list or a tuple -/
def iSeq (K : PySem.W.Frag) (tl : TE) : TI := fun σ H R => tl σ H fun x H1 => ∃ a, x = .ref a ∧ (((∃ xs, SqL K H1 a xs) ∧ R (Itl K a) H1) ∨ ((∃ xs, SqT K H1 a xs) ∧ R (Itt K a) H1) ∨ ∃ (o : Obj) (es : Array DictEntry) (ep : Nat) (ps : List (Addr × V)), H1 a = some (RawO a o) ∧ o.ExactDict ∧ o.data = .dict es ep ∧ (a == sysModules) = false ∧ Paired EntP es.toList ps ∧ R (ItkR a o ps) H1)
theorem pi_seq {X : Cx} {tg l : Expr} {tl : TE} (hl : PE X l tl) : PI X tg l (iSeq X.K tl) := by
  refine ⟨fun pins s σ H R I h => ?_⟩
  refine thn (hl.run pins s σ H _ I h) fun v s1 ⟨x, H1, I1, r1, q1⟩ => ?_
  obtain ⟨a, e, q1⟩ := q1
  subst e
  cases r1
  rcases q1 with ⟨⟨xs, hq⟩, q⟩ | ⟨⟨xs, hq⟩, q⟩ | ⟨o, es, ep, ps, hd, hx, hod, hs, hp, q⟩
  · obtain ⟨its, rv, p, hz⟩ := I1.list hq
    refine wpAny_pyIter_list p.isList ?_
    refine ⟨s1.heap.objs.size, [s1.heap.objs.size], _, _, H1, rfl, I1.kept (t' := s1.toks) fun b o e => Heap.get?_push_of_some _ e, turn_list a _, ⟨_, Heap.get?_push_size _ rfl, rfl, rfl⟩, fun b hb => ?_, q⟩
    have e : b = s1.heap.objs.size := by simpa using hb
    subst e
    exact I1.fpOk (Nat.le_refl _) (I1.hok.fresh (Nat.le_refl _))
  · obtain ⟨its, rv, p, hz⟩ := I1.tuple hq
    refine wpAny_pyIter_tuple (show s1.heap.IsTuple a its.toArray from p) ?_
    refine ⟨s1.heap.objs.size, [s1.heap.objs.size], _, _, H1, rfl, I1.kept (t' := s1.toks) fun b o e => Heap.get?_push_of_some _ e, turn_tuple a _, ⟨_, Heap.get?_push_size _ rfl, rfl, rfl⟩, fun b hb => ?_, q⟩
    have e : b = s1.heap.objs.size := by simpa using hb
    subst e
    exact I1.fpOk (Nat.le_refl _) (I1.hok.fresh (Nat.le_refl _))
  · have hgt := raw_at I1 hd
    exact iter_keys hs hgt hx hod (pi_one (tk := s1.toks) I1 _ (turn_keysR _ hod hp) ⟨_, Heap.get?_push_size _ rfl, rfl, rfl⟩ q)
end
end Ev
-- EvS12
set_option Elab.async false
set_option linter.all false
set_option maxRecDepth 100000
set_option maxHeartbeats 4000000
/-! EvS12: loops and comprehensions. -/
namespace Ev
open PySem PySem.Spec PyProof.Rows L2

/-! ### locks -/
theorem setLock_len (S : Store) (k : Nat) (b : Bool) : (setLock S k b).length = S.length := by
  unfold setLock
  split <;> first | exact List.length_set | rfl
def relock (c : Cell) (b : Bool) : Cell := match c with
  | .lst _ xs => .lst b xs
  | .dT _ kvs => .dT b kvs
  | c => c
theorem setLock_at (S : Store) (k : Nat) (b : Bool) : (setLock S k b)[k]? = (S[k]?).map fun c => relock c b := by
  unfold setLock
  split
  · rename_i l xs e
    rw [List.getElem?_set_self (List.getElem?_eq_some_iff.mp e).1, e]
    rfl
  · rename_i l xs e
    rw [List.getElem?_set_self (List.getElem?_eq_some_iff.mp e).1, e]
    rfl
  · rename_i h1 h2
    cases e : S[k]? with
    | none => rfl
    | some c =>
      cases c with
      | lst l xs => exact absurd e (h1 l xs)
      | dT l xs => exact absurd e (h2 l xs)
      | ro xs => rfl
theorem setLock_ne (S : Store) {k j : Nat} (b : Bool) (h : j ≠ k) : (setLock S k b)[j]? = S[j]? := by
  unfold setLock
  split <;> first | exact List.getElem?_set_ne (Ne.symm h) | rfl
theorem setLock_get (S : Store) (k j : Nat) (b : Bool) {c : Cell} (e : (setLock S k b)[j]? = some c) : ∃ c0, S[j]? = some c0 ∧ (c = c0 ∨ c = relock c0 b) := by
  by_cases h : j = k
  · subst h
    rw [setLock_at] at e
    cases e1 : S[j]? with
    | none =>
      rw [e1] at e
      cases e
    | some c0 =>
      rw [e1] at e
      cases e
      exact ⟨c0, rfl, .inr rfl⟩
  · rw [setLock_ne S b h] at e
    exact ⟨c, e, .inl rfl⟩
theorem relock_ro {c : Cell} {b : Bool} : (relock c b).isRo = c.isRo := by cases c <;> rfl
theorem relock_rel {g : Gx} {H : Hp} {m : Nat → Addr} {n : Nat} {a : Addr} {c : Cell} {b : Bool} : CellRel g H m n a (relock c b) ↔ CellRel g H m n a c := by cases c <;> exact Iff.rfl
theorem StRel.lock {g : Gx} {S : Store} {m : Nat → Addr} {H : Hp} (st : StRel g S m H) (k : Nat) (b : Bool) : StRel g (setLock S k b) m H := by
  have ll := setLock_len S k b
  refine ⟨fun i j i0 j0 hi hj e => st.inj i j i0 j0 (by rw [← ll]; exact hi) (by rw [← ll]; exact hj) e, ?_, fun j xs e => ?_, fun j c e => ?_, st.tabs⟩
  · obtain ⟨xs, e⟩ := st.zero
    by_cases h : 0 = k
    · subst h
      exact ⟨xs, by rw [setLock_at, e]; rfl⟩
    · exact ⟨xs, by rw [setLock_ne S b h]; exact e⟩
  · obtain ⟨c0, e1, h | h⟩ := setLock_get S k j b e
    · subst h
      exact st.own j xs e1
    · cases c0 with
      | ro ys => exact st.own j ys e1
      | lst l ys => cases h
      | dT l ys => cases h
  · rw [ll]
    obtain ⟨c0, e1, h | h⟩ := setLock_get S k j b e
    · subst h
      exact st.cell j _ e1
    · subst h
      exact relock_rel.mpr (st.cell j c0 e1)
theorem lockAt_ne (S : Store) {k j : Nat} (b : Bool) (h : j ≠ k) : lockAt (setLock S k b) j = lockAt S j := by
  unfold lockAt
  rw [setLock_ne S b h]
theorem lockAt_self {S : Store} {k : Nat} {b : Bool} {c : Cell} (e : S[k]? = some c) (hc : c.isRo = false) : lockAt (setLock S k b) k = b := by
  unfold lockAt
  rw [setLock_at, e]
  cases c with
  | ro xs => cases hc
  | lst l xs => rfl
  | dT l xs => rfl
theorem lock_cell {S : Store} {k : Nat} (h : lockAt S k = false) : ∃ c, S[k]? = some c ∧ c.isRo = false := by
  unfold lockAt at h
  split at h
  · rename_i e
    exact ⟨_, e, rfl⟩
  · rename_i e
    exact ⟨_, e, rfl⟩
  · cases h
theorem Ext.unlock {g : Gx} {S S' : Store} {m m' : Nat → Addr} {H H' : Hp} {k : Nat} (st : StRel g S m H) (st' : StRel g S' m' H') (hk : lockAt S k = false) (x : Ext g (setLock S k true) m H S' m' H') : Ext g S m H (setLock S' k false) m' H' := by
  have ll := setLock_len S k true
  have ll' := setLock_len S' k false
  obtain ⟨c, ec, hc⟩ := lock_cell hk
  have hkl : k < S.length := (List.getElem?_eq_some_iff.mp ec).1
  have k0 : 0 < k := by
    rcases Nat.eq_zero_or_pos k with z | z
    · obtain ⟨zs, hz⟩ := st.zero
      rw [z, hz] at ec
      cases ec
      cases hc
    · exact z
  refine ⟨by rw [ll', ← ll]; exact x.le, fun j hj => x.ag j (by rw [ll]; exact hj), fun j hj => ?_, fun b o e nt hl => x.keep b o e nt fun j hj e2 => ?_, x.tup, x.frz, x.dom, fun j h1 h2 => x.new j (by rw [ll]; exact h1) (by rw [← ll']; exact h2)⟩
  · by_cases h : j = k
    · subst h
      have hkl' : j < S'.length := Nat.lt_of_lt_of_le (by rw [ll]; exact hkl) x.le
      have e' := List.getElem?_eq_getElem hkl'
      rw [hk, lockAt_self e' (st'.notRo k0 e')]
    · rw [lockAt_ne S' false h, x.lk j (by rw [ll]; exact hj), lockAt_ne S true h]
  · rw [ll] at hj
    by_cases h : j = k
    · subst h
      exact lockAt_self ec hc
    · rw [lockAt_ne S true h]
      exact hl j hj e2
/-- what may be locked -/
def LockF (S : Store) (o : Option Nat) : Prop := ∀ k, o = some k → lockAt S k = false
theorem StRel.lockO {g : Gx} {S : Store} {m : Nat → Addr} {H : Hp} (st : StRel g S m H) (o : Option Nat) (b : Bool) : StRel g (lockO S o b) m H := by
  cases o with
  | none => exact st
  | some k => exact st.lock k b
theorem lockO_len (S : Store) (o : Option Nat) (b : Bool) : (lockO S o b).length = S.length := by
  cases o with
  | none => rfl
  | some k => exact setLock_len S k b
theorem Ext.unlockO {g : Gx} {S S' : Store} {m m' : Nat → Addr} {H H' : Hp} {o : Option Nat} (st : StRel g S m H) (st' : StRel g S' m' H') (hk : LockF S o) (x : Ext g (lockO S o true) m H S' m' H') : Ext g S m H (lockO S' o false) m' H' := by
  cases o with
  | none => exact x
  | some k => exact Ext.unlock st st' (hk k rfl) x

/-! ### walks -/
structure WalkOk (g : Gx) (weak : Bool) (J : It) (xs : List D) (S0 : Store) (m0 : Nat → Addr) (H0 : Hp) : Prop where
  go : ∀ S m H i, Ext g S0 m0 H0 S m H → StRel g S m H → i < xs.length → J.go i H
  stop : ∀ S m H, Ext g S0 m0 H0 S m H → StRel g S m H → J.stop xs.length H
  yld : ∀ S m H i d x H', Ext g S0 m0 H0 S m H → StRel g S m H → xs[i]? = some d → J.yld i H x H' → Ext g S m H S m H' ∧ StRel g S m H' ∧ EncG weak g H' m S.length d x
def RdI (g : Gx) (W : WX) (weak : Bool) (I : Env → Store → R (List D × Option Nat)) : TI := fun σ H R => ∃ S m ρ, StRel g S m H ∧ EnvRel g H m S.length ρ σ ∧
  Post g W S m H σ (fun w S1 m1 H1 => LockF S1 w.2 → ∀ J, WalkOk g weak J w.1 (lockO S1 w.2 true) m1 H1 → R J H1) (I ρ S)
section
variable {X : Cx} {u : Tb} {W : WX}
theorem lock0 {g : Gx} {S : Store} {m : Nat → Addr} {H : Hp} (st : StRel g S m H) : lockAt S 0 = true := by
  obtain ⟨zs, hz⟩ := st.zero
  unfold lockAt
  rw [hz]
/-- the object of a locked place is kept -/
theorem keep_lock {g : Gx} {S S' : Store} {m m' : Nat → Addr} {H H' : Hp} {k : Nat} {o : HO} (x : Ext g S m H S' m' H') (st : StRel g S m H) (k0 : 0 < k) (hk : k < S.length) (hl : lockAt S k = true) (ho : H (m k) = some o) (nt : ∀ ps, o ≠ .tbl ps) : H' (m k) = some o :=
  x.keep _ o ho nt fun j hj e => by
    by_cases j0 : 0 < j
    · rw [st.inj j k j0 k0 hj hk e]
      exact hl
    · have : j = 0 := by omega
      rw [this]
      exact lock0 st
/-- the lock of a place that is walked -/
def lockFor (S : Store) (k : Nat) : Option Nat := if lockAt S k then none else some k
theorem lockFor_F (S : Store) (k : Nat) : LockF S (lockFor S k) := fun j e => by
  unfold lockFor at e
  split at e
  · cases e
  · rename_i h
    cases e
    simpa using h
theorem lockFor_on {S : Store} {k : Nat} {c : Cell} (e : S[k]? = some c) (hc : c.isRo = false) : lockAt (lockO S (lockFor S k) true) k = true := by
  unfold lockFor
  split
  · rename_i h
    exact h
  · exact lockAt_self e hc
theorem encAll_lock {g : Gx} {S S' : Store} {m m' : Nat → Addr} {H H' : Hp} {o : Option Nat} (x : Ext g (lockO S o true) m H S' m' H') {ds : List D} {vs : List V} (h : EncAll g H m S.length ds vs) : EncAll g H' m' S'.length ds vs :=
  x.encAll (by rw [lockO_len]; exact h)
theorem itQ_list {g : Gx} {S : Store} {m : Nat → Addr} {H : Hp} {t : T} {v : V} {xs : List D} {o : Option Nat} (st : StRel g S m H) (en : EncT g H m S.length t v) (e : itQ0 t S = some (xs, o)) :
    LockF S o ∧ ∃ a, v = .ref a ∧ ((∀ S' m' H', Ext g (lockO S o true) m H S' m' H' → StRel g S' m' H' → ∃ vs, SqL g.K H' a vs ∧ EncAll g H' m' S'.length xs vs) ∨ (∀ S' m' H', Ext g (lockO S o true) m H S' m' H' → StRel g S' m' H' → ∃ vs, SqT g.K H' a vs ∧ EncAll g H' m' S'.length xs vs)) := by
  cases t with
  | l ys =>
    cases e
    obtain ⟨p, vs, rfl, h1, h2, h3⟩ := en
    exact ⟨(fun k e => by cases e), p, rfl, .inl fun S' m' H' x s => ⟨vs, SqL.of (keep_free x st h1 (fun ps z => by cases z) h3), x.encAll h2⟩⟩
  | t kvs => cases e
  | v d =>
    cases d with
    | tup ys =>
      cases e
      obtain ⟨a, vs, rfl, h1, h2⟩ := en
      exact ⟨(fun k e => by cases e), a, rfl, .inr fun S' m' H' x s => ⟨vs, (x.tk a vs h1).sq, x.encAll h2⟩⟩
    | ref k =>
      obtain ⟨h1, h2⟩ := (show k < S.length ∧ v = V.ref (m k) from en)
      subst h2
      have e' : (match asL (.v (.ref k)) S with | some xs => some (xs, lockFor S k) | none => none) = some (xs, o) := e
      split at e'
      · rename_i ys q1
        cases e'
        refine ⟨lockFor_F S k, m k, rfl, .inl fun S' m' H' x s => ?_⟩
        have e1 := List.getElem?_eq_getElem h1
        have cr := st.cell k _ e1
        have q2 : (match S[k]? with | some (.lst _ xs) => some xs | some (.ro xs) => some xs | _ => none) = some xs := q1
        have own := st.own k
        have on := @lockFor_on S k
        rw [e1] at q2
        revert e1 cr q2 own on
        generalize S[k]'h1 = c
        intro e1 cr q2 own on
        cases c with
        | lst b zs =>
          cases q2
          obtain ⟨vs, c1, c2⟩ := cr
          have k0 : 0 < k := by
            rcases Nat.eq_zero_or_pos k with z | z
            · obtain ⟨ws, hz⟩ := st.zero
              rw [z, hz] at e1
              cases e1
            · exact z
          exact ⟨vs, SqL.of (keep_lock x (st.lockO _ _) k0 (by rw [lockO_len]; exact h1) (on e1 rfl) c1 (fun ps z => by cases z)), encAll_lock x c2⟩
        | ro zs =>
          cases q2
          obtain ⟨vs, c1, c2⟩ := cr
          refine ⟨vs, ?_, encAll_lock x c2⟩
          rcases c1 with ⟨ob, c1⟩ | c1
          · exact .inl (.inr ⟨ob, x.frz _ ob _ c1⟩)
          · rcases c1 with (c1 | ⟨ob, c1⟩) | c1
            · cases c1
            · cases c1
            · exact .inr c1
        | dT b zs => cases q2
      · cases e'
    | _ => cases e
theorem ents_vals {g : Gx} {H : Hp} {m : Nat → Addr} {n : Nat} : ∀ {es : List DictEntry} {kvs : List (D × D)}, Paired (EntOk g H m n) es kvs → ∃ ps : List (Addr × V), Paired EntP es ps ∧ Paired (fun (p : Addr × V) (kv : D × D) => Enc g H m n kv.1 (.ref p.1) ∧ Enc g H m n kv.2 p.2) ps kvs
  | _, _, .nil => ⟨[], .nil, .nil⟩
  | _, _, .cons h t => by
    obtain ⟨b, w, v, h1, h2, h3, h4, h5⟩ := h
    obtain ⟨ps, q1, q2⟩ := ents_vals t
    exact ⟨(b, v) :: ps, .cons ⟨by rw [h1], by rw [h1]; exact h4⟩ q1, .cons ⟨h3, h5⟩ q2⟩
/-- a dict whose keys or items are walked -/
theorem dict_walk {g : Gx} {S1 : Store} {m1 : Nat → Addr} {H1 : Hp} {k : Nat} {v : V} {kvs : List (D × D)} (st1 : StRel g S1 m1 H1) (ev : EncT g H1 m1 S1.length (.v (.ref k)) v) (e2 : asT (.v (.ref k)) S1 = some kvs) :
    v = .ref (m1 k) ∧ ∃ (o : Obj) (es : Array DictEntry) (ep : Nat) (ps : List (Addr × V)), H1 (m1 k) = some (RawO (m1 k) o) ∧ o.ExactDict ∧ o.data = .dict es ep ∧ (m1 k == sysModules) = false ∧ Paired EntP es.toList ps ∧
      Paired (fun (p : Addr × V) (kv : D × D) => Enc g H1 m1 S1.length kv.1 (.ref p.1) ∧ Enc g H1 m1 S1.length kv.2 p.2) ps kvs ∧ ∀ {S m H}, Ext g (lockO S1 (lockFor S1 k) true) m1 H1 S m H → H (m1 k) = some (RawO (m1 k) o) := by
  obtain ⟨hk1, hk2⟩ := (show k < S1.length ∧ v = V.ref (m1 k) from ev)
  subst hk2
  have ec := List.getElem?_eq_getElem hk1
  have cr := st1.cell k _ ec
  have e3 : (match S1[k]? with | some (.dT _ xs) => some xs | _ => none) = some kvs := e2
  have on := @lockFor_on S1 k
  rw [ec] at e3
  revert ec cr e3 on
  generalize S1[k]'hk1 = c
  intro ec cr e3 on
  cases c with
  | lst b zs => cases e3
  | ro zs => cases e3
  | dT b zs =>
    cases e3
    have k0 : 0 < k := by
      rcases Nat.eq_zero_or_pos k with z | z
      · obtain ⟨ws, hz⟩ := st1.zero
        rw [z, hz] at ec
        cases ec
      · exact z
    obtain ⟨o, es, ep, h1, h2, h3, h4, h5, h6, h7⟩ := cr
    obtain ⟨ps, g1, g2⟩ := ents_vals h6
    exact ⟨rfl, o, es, ep, ps, h1, h2, h3, h4, g1, g2, fun {S m H} x => keep_lock x (st1.lockO _ _) k0 (by rw [lockO_len]; exact hk1) (on ec rfl) h1 (fun ps z => by unfold RawO at z; cases z)⟩
theorem pi_E {tg e : Expr} {E : Env → Store → R T} (h : PE X e (RdE (gof u X) W E)) : PI X tg e (RdI (gof u X) W false (mk E).I) := by
  refine PI.imp (pi_seq h) ?_
  rintro σ H R ⟨S, m, ρ, st, en, p⟩
  refine sub st en ((Post.bind p).mono fun t S1 m1 H1 x1 st1 p1 v fv ev => ?_)
  obtain ⟨⟨xs, o⟩, e1, q⟩ := p1.opt
  cases e0 : itQ0 t S1 with
  | none =>
    unfold itQ at e1
    rw [e0] at e1
    have e1' : keysQ t S1 = some (xs, o) := e1
    unfold keysQ at e1'
    split at e1'
    · rename_i k
      cases e2 : asT (.v (.ref k)) S1 with
      | none =>
        rw [e2] at e1'
        cases e1'
      | some kvs =>
        rw [e2] at e1'
        cases e1'
        obtain ⟨rfl, o, es, ep, ps, h1, h2, h3, h4, g1, g2, kept⟩ := dict_walk st1 ev e2
        have q2 := q m1 H1 Ext.refl st1 (lockFor_F S1 k)
        have hl : ps.length = kvs.length := Paired.length g2
        have hl2 : (kvs.map (·.1)).length = kvs.length := List.length_map _
        refine ⟨m1 k, rfl, .inr (.inr ⟨o, es, ep, ps, h1, h2, h3, h4, g1, q2 _ ⟨fun S m H i x s hi => ⟨kept x, ?_⟩, fun S m H x s => ⟨kept x, ?_⟩, fun S m H i d y H' x s hd hy => ?_⟩⟩)⟩
        · rw [hl, ← hl2]
          exact hi
        · rw [hl, ← hl2]
          exact Nat.le_refl _
        · obtain ⟨rfl, b, w, hb, rfl⟩ := hy
          have hd' : (kvs.map fun p => p.1)[i]? = some d := hd
          rw [List.getElem?_map] at hd'
          cases e5 : kvs[i]? with
          | none =>
            rw [e5] at hd'
            cases hd'
          | some kv =>
            rw [e5] at hd'
            cases hd'
            obtain ⟨p, f1, f2, f3⟩ := pget g2 e5
            rw [hb] at f1
            cases f1
            exact ⟨Ext.refl, s, x.enc (by rw [lockO_len]; exact f2)⟩
    · cases e1'
  | some w0 =>
  have e1 : itQ0 t S1 = some (xs, o) := by
    unfold itQ at e1
    rw [e0] at e1
    rw [e0]
    exact e1
  obtain ⟨lf, a, rfl, hw⟩ := itQ_list st1 ev e1
  have q2 := q m1 H1 Ext.refl st1 lf
  refine ⟨a, rfl, ?_⟩
  have st1' := st1.lockO o true
  rcases hw with hw | hw
  · refine .inl ⟨?_, q2 _ ⟨fun S m H i x s hi => ?_, fun S m H x s => ?_, fun S m H i d y H' x s hd hy => ?_⟩⟩
    · obtain ⟨vs, h1, _⟩ := hw _ _ _ Ext.refl st1'
      exact ⟨vs, h1⟩
    · obtain ⟨vs, h1, h2⟩ := hw S m H x s
      have hi' : i < vs.length := by rw [h2.length]; exact hi
      exact ⟨vs, vs[i], h1, List.getElem?_eq_getElem hi'⟩
    · obtain ⟨vs, h1, h2⟩ := hw S m H x s
      exact ⟨vs, h1, Nat.le_of_eq h2.length⟩
    · obtain ⟨vs, h1, h2⟩ := hw S m H x s
      obtain ⟨z1, z2⟩ := hy
      subst z1
      obtain ⟨w, g1, g2⟩ := h2.get hd
      rw [z2 vs h1] at g1
      cases g1
      exact ⟨Ext.refl, s, g2⟩
  · refine .inr (.inl ⟨?_, q2 _ ⟨fun S m H i x s hi => ?_, fun S m H x s => ?_, fun S m H i d y H' x s hd hy => ?_⟩⟩)
    · obtain ⟨vs, h1, _⟩ := hw _ _ _ Ext.refl st1'
      exact ⟨vs, h1⟩
    · obtain ⟨vs, h1, h2⟩ := hw S m H x s
      have hi' : i < vs.length := by rw [h2.length]; exact hi
      exact ⟨vs, vs[i], h1, List.getElem?_eq_getElem hi'⟩
    · obtain ⟨vs, h1, h2⟩ := hw S m H x s
      exact ⟨vs, h1, Nat.le_of_eq h2.length⟩
    · obtain ⟨vs, h1, h2⟩ := hw S m H x s
      obtain ⟨z1, z2⟩ := hy
      subst z1
      obtain ⟨w, g1, g2⟩ := h2.get hd
      rw [z2 vs h1] at g1
      cases g1
      exact ⟨Ext.refl, s, g2⟩
/-! ### range -/
theorem intsFrom_len : ∀ (n : Nat) (lo : Int), (intsFrom lo n).length = n
  | 0, _ => rfl
  | n + 1, lo => by
    show (intsFrom (lo + 1) n).length + 1 = n + 1
    rw [intsFrom_len n]
theorem intsFrom_get : ∀ (n : Nat) (lo : Int) (i : Nat) (d : D), (intsFrom lo n)[i]? = some d → d = .int (lo + i)
  | 0, _, _, _, h => by simp [intsFrom] at h
  | n + 1, lo, 0, d, h => by
    have : D.int lo = d := by simpa [intsFrom] using h
    rw [← this]
    simp
  | n + 1, lo, i + 1, d, h => by
    have h' : (intsFrom (lo + 1) n)[i]? = some d := by simpa [intsFrom] using h
    rw [intsFrom_get n (lo + 1) i d h']
    congr 1
    omega
theorem walk_range {g : Gx} {lo : Int} {n : Nat} {S0 : Store} {m0 : Nat → Addr} {H0 : Hp} {b : Bool} : WalkOk g b (Itr lo n) (intsFrom lo n) S0 m0 H0 where
  go := fun S m H i x s hi => by
    rw [intsFrom_len] at hi
    exact hi
  stop := fun S m H x s => by
    rw [intsFrom_len]
    exact Nat.le_refl n
  yld := fun S m H i d y H' x s hd hy => by
    obtain ⟨z1, z2⟩ := hy
    subst z1 z2
    rw [intsFrom_get n lo i d hd]
    have e : Enc g H' m S.length (.int (lo + i)) (.int (lo + i)) := rfl
    refine ⟨Ext.refl, s, ?_⟩
    unfold EncG
    split
    · exact .inl e
    · exact e
def itE (b : Bi) (M : Env → Store → R (List T)) : Env → Store → R (List D × Option Nat) := fun ρ S => (M ρ S).bind fun ts S1 => opt (itF b ts S1) S1
theorem pi_r1 {tg a : Expr} {M : Env → Store → R (List T)} {p pos : Pos} (hg : Gl X "range") (hm : X.mg "range" = none) (hn : noStar a = true) (ha : PA X [a] (RdTs (gof u X) W M)) : PI X tg (.Call (.Name "range" p) [a] [] pos) (RdI (gof u X) W false (itE .range M)) := by
  refine PI.imp (pi_range1 hg hm ha (star_ok hn)) ?_
  rintro σ H R ⟨S, m, ρ, st, en, p⟩
  refine ⟨S, m, ρ, st, en, (Post.bind p).mono fun ts S1 m1 H1 x1 st1 p1 vs hvs => ?_⟩
  obtain ⟨w, e1, q⟩ := p1.opt
  have q2 := q m1 H1 Ext.refl st1
  unfold itF at e1
  split at e1 <;> try contradiction
  rename_i j _
  split at e1
  · rename_i hb
    cases e1
    obtain ⟨v, rfl, ev⟩ := encTs1 hvs
    have ev' : v = .int j := ev
    subst ev'
    exact ⟨j, rfl, hb.1, hb.2, q2 (fun k e => by cases e) _ walk_range⟩
  · cases e1
theorem pi_r2 {tg a b : Expr} {M : Env → Store → R (List T)} {p pos : Pos} (hg : Gl X "range") (hm : X.mg "range" = none) (hn : noStar a = true) (hn2 : noStar b = true) (ha : PA X [a, b] (RdTs (gof u X) W M)) : PI X tg (.Call (.Name "range" p) [a, b] [] pos) (RdI (gof u X) W false (itE .range2 M)) := by
  refine PI.imp (pi_range2 hg hm ha (by rw [star_ok hn, star_ok hn2]; rfl) (star_ok hn2)) ?_
  rintro σ H R ⟨S, m, ρ, st, en, p⟩
  refine ⟨S, m, ρ, st, en, (Post.bind p).mono fun ts S1 m1 H1 x1 st1 p1 vs hvs => ?_⟩
  obtain ⟨w, e1, q⟩ := p1.opt
  have q2 := q m1 H1 Ext.refl st1
  unfold itF at e1
  split at e1 <;> try contradiction
  rename_i i j _
  split at e1
  · rename_i hb
    cases e1
    obtain ⟨v, v', rfl, ev, ev2⟩ := encTs2 hvs
    have z1 : v = .int i := ev
    have z2 : v' = .int j := ev2
    subst z1 z2
    exact ⟨i, j, rfl, hb, q2 (fun k e => by cases e) _ walk_range⟩
  · cases e1
/-! ### zip, enumerate, items -/
theorem weak_pair {g : Gx} {S : Store} {m : Nat → Addr} {H : Hp} {p : Addr} {d1 d2 : D} {v1 v2 : V} (st : StRel g S m H) (hp : H p = none) (h1 : Enc g H m S.length d1 v1) (h2 : Enc g H m S.length d2 v2) :
    Ext g S m H S m (upd H p (.tup [v1, v2])) ∧ StRel g S m (upd H p (.tup [v1, v2])) ∧ EncG true g (upd H p (.tup [v1, v2])) m S.length (.tup [d1, d2]) (.ref p) := by
  obtain ⟨x, s⟩ := alloc_ok (o := .tup [v1, v2]) st hp
  exact ⟨x, s, .inr ⟨_, p, [v1, v2], rfl, rfl, SqT.of upd_same, EncAll.cons (x.enc h1) (EncAll.cons (x.enc h2) EncAll.nil)⟩⟩
theorem zipD_get : ∀ {xs ys : List D} {i : Nat} {d : D}, (zipD xs ys)[i]? = some d → ∃ x y, d = .tup [x, y] ∧ xs[i]? = some x ∧ ys[i]? = some y
  | [], _, _, _, h => by simp [zipD] at h
  | _ :: _, [], _, _, h => by simp [zipD] at h
  | x :: xs, y :: ys, 0, d, h => by
    have : D.tup [x, y] = d := by simpa [zipD] using h
    exact ⟨x, y, this.symm, rfl, rfl⟩
  | x :: xs, y :: ys, i + 1, d, h => zipD_get (xs := xs) (ys := ys) (i := i) (by simpa [zipD] using h)
theorem zipD_len : ∀ (xs ys : List D), (zipD xs ys).length = min xs.length ys.length
  | [], _ => by simp [zipD]
  | _ :: _, [] => by simp [zipD]
  | x :: xs, y :: ys => by
    show (zipD xs ys).length + 1 = _
    rw [zipD_len xs ys, List.length_cons, List.length_cons]
    omega
theorem pi_zp {a b : Expr} {M : Env → Store → R (List T)} {p pos tpos : Pos} {elts : List Expr} {kk : Nat} (hg : Gl X "zip") (hm : X.mg "zip" = none) (hn : noStar a = true) (hn2 : noStar b = true) (ha : PA X [a, b] (RdTs (gof u X) W M)) :
    PI X (.Tuple elts kk tpos) (.Call (.Name "zip" p) [a, b] [] pos) (RdI (gof u X) W true (itE .zip M)) := by
  refine PI.imp (RZ.pi_zipA hg hm ha (star_ok hn) (nostar_any (by simp [hn2]))) ?_
  rintro σ H R ⟨S, m, ρ, st, en, p⟩
  refine ⟨S, m, ρ, st, en, (Post.bind p).mono fun ts S1 m1 H1 x1 st1 p1 vs hvs => ?_⟩
  obtain ⟨w, e1, q⟩ := p1.opt
  have q2 := q m1 H1 Ext.refl st1
  unfold itF at e1
  split at e1 <;> try contradiction
  rename_i xs ys _
  cases e1
  obtain ⟨v, v', rfl, ev, ev2⟩ := encTs2 hvs
  obtain ⟨a1, vs1, rfl, t1, c1⟩ := ev
  obtain ⟨a2, vs2, rfl, t2, c2⟩ := ev2
  refine ⟨a1, a2, vs1, vs2, rfl, .inr ⟨t1.sq, t2.sq, q2 (fun k e => by cases e) _ ⟨fun S m H i x s hi => ?_, fun S m H x s => ?_, fun S m H i d y H' x s hd hy => ?_⟩⟩⟩
  · rw [zipD_len] at hi
    have i1 : i < vs1.length := by rw [c1.length]; omega
    have i2 : i < vs2.length := by rw [c2.length]; omega
    exact ⟨vs1, vs2, _, _, (x.tk _ _ t1).sq, (x.tk _ _ t2).sq, List.getElem?_eq_getElem i1, List.getElem?_eq_getElem i2⟩
  · refine ⟨vs1, vs2, (x.tk _ _ t1).sq, (x.tk _ _ t2).sq, ?_⟩
    rw [zipD_len, c1.length, c2.length]
    omega
  · obtain ⟨d1, d2, rfl, g1, g2⟩ := zipD_get hd
    obtain ⟨T0, w1, w2, rfl, hT, rfl, k1, k2⟩ := hy
    obtain ⟨v1, f1, f2⟩ := c1.get g1
    obtain ⟨v2, f3, f4⟩ := c2.get g2
    have z1 := k1 vs1 (x.tk _ _ t1).sq
    have z2 := k2 vs2 (x.tk _ _ t2).sq
    rw [f1] at z1
    rw [f3] at z2
    cases z1
    cases z2
    exact weak_pair s hT (x.enc f2) (x.enc f4)
theorem enumD_get : ∀ {xs : List D} {k : Int} {i : Nat} {d : D}, (enumD k xs)[i]? = some d → ∃ x, d = .tup [.int (k + i), x] ∧ xs[i]? = some x
  | [], _, _, _, h => by simp [enumD] at h
  | x :: xs, k, 0, d, h => by
    have : D.tup [.int k, x] = d := by simpa [enumD] using h
    exact ⟨x, by rw [← this]; simp, rfl⟩
  | x :: xs, k, i + 1, d, h => by
    obtain ⟨y, e1, e2⟩ := enumD_get (xs := xs) (k := k + 1) (i := i) (by simpa [enumD] using h)
    refine ⟨y, ?_, by simpa using e2⟩
    rw [e1]
    have : k + 1 + (i : Int) = k + ((i + 1 : Nat) : Int) := by omega
    rw [this]
theorem enumD_len : ∀ (xs : List D) (k : Int), (enumD k xs).length = xs.length
  | [], _ => rfl
  | x :: xs, k => by
    show (enumD (k + 1) xs).length + 1 = xs.length + 1
    rw [enumD_len xs]
theorem pi_en {a : Expr} {M : Env → Store → R (List T)} {p pos tpos : Pos} {elts : List Expr} {kk : Nat} (hg : Gl X "enumerate") (hm : X.mg "enumerate" = none) (hn : noStar a = true) (ha : PA X [a] (RdTs (gof u X) W M)) :
    PI X (.Tuple elts kk tpos) (.Call (.Name "enumerate" p) [a] [] pos) (RdI (gof u X) W true (itE .enum M)) := by
  refine PI.imp (pi_enumT hg hm ha (star_ok hn)) ?_
  rintro σ H R ⟨S, m, ρ, st, en, p⟩
  refine ⟨S, m, ρ, st, en, (Post.bind p).mono fun ts S1 m1 H1 x1 st1 p1 vs hvs => ?_⟩
  obtain ⟨w, e1, q⟩ := p1.opt
  have q2 := q m1 H1 Ext.refl st1
  unfold itF at e1
  split at e1 <;> try contradiction
  rename_i xs _
  cases e1
  obtain ⟨v, rfl, ev⟩ := encTs1 hvs
  obtain ⟨a1, vs1, rfl, t1, c1⟩ := ev
  refine ⟨a1, vs1, rfl, t1.sq, q2 (fun k e => by cases e) _ ⟨fun S m H i x s hi => ?_, fun S m H x s => ?_, fun S m H i d y H' x s hd hy => ?_⟩⟩
  · rw [enumD_len] at hi
    have i1 : i < vs1.length := by rw [c1.length]; omega
    exact ⟨vs1, _, (x.tk _ _ t1).sq, List.getElem?_eq_getElem i1⟩
  · refine ⟨vs1, (x.tk _ _ t1).sq, ?_⟩
    rw [enumD_len, c1.length]
  · obtain ⟨d1, rfl, g1⟩ := enumD_get hd
    obtain ⟨T0, w1, rfl, hT, rfl, k1⟩ := hy
    obtain ⟨v1, f1, f2⟩ := c1.get g1
    have z1 := k1 vs1 (x.tk _ _ t1).sq
    rw [f1] at z1
    cases z1
    exact weak_pair s hT (show Enc _ _ _ _ _ _ by
      have : (0 : Int) + (i : Int) = ((i : Nat) : Int) := by omega
      rw [this]
      exact rfl) (x.enc f2)
theorem pi_it {e : Expr} {E : Env → Store → R T} {apos cpos : Pos} {elts : List Expr} {kk : Nat} {tpos : Pos} (he : PE X e (RdE (gof u X) W E)) (hbase : attributeBase e "items" X.env (eval e X.env) = eval e X.env) (hline : (apos.endLine == cpos.line) = true) :
    PI X (.Tuple elts kk tpos) (.Call (.Attribute e "items" apos) [] [] cpos) (RdI (gof u X) W true fun ρ S => (E ρ S).bind fun t S1 => (match t with
      | .v (.ref k) => opt ((asT (.v (.ref k)) S1).map fun kvs => (itemD kvs, lockFor S1 k)) S1
      | _ => .bad)) := by
  refine PI.imp (pi_itemsR he hbase hline) ?_
  rintro σ H R ⟨S, m, ρ, st, en, p⟩
  refine sub st en ((Post.bind p).mono fun t S1 m1 H1 x1 st1 p1 v fv ev => ?_)
  split at p1
  · rename_i k
    obtain ⟨w, e1, q⟩ := p1.opt
    have q2 := q m1 H1 Ext.refl st1
    cases e2 : asT (.v (.ref k)) S1 with
    | none =>
      rw [e2] at e1
      cases e1
    | some kvs =>
      rw [e2] at e1
      cases e1
      obtain ⟨hk1, hk2⟩ := (show k < S1.length ∧ v = V.ref (m1 k) from ev)
      subst hk2
      have ec := List.getElem?_eq_getElem hk1
      have cr := st1.cell k _ ec
      have e3 : (match S1[k]? with | some (.dT _ xs) => some xs | _ => none) = some kvs := e2
      have on := @lockFor_on S1 k
      rw [ec] at e3
      revert ec cr e3 on
      generalize S1[k]'hk1 = c
      intro ec cr e3 on
      cases c with
      | lst b zs => cases e3
      | ro zs => cases e3
      | dT b zs =>
        cases e3
        have k0 : 0 < k := by
          rcases Nat.eq_zero_or_pos k with z | z
          · obtain ⟨ws, hz⟩ := st1.zero
            rw [z, hz] at ec
            cases ec
          · exact z
        obtain ⟨o, es, ep, h1, h2, h3, h4, h5, h6, h7⟩ := cr
        obtain ⟨ps, g1, g2⟩ := ents_vals h6
        have hl : ps.length = kvs.length := Paired.length g2
        have kept : ∀ {S m H}, Ext (gof u X) (lockO S1 (lockFor S1 k) true) m1 H1 S m H → H (m1 k) = some (RawO (m1 k) o) := fun {S m H} x =>
          keep_lock x (st1.lockO _ _) k0 (by rw [lockO_len]; exact hk1) (on ec rfl) h1 (fun ps z => by unfold RawO at z; cases z)
        refine ⟨m1 k, o, es, ep, ps, rfl, h1, h2, h3, h4, g1, q2 (lockFor_F S1 k) _ ⟨fun S m H i x s hi => ?_, fun S m H x s => ?_, fun S m H i d y H' x s hd hy => ?_⟩⟩
        · refine ⟨kept x, ?_⟩
          have : (itemD kvs).length = kvs.length := List.length_map _
          rw [hl, ← this]
          exact hi
        · refine ⟨kept x, ?_⟩
          have : (itemD kvs).length = kvs.length := List.length_map _
          rw [hl, ← this]
          exact Nat.le_refl _
        · obtain ⟨T0, b, w, hb, rfl, hT, rfl⟩ := hy
          have hd' : (kvs.map fun p => D.tup [p.1, p.2])[i]? = some d := hd
          rw [List.getElem?_map] at hd'
          cases e5 : kvs[i]? with
          | none =>
            rw [e5] at hd'
            cases hd'
          | some kv =>
            rw [e5] at hd'
            cases hd'
            obtain ⟨p, f1, f2, f3⟩ := pget g2 e5
            rw [hb] at f1
            cases f1
            exact weak_pair s hT (x.enc (by rw [lockO_len]; exact f2)) (x.enc (by rw [lockO_len]; exact f3))
  · exact p1.elim
end
end Ev
-- EvS13
set_option Elab.async false
set_option linter.all false
set_option maxRecDepth 100000
set_option maxHeartbeats 4000000
/-! EvS13: for, comprehensions. -/
namespace Ev
open PySem PySem.Spec PyProof.Rows L2
section
variable {X : Cx} {u : Tb} {W : WX}
/-- behind the loop's lock -/
theorem lock_start {g : Gx} {S : Store} {m : Nat → Addr} {H : Hp} (st : StRel g S m H) (o : Option Nat) : Ext g (lockO S o true) m H (lockO S o true) m H ∧ StRel g (lockO S o true) m H := ⟨Ext.refl, st.lockO o true⟩
theorem ps_fo {sn : Str → Bool} (c : Ctx u sn X W) {tg iter : Expr} {t : Tg} {weak : Bool} {body : List Stmt} {I : Env → Store → R (List D × Option Nat)} {f : Env → Store → SR} {pos : Pos} (ht : cG X.N sn tg = some t) (hw : weak = true → t.isTup = true)
    (hi : PI X tg iter (RdI (gof u X) W weak I)) (hb : PSs X body (RdS (gof u X) W f)) (hs : ∀ x, foldedSetIterable iter X.env x = pure x) :
    PS X (.For tg iter body [] pos) (RdS (gof u X) W fun ρ S => thenS (I ρ S) ρ fun w S1 => unlockS w.2 (loopS (fun x ρ1 S2 => match asg t x ρ1 with
        | some ρ2 => f ρ2 S2
        | none => .bad) w.1 ρ (lockO S1 w.2 true))) := by
  refine PS.imp (ps_for c.po c.calm hi (pg_ok c tg t ht weak hw) hb hs) ?_
  rintro De σ H ⟨S, m, ρ, st, en, p⟩
  refine ⟨S, m, ρ, st, en, (PostS.thenK en p).mono fun w S1 m1 H1 x1 st1 p1 => ?_⟩
  intro lf J wk
  obtain ⟨xs, o⟩ := w
  dsimp only at p1 lf wk
  have en1 := x1.env en
  have st1' := st1.lockO o true
  refine ⟨fun i k σ2 H2 => k = xs.length - i ∧ i ≤ xs.length ∧ ∃ S2 m2 ρ2, Ext (gof u X) (lockO S1 o true) m1 H1 S2 m2 H2 ∧ StRel (gof u X) S2 m2 H2 ∧ EnvRel (gof u X) H2 m2 S2.length ρ2 σ2 ∧
    PostS (gof u X) W S m H De (unlockS o (loopS (fun x ρ1 S2 => match asg t x ρ1 with | some ρ2 => f ρ2 S2 | none => .bad) (xs.drop i) ρ2 S2)), ⟨_, rfl, Nat.zero_le _, lockO S1 o true, m1, ρ, Ext.refl, st1', by rw [lockO_len]; exact en1, p1⟩, ?_⟩
  rintro i k σ2 H2 ⟨hk, hi', S2, m2, ρ2, x2, st2, en2, p2⟩
  by_cases he : i = xs.length
  · left
    subst he
    refine ⟨wk.stop S2 m2 H2 x2 st2, ?_⟩
    rw [List.drop_length] at p2
    have x3 := x1.trans (Ext.unlockO st1 st2 lf x2)
    exact p2 m2 H2 σ2 x3 (st2.lockO o false) (by rw [lockO_len]; exact en2)
  · right
    have hlt : i < xs.length := Nat.lt_of_le_of_ne hi' he
    refine ⟨wk.go S2 m2 H2 i x2 st2 hlt, fun σ' H' => (xs.length - (i + 1)) < k ∧ ∃ S2 m2 ρ2, Ext (gof u X) (lockO S1 o true) m1 H1 S2 m2 H' ∧ StRel (gof u X) S2 m2 H' ∧ EnvRel (gof u X) H' m2 S2.length ρ2 σ' ∧
      PostS (gof u X) W S m H De (unlockS o (loopS (fun x ρ1 S2 => match asg t x ρ1 with | some ρ2 => f ρ2 S2 | none => .bad) (xs.drop (i + 1)) ρ2 S2)), fun σ' H' h => ⟨xs.length - (i + 1), h.1, rfl, hlt, h.2⟩, fun x H' hy => ?_⟩
    obtain ⟨x3, st3, ex⟩ := wk.yld S2 m2 H2 i _ x H' x2 st2 (List.getElem?_eq_getElem hlt) hy
    rw [List.drop_eq_getElem_cons hlt] at p2
    have x23 := x2.trans x3
    cases ea : asg t xs[i] ρ2 with
    | none =>
      have p3 : PostS (gof u X) W S m H De (unlockS o (match (match asg t xs[i] ρ2 with | some ρ3 => f ρ3 S2 | none => SR.bad) with | .ok .nx ρ1 S1 => loopS (fun x ρ1 S2 => match asg t x ρ1 with | some ρ2 => f ρ2 S2 | none => .bad) (xs.drop (i + 1)) ρ1 S1 | .ok .ct ρ1 S1 => loopS (fun x ρ1 S2 => match asg t x ρ1 with | some ρ2 => f ρ2 S2 | none => .bad) (xs.drop (i + 1)) ρ1 S1 | .ok .bk ρ1 S1 => .ok .nx ρ1 S1 | r => r)) := p2
      rw [ea] at p3
      exact p3.elim
    | some ρ3 =>
      have p3 : PostS (gof u X) W S m H De (unlockS o (match (match asg t xs[i] ρ2 with | some ρ3 => f ρ3 S2 | none => SR.bad) with | .ok .nx ρ1 S1 => loopS (fun x ρ1 S2 => match asg t x ρ1 with | some ρ2 => f ρ2 S2 | none => .bad) (xs.drop (i + 1)) ρ1 S1 | .ok .ct ρ1 S1 => loopS (fun x ρ1 S2 => match asg t x ρ1 with | some ρ2 => f ρ2 S2 | none => .bad) (xs.drop (i + 1)) ρ1 S1 | .ok .bk ρ1 S1 => .ok .nx ρ1 S1 | r => r)) := p2
      rw [ea] at p3
      dsimp only at p3
      refine ⟨S2, m2, ρ2, xs[i], ρ3, st3, x3.env en2, ex, ea, fun σ3 en3 _ => ⟨S2, m2, ρ3, st3, en3, ?_⟩⟩
      revert p3
      generalize f ρ3 S2 = r
      intro p3
      have less : xs.length - (i + 1) < k := by omega
      have again : ∀ {ρ4 : Env} {S4 : Store} {m4 : Nat → Addr} {H4 : Hp} {σ4 : L2.St}, Ext (gof u X) S2 m2 H' S4 m4 H4 → Ext (gof u X) S m H (lockO S4 o false) m4 H4 ∨ True := fun _ => .inr trivial
      cases r with
      | ok fl ρ4 S4 =>
        cases fl with
        | nx => exact fun m4 H4 σ4 x4 st4 en4 => ⟨less, S4, m4, ρ4, x23.trans x4, st4, en4, p3⟩
        | ct => exact fun m4 H4 σ4 x4 st4 en4 => ⟨less, S4, m4, ρ4, x23.trans x4, st4, en4, p3⟩
        | bk => exact fun m4 H4 σ4 x4 st4 en4 => p3 m4 H4 σ4 (x1.trans (Ext.unlockO st1 st4 lf (x23.trans x4))) (st4.lockO o false) (by rw [lockO_len]; exact en4)
        | rt tv =>
          intro m4 H4 σ4 x4 st4 en4 v fr en5
          have z := p3 m4 H4 σ4 (x1.trans (Ext.unlockO st1 st4 lf (x23.trans x4))) (st4.lockO o false) (by rw [lockO_len]; exact en4)
          refine z v (FreT.back (x1.trans (Ext.unlockO st1 st3 lf x23)) fr) ?_
          rw [lockO_len]
          exact en5
      | exc e ρ4 S4 => exact fun m4 H4 σ4 cl x4 st4 en4 q1 q2 => p3 m4 H4 σ4 cl (x1.trans (Ext.unlockO st1 st4 lf (x23.trans x4))) (st4.lockO o false) (by rw [lockO_len]; exact en4) q1 q2
      | bad => exact p3.elim

/-! ### comprehensions -/
abbrev WF : WX := fun _ _ _ _ => False
/-- the names that a block may store to -/
def blkSt (scope sc : Scope) (x : Str) : Bool := decide ((relS scope sc).names.lookup x = some .local) || decide (scope.names.lookup x = some .cell)
theorem blk_ctx {sn : Str → Bool} (c : Ctx u sn X W) (s : Shared) (H : Hp) (scope : Scope) (C : Addr) (cl : List (Str × Addr)) (fp : List Addr) : Ctx u (blkSt scope X.env.scope) (X.blk s H scope (compEnvC scope cl C X.env) fp) WF where
  nd := c.nd
  fn := fun x h => by
    unfold blkSt at h
    rw [Bool.or_eq_true, decide_eq_true_eq, decide_eq_true_eq] at h
    rcases h with h | h
    · have h' : (compEnvC scope cl C X.env).scope.names.lookup x = some .local := h
      exact ⟨.inl h', .inr h'⟩
    · have h2 : (relS scope X.env.scope).names.lookup x = some .cell := lookup_relS_keep (by simp) h
      have h' : (compEnvC scope cl C X.env).scope.names.lookup x = some .cell := h2
      refine ⟨.inr h', .inl ?_⟩
      show (scope.names.lookup x == some .cell) = true
      rw [h]
      rfl
  calm := c.calm
  tk := LamX.takes0
  po := PassesOwn.never
  un := c.un
theorem noX_bind {α β γ : Type} {r : R α} {f : α → Store → R β} {h : β → Store → R γ} {g : Gx} {S S1 : Store} {m m1 : Nat → Addr} {H H1 : Hp} {σ σ' : L2.St} {K : γ → Store → (Nat → Addr) → Hp → Prop} (p : Post g W S m H σ K ((noX (r.bind f)).bind h)) :
    Post g WF S1 m1 H1 σ' (fun a S2 _ _ => Post g W S m H σ K ((noX (f a S2)).bind h)) r := by
  cases r with
  | ok a S' => exact fun _ _ _ _ => p
  | exc e S' => exact p.elim
  | bad => exact p
theorem noX_ok {α β γ : Type} {r : R α} {k : α → β} {h : β → Store → R γ} : (noX (r.bind fun a S => .ok (k a) S)).bind h = (noX r).bind fun a S => h (k a) S := by
  cases r <;> rfl
/-- one turn of a comprehension -/
def turnC (own : List Nat) (E : Env → Store → R T) (t : Tg) (B : Env → Store → R Bool) (ρ : Env) : D → Store → R (Option D) := fun x S2 => match asg t x (wipeE ρ own) with
  | some ρ' => (B ρ' S2).bind fun k S3 => if k then (E ρ' S3).bind fun t S4 => (mat t S4).bind fun d S5 => .ok (some d) S5 else .ok none S3
  | none => .bad
def lcE (own : List Nat) (E : Env → Store → R T) (t : Tg) (I : Env → Store → R (List D × Option Nat)) (B : Env → Store → R Bool) : Env → Store → R T := fun ρ S =>
  (I ρ S).bind fun w S1 => if w.1.length ≤ lim then (noX (loopC (turnC own E t B ρ) w.1 (lockO S1 w.2 true))).bind fun ys S2 => .ok (.l ys) (lockO S2 w.2 false) else .bad
theorem lc_sub {own : List Nat} {E : Env → Store → R T} {t : Tg} {I : Env → Store → R (List D × Option Nat)} {B : Env → Store → R Bool} {weak : Bool} {σ : L2.St} {H : Hp} {Q : VK} {g : Gx} (hv : ∀ i ∈ t.vars, i ∈ own) (h : RdE g W (lcE own E t I B) σ H Q) :
    tLc (RdI g W weak I) (RdG g weak t) (RdB g WF B) (RdE g WF E) own σ H Q := by
  obtain ⟨S, m, ρ, st, en, p⟩ := h
  refine ⟨S, m, ρ, st, en, (Post.bindK Ext.refl p).mono fun w S1 m1 H1 x1 st1 p1 => ?_⟩
  intro lf J wk
  obtain ⟨xs, o⟩ := w
  dsimp only at p1 lf wk
  have hlim : xs.length ≤ lim := by
    rcases Nat.lt_or_ge lim xs.length with h | h
    · rw [if_neg (Nat.not_le.mpr h)] at p1
      exact p1.elim
    · exact h
  rw [if_pos hlim] at p1
  intro Dd hD
  have en1 := x1.env en
  have st1' := st1.lockO o true
  have hD0 : Fr H Dd := x1.free (Fr.of hD)
  obtain ⟨xa, sta⟩ := alloc_ok (o := .lst []) st1' hD
  refine ⟨fun i k H2 => k = xs.length - i ∧ i ≤ xs.length ∧ ∃ S2 m2 accD accV, Ext g (lockO S1 o true) m1 H1 S2 m2 H2 ∧ StRel g S2 m2 H2 ∧ H2 Dd = some (.lst accV) ∧ EncAll g H2 m2 S2.length accD accV ∧ accD.length ≤ i ∧ (∀ j, 0 < j → j < S2.length → m2 j ≠ Dd) ∧
    Post g W S m H σ (KE g H Q) ((noX (loopC (turnC own E t B ρ) (xs.drop i) S2)).bind fun ys S' => .ok (.l (accD ++ ys)) (lockO S' o false)),
    ⟨_, rfl, Nat.zero_le _, lockO S1 o true, m1, [], [], xa, sta, upd_same, EncAll.nil, Nat.le_refl _, st1'.apart hD, p1⟩, ?_⟩
  rintro i k H2 ⟨hk, hi', S2, m2, accD, accV, x2, st2, hacc, eacc, lacc, ap2, p2⟩
  by_cases he : i = xs.length
  · left
    subst he
    refine ⟨wk.stop S2 m2 H2 x2 st2, ?_⟩
    rw [List.drop_length] at p2
    have x3 := x1.trans (Ext.unlockO st1 st2 lf x2)
    have q := p2 m2 H2 x3 (st2.lockO o false) (.ref Dd) (fun r e => by cases e; exact hD0)
    refine q ⟨Dd, accV, rfl, hacc, by rw [List.append_nil, lockO_len]; exact eacc, fun j j0 hj => ap2 j j0 (by rw [lockO_len] at hj; exact hj)⟩
  · right
    have hlt : i < xs.length := Nat.lt_of_le_of_ne hi' he
    refine ⟨wk.go S2 m2 H2 i x2 st2 hlt, fun H' => (xs.length - (i + 1)) < k ∧ ∃ S2 m2 accD accV, Ext g (lockO S1 o true) m1 H1 S2 m2 H' ∧ StRel g S2 m2 H' ∧ H' Dd = some (.lst accV) ∧ EncAll g H' m2 S2.length accD accV ∧ accD.length ≤ i + 1 ∧ (∀ j, 0 < j → j < S2.length → m2 j ≠ Dd) ∧
      Post g W S m H σ (KE g H Q) ((noX (loopC (turnC own E t B ρ) (xs.drop (i + 1)) S2)).bind fun ys S' => .ok (.l (accD ++ ys)) (lockO S' o false)), fun H' h => ⟨xs.length - (i + 1), h.1, rfl, hlt, h.2⟩, fun x H' hy => ?_⟩
    obtain ⟨x3, st3, ex⟩ := wk.yld S2 m2 H2 i _ x H' x2 st2 (List.getElem?_eq_getElem hlt) hy
    rw [List.drop_eq_getElem_cons hlt] at p2
    have x23 := x2.trans x3
    have less : xs.length - (i + 1) < k := by omega
    have p3 : Post g W S m H σ (KE g H Q) ((noX ((turnC own E t B ρ xs[i] S2).bind fun o' S1' => (loopC (turnC own E t B ρ) (xs.drop (i + 1)) S1').bind fun ys S2' => .ok (match o' with | some y => y :: ys | none => ys) S2')).bind fun ys S' => .ok (.l (accD ++ ys)) (lockO S' o false)) := p2
    unfold turnC at p3
    cases ea : asg t xs[i] (wipeE ρ own) with
    | none =>
      rw [ea] at p3
      exact p3.elim
    | some ρ3 =>
      rw [ea] at p3
      dsimp only at p3
      have accKeep : ∀ {S4 : Store} {m4 : Nat → Addr} {H4 : Hp}, Ext g S2 m2 H' S4 m4 H4 → H4 Dd = some (.lst accV) := fun {S4 m4 H4} x4 => by
        have a1 : H' Dd = some (.lst accV) := keep_free x3 st2 hacc (fun ps z => by cases z) ap2
        exact keep_free x4 st3 a1 (fun ps z => by cases z) ap2
      have apUp : ∀ {S4 : Store} {m4 : Nat → Addr} {H4 : Hp}, Ext g S2 m2 H' S4 m4 H4 → ∀ j, 0 < j → j < S4.length → m4 j ≠ Dd := fun {S4 m4 H4} x4 =>
        apart_up x4 ⟨_, accKeep Ext.refl, fun ps z => by cases z⟩ ap2
      refine ⟨S2, m2, wipeE ρ own, xs[i], ρ3, st3, (x23.env (by rw [lockO_len]; exact wipe_env en1 own)), ex, ea, fun σ3 en3 sm => ⟨wipe_same sm hv, ?_⟩⟩
      rw [R.bind_assoc] at p3
      refine ⟨S2, m2, ρ3, st3, en3, (noX_bind p3).mono fun b S4 m4 H4 x4 st4 p4 => ?_⟩
      cases b with
      | false =>
        have p5 : Post g W S m H σ (KE g H Q) ((noX ((loopC (turnC own E t B ρ) (xs.drop (i + 1)) S4).bind fun ys S2' => .ok ys S2')).bind fun ys S' => .ok (.l (accD ++ ys)) (lockO S' o false)) := p4
        rw [R.bind_ok] at p5
        exact ⟨less, S4, m4, accD, accV, x23.trans x4, st4, accKeep x4, (x3.trans x4).encAll eacc, Nat.le_succ_of_le lacc, apUp x4, p5⟩
      | true =>
        have p5 : Post g W S m H σ (KE g H Q) ((noX (((E ρ3 S4).bind fun t S4 => (mat t S4).bind fun d S5 => .ok (some d) S5).bind fun o' S1' => (loopC (turnC own E t B ρ) (xs.drop (i + 1)) S1').bind fun ys S2' => .ok (match o' with | some y => y :: ys | none => ys) S2')).bind fun ys S' => .ok (.l (accD ++ ys)) (lockO S' o false)) := p4
        rw [R.bind_assoc] at p5
        refine ⟨S4, m4, ρ3, st4, x4.env en3, (noX_bind p5).mono fun tv S5 m5 H5 x5 st5 p6 v fv ev => ?_⟩
        obtain ⟨d, S6, e6⟩ := mat_cases tv S5
        obtain ⟨m6, x6, st6, en6⟩ := mat_ok x5 st5 ev fv e6
        have p7 : Post g W S m H σ (KE g H Q) ((noX (((mat tv S5).bind fun d S5 => .ok (some d) S5).bind fun o' S1' => (loopC (turnC own E t B ρ) (xs.drop (i + 1)) S1').bind fun ys S2' => .ok (match o' with | some y => y :: ys | none => ys) S2')).bind fun ys S' => .ok (.l (accD ++ ys)) (lockO S' o false)) := p6
        rw [e6] at p7
        have p8 : Post g W S m H σ (KE g H Q) ((noX ((loopC (turnC own E t B ρ) (xs.drop (i + 1)) S6).bind fun ys S2' => .ok (d :: ys) S2')).bind fun ys S' => .ok (.l (accD ++ ys)) (lockO S' o false)) := p7
        rw [noX_ok] at p8
        have x46 := x4.trans x6
        have a5 := accKeep x46
        have hlen : accV.length < sizeLine := by
          rw [eacc.length]
          exact Nat.lt_of_lt_of_le (Nat.lt_of_lt_of_le (Nat.lt_of_le_of_lt lacc hlt) hlim) lim_le
        refine ⟨accV, a5, hlen, less, ?_⟩
        obtain ⟨xw, stw⟩ := free_write (o := .lst (accV ++ [v])) (x23.trans x46) st6 hD a5 rfl (fun a q z => by cases z) (apUp x46)
        have tk : TK g H5 (upd H5 Dd (.lst (accV ++ [v]))) := TK.write a5 rfl
        refine ⟨S6, m6, accD ++ [d], accV ++ [v], xw, stw, upd_same, ?_, ?_, apUp x46, ?_⟩
        · exact EncAll.mono tk (Nat.le_refl _) (fun _ _ => rfl) _ _ (((x3.trans x46).encAll eacc).append (EncAll.cons en6 EncAll.nil))
        · rw [List.length_append]
          exact Nat.succ_le_succ lacc
        · have e9 : (fun (ys : List D) (S' : Store) => R.ok (T.l (accD ++ [d] ++ ys)) (lockO S' o false)) = fun ys S' => .ok (.l (accD ++ d :: ys)) (lockO S' o false) := by
            funext ys S'
            rw [List.append_assoc]
            rfl
          rw [e9]
          exact p8
/-- the conditions of a comprehension -/
theorem pts0 {X : Cx} : PTs X [] (RdB (gof u X) W (evC [])) := by
  refine ⟨fun pins s σ H Q I h => pts_nil.run pins s σ H Q I ?_⟩
  obtain ⟨S, m, ρ, st, en, p⟩ := h
  exact Post.here (a := true) st p
theorem pts1 {X : Cx} {e : Expr} {sm : Sm} (h : PT X e (RdB (gof u X) W sm.B)) : PTs X [e] (RdB (gof u X) W (evC [sm])) := by
  refine ⟨fun pins s σ H Q I hq => (pts_one h).run pins s σ H Q I ?_⟩
  obtain ⟨S, m, ρ, st, en, p⟩ := hq
  refine ⟨S, m, ρ, st, en, (Post.bind p).mono fun k S1 m1 H1 x1 st1 p1 => ?_⟩
  cases k with
  | true => exact Post.here (a := true) st1 p1
  | false => exact Post.here (a := false) st1 p1
theorem pe_lcE {sn : Str → Bool} (c : Ctx u sn X W) {elt tg iter : Expr} {ifs : List Expr} {scope : Scope} {own : List (Str × Nat)} {pos : Pos} {E : Env → Store → R T} {t : Tg} {I : Env → Store → R (List D × Option Nat)} {B : Env → Store → R Bool} {weak : Bool}
    (ht : cG X.N (blkSt scope X.env.scope) tg = some t) (hw : weak = true → t.isTup = true) (hv : ∀ i ∈ t.vars, i ∈ own.map (·.2)) (hi : PI X tg iter (RdI (gof u X) W weak I)) (ok : blkC X.N X.env.scope scope own = true)
    (hcs : ∀ X', Ctx u (blkSt scope X.env.scope) X' WF → X'.N = X.N → X'.env.scope = relS scope X.env.scope → gof u X' = gof u X → X'.stack = X.stack → X'.A = X.A → PTs X' ifs (RdB (gof u X) WF B) ∧ PE X' elt (RdE (gof u X) WF E)) (hs : ∀ x, foldedSetIterable iter X.env x = pure x) :
    PE X (.ListComp elt [⟨tg, iter, ifs, 0⟩] scope pos) (RdE (gof u X) W (lcE (own.map (·.2)) E t I B)) := by
  refine PE.imp (pe_lc (wi := RdI (gof u X) W weak I) (g := RdG (gof u X) weak t) (tt := RdB (gof u X) WF B) (te := RdE (gof u X) WF E) c.calm c.nd hi (blkOk_by ok) (fun s H C cl fp => pg_ok (blk_ctx c s H scope C cl fp) tg t ht weak hw) (fun s H C cl fp => (hcs _ (blk_ctx c s H scope C cl fp) rfl rfl rfl rfl rfl).1) (fun s H C cl fp => (hcs _ (blk_ctx c s H scope C cl fp) rfl rfl rfl rfl rfl).2) hs) ?_
  exact fun σ H Q h => lc_sub hv h
theorem ps_lcE {sn : Str → Bool} (c : Ctx u sn X W) {elt tg iter : Expr} {ifs : List Expr} {scope : Scope} {own : List (Str × Nat)} {pos spos py : Pos} {y : Str} {i : Nat} {E : Env → Store → R T} {t : Tg} {I : Env → Store → R (List D × Option Nat)} {B : Env → Store → R Bool} {weak : Bool}
    (ht : cG X.N (blkSt scope X.env.scope) tg = some t) (hw : weak = true → t.isTup = true) (hv : ∀ i ∈ t.vars, i ∈ own.map (·.2)) (hi : PI X tg iter (RdI (gof u X) W weak I)) (ok : blkC X.N X.env.scope scope own = true)
    (hcs : ∀ X', Ctx u (blkSt scope X.env.scope) X' WF → X'.N = X.N → X'.env.scope = relS scope X.env.scope → gof u X' = gof u X → X'.stack = X.stack → X'.A = X.A → PTs X' ifs (RdB (gof u X) WF B) ∧ PE X' elt (RdE (gof u X) WF E)) (hs : ∀ x, foldedSetIterable iter X.env x = pure x)
    (hy : X.N[i]? = some y) (hyl : X.env.scope.names.lookup y = some .local) (hsw : swapsWith (.ListComp elt [⟨tg, iter, ifs, 0⟩] scope pos) (some (.Name y py)) spos.line X.env = pure true) :
    PS X (.Assign [.Name y py] (.ListComp elt [⟨tg, iter, ifs, 0⟩] scope pos) spos) (RdS (gof u X) W fun ρ S => thenS ((lcE (own.map (·.2)) E t I B ρ S).bind mat) ρ fun d S1 => (match asg (.v i) d ρ with | some ρ' => .ok .nx ρ' S1 | none => .bad)) := by
  refine PS.imp (ps_setLc (wi := RdI (gof u X) W weak I) (g := RdG (gof u X) weak t) (tt := RdB (gof u X) WF B) (te := RdE (gof u X) WF E) c.calm c.nd hy hyl hsw hi (blkOk_by ok) (fun s H C cl fp => pg_ok (blk_ctx c s H scope C cl fp) tg t ht weak hw) (fun s H C cl fp => (hcs _ (blk_ctx c s H scope C cl fp) rfl rfl rfl rfl rfl).1) (fun s H C cl fp => (hcs _ (blk_ctx c s H scope C cl fp) rfl rfl rfl rfl rfl).2) hs) ?_
  rintro De σ H ⟨S, m, ρ, st, en, p⟩
  refine lc_sub hv ⟨S, m, ρ, st, en, (PostS.thenS en p).mat.mono fun t1 S1 m1 H1 x1 st1 p1 v fv ev => ?_⟩
  obtain ⟨d, S2, m2, x2, st2, ed, p2⟩ := p1 v fv ev
  have ea : asg (.v i) d ρ = if i < ρ.length then some (ρ.set i (some d)) else none := by unfold asg; rfl
  rw [ea] at p2
  split at p2
  · rename_i ρ' e1
    split at e1
    · cases e1
      exact PostS.here st2 (env_set (x2.env en) ed) p2
    · cases e1
  · exact p2.elim
end
end Ev
-- EvS14
set_option Elab.async false
set_option linter.all false
set_option maxRecDepth 100000
set_option maxHeartbeats 4000000
/-! EvS14: calls of defs, raise, try. -/
namespace Ev
open PySem PySem.Spec PyProof.Rows L2
/-- a def's promise: what the evaluator gives -/
def spF (g : Gx) (F : List Fd) (i n : Nat) : Sp := fun vs H Q E => ∃ S m ds, StRel g S m H ∧ EncAll g H m S.length ds vs ∧ Post g (fun c d _ H' => E c d H') S m H [] (KE g H Q) (callN F n i ds S)
theorem spF_len {g : Gx} {F : List Fd} {i n : Nat} {fd : Fd} (hf : F[i]? = some fd) {vs : List V} {H : Hp} {Q : VK} {E : XK} (h : spF g F i n vs H Q E) : vs.length = fd.np := by
  obtain ⟨S, m, ds, st, ed, p⟩ := h
  cases n with
  | zero => exact p.elim
  | succ n =>
    have p' : Post g (fun c d _ H' => E c d H') S m H [] (KE g H Q) (match F[i]? with | some fd => runF n (callN F n) fd ds S | none => .bad) := p
    rw [hf] at p'
    dsimp only at p'
    unfold runF at p'
    split at p'
    · rename_i hl
      rw [ed.length]
      exact hl
    · exact p'.elim
/-- a def that tells whether what it got raises: in two ways of writing -/
inductive NoB (a e : Str) : List Stmt → Prop where
  | one (p1 p2 p3 p4 p5 p6 p7 p8 p9 p10 : Pos) (j j' : Nat) : NoB a e [.Try [.Expr (.Call (.Name a p1) [] [] p2) p3, .Return (some (.Constant (.bool false) j p4)) p5] [.ExceptHandler (some (.Name e p6)) none [.Return (some (.Constant (.bool true) j' p7)) p8] p9] [] [] p10]
  | two (p1 p2 p3 p4 p5 p6 p7 p8 p9 p10 : Pos) (j j' : Nat) : NoB a e [.Try [.Expr (.Call (.Name a p1) [] [] p2) p3] [.ExceptHandler (some (.Name e p6)) none [.Return (some (.Constant (.bool true) j' p7)) p8] p9] [] [] p10, .Return (some (.Constant (.bool false) j p4)) p5]
/-- what is known of the module -/
structure Fax (u : Tb) (n : Nat) (g : Gx) : Prop where
  fns : ∀ i x, u.fnm[i]? = some x → ∃ a fd ps, g.mg x = some (.ref a) ∧ PySem.W.keepIn g.K (.ref a) = true ∧ Binds g.K fd ps [] ∧ FnOk g.P g.w g.K g.mg g.base (CX g.P g.w) (3 * n) a fd ps (spF g u.F i n)
  con : ∀ x d, (x, d) ∈ u.con → ∃ v w, cV d = some v ∧ g.mg x = some w ∧ L2.RelV v w
  blt : ∀ x ∈ u.blt, g.mg x = none
  exc : ∀ x ∈ u.exc, ∃ C, g.mg x = some (.ref C)
  exm : ∀ x ∈ u.exc, ∀ y ∈ u.exc, ∀ cx cy, g.mg x = some cx → g.mg y = some cy → PySem.W.exmOne g.K cx cy = some (decide (x = y))
  exr : ∀ x ∈ u.exr, x ∈ u.exc ∧ ∃ C, g.mg x = some (.ref C) ∧ PySem.W.excIn g.K C [.type "ValueError", .type "Exception", .type "BaseException", .type "object"] "ValueError.__new__" = true ∧ PySem.W.keepIn g.K (.ref C) = true ∧
    PySem.W.subIn g.K (.ref C) (.type "BaseException") = some true ∧ PySem.W.typeIn g.K (.ref C) = some (.type "type")
  no : ∀ x e, u.no = some (x, e) → e ∈ u.exc ∧ (x == ("__debug__" : Str)) = false ∧ (e == ("__debug__" : Str)) = false ∧ ∃ (g0 : Addr) (pg : Arguments) (sg : Scope) (dV kV doc pm cdv ct oc : Value) (an od : Option Addr) (osl : Array (Option Value)) (a : Str) (Ng : List Str) (bg : List Stmt),
    g.mg x = some (.ref g0) ∧ PySem.W.keepIn g.K (.ref g0) = true ∧ PySem.W.codeIn g.K cdv x = true ∧ FnScope Ng [a] sg ∧ Ng[0]? = some a ∧ Vis sg a ∧ (a == ("__debug__" : Str)) = false ∧ (a == ("__classdict__" : Str)) = false ∧ sg.names.lookup e = some .globalImplicit ∧ NoB a e bg ∧
    g.K.lookup g0 = some ⟨oc, od, .func (PySem.W.fnOf x x pg bg sg dV kV doc pm an cdv ct), osl⟩ ∧ Binds g.K (PySem.W.fnOf x x pg bg sg dV kV doc pm an cdv ct) [a] []
/-- what a def's making of lambdas leans on -/
def LamF (u : Tb) (n : Nat) (X : Cx) : Prop := Room (3 * n + 2) X.A ∧ ∃ c P, LamX.TabB X.base X.mg c P ∧ X.env.code = .ref c ∧ (P, X.env.qual ++ "<lambda>") ∈ u.T ∧ ∀ p ∈ u.T, p.1 = P → p.2 = X.env.qual ++ "<lambda>"
section
variable {X : Cx} {u : Tb} {W : WX} {n : Nat}
theorem pe_cl (fx : Fax u n (gof u X)) (tk : Takes X W) (hr : Room (3 * n) X.A) {x : Str} {i : Nat} {e : Expr} {es : List Expr} {sms : List Sm} {p pos : Pos} (hi : u.fnm[i]? = some x) (hg : Gl X x) (hdb : (x == ("__debug__" : Str)) = false) (hs : (e :: es).all noStar = true)
    (ha : PA X (e :: es) (RdM (gof u X) W (evM sms))) : PE X (.Call (.Name x p) (e :: es) [] pos) (RdE (gof u X) W fun ρ S => fin S.length ((evM sms ρ S).bind fun ds S1 => callN u.F n i ds S1)) := by
  obtain ⟨a, fd, ps, h1, h2, h3, h4⟩ := fx.fns i x hi
  rw [List.all_cons, Bool.and_eq_true] at hs
  refine PE.imp (pe_callSD (E := WE W) h4 hr hg h1 h2 h3 .nil (passAt tk) ha hdb (star_ok hs.1) (nostar_any hs.2)) ?_
  rintro σ H Q ⟨S, m, ρ, st, en, p⟩
  have p' := fin_ok st.pos p
  refine ⟨S, m, ρ, st, en, p'.bind.mono fun ds S1 m1 H1 x1 st1 p1 vs hvs => ?_⟩
  refine ⟨S1, m1, ds, st1, by rw [List.append_nil]; exact hvs, ?_⟩
  revert p1
  generalize callN u.F n i ds S1 = r
  intro p1
  cases r with
  | ok t S2 => exact fun m2 H2 x2 st2 v fv ev => p1 m2 H2 x2 st2 v (FreT.back x1 fv) ev
  | exc y S2 => exact fun m2 H2 c x2 st2 q1 q2 => p1 m2 H2 c x2 st2 q1 q2
  | bad => exact p1
/-- C() of an own class of ValueError's kind -/
theorem pmk_own0 {x : Str} {p pos : Pos} {C : Addr} (q : PySem.W.excIn X.K C [.type "ValueError", .type "Exception", .type "BaseException", .type "object"] "ValueError.__new__" = true) (gC : X.mg x = some (.ref C)) (kC : PySem.W.keepIn X.K (.ref C) = true) (r : Raises X (.ref C)) (hg : Gl X x)
    (hdb : (x == ("__debug__" : Str)) = false) : PMk X (.Call (.Name x p) [] [] pos) (fun _ H Q => Q (.ref C) none H) := by
  intro pins s σ H Q I h
  refine wpAny_Call_Name_kw (ld_glob I hg gC ?_ hdb)
  refine PySem.W.callWith_K0 I.kIn kC ?_
  obtain ⟨bm, N, nm, qn, bs, hdct, sn, sub, ab, col, dd, k0, k1, k2, k3, k5, mN, hC, hN, hni, T⟩ := exc_obj I.kIn q
  refine wpAny_call_exc_subT PySem.F.excBase_ValueError T hC hN hni (fun h' e hm => ?_) (Nat.zero_le _)
  exact mk_of I hm r h (I.hok.gone hm.new)
theorem ps_ra (fx : Fax u n (gof u X)) (tk : Takes X W) (hc : X.calm = true) {x : Str} {p p2 pos : Pos} (hx : x ∈ u.exr) (hg : Gl X x) (hdb : (x == ("__debug__" : Str)) = false) :
    PS X (.Raise (some (.Call (.Name x p) [] [] p2)) none pos) (RdS (gof u X) W fun ρ S => .exc ⟨x, []⟩ ρ S) := by
  obtain ⟨h0, C, h1, h2, h3, h4, h5⟩ := fx.exr x hx
  refine PS.imp (ps_raise hc tk (pmk_own0 h2 h1 h3 (raises_own h4 h5) hg hdb)) ?_
  rintro De σ H ⟨S, m, ρ, st, en, p⟩
  exact p m H σ (.ref C) Ext.refl st en h0 h1
/-- code that the evaluator does not follow -/
theorem ps_nv {st : Stmt} : PS X st (RdS (gof u X) W fun _ _ => .bad) := by
  refine PS.imp ps_never ?_
  rintro De σ H ⟨S, m, ρ, st, en, p⟩
  exact p
/-- try: .. except x: return c -/
theorem ps_tr (fx : Fax u n (gof u X)) (tk : Takes X W) (hs : X.stack = X.env :: X.outer) (hf : X.env.frame = some X.env.locals) {x : Str} {body : List Stmt} {np p1 p2 pos : Pos} {ce : Expr} {d : D} {v : V} {f : Env → Store → SR} (hx : x ∈ u.exc) (hg : Gl X x) (hdb : (x == ("__debug__" : Str)) = false)
    (hv : cV d = some v) (hce : ∀ X' : Cx, PE X' ce (tC v))
    (hb : ∀ (W' : WX) (pn : List (Addr × Obj)) (xe : Value → Shared → Prop), Takes (X.tr pn xe) W' → PassesOwn (model X.prog X.w) X.A X.env xe → PSs (X.tr pn xe) body (RdS (gof u X) W' f)) {C' : Calls} {n' : Nat} :
    PS X (.Try body [.ExceptHandler (some (.Name x np)) none [.Return (some ce) p2] p1] [] [] pos) (RdS (gof u X) W fun ρ S => tryS (f ρ S) x (fun ρ1 S1 => svs n' C' [.ret (.c d)] ρ1 S1)) := by
  obtain ⟨C, hC⟩ := fx.exc x hx
  refine PS.imp (ps_try_only (c := .ref C) (tb := fun W' => RdS (gof u X) W' f) (ts := fun _ _ _ => tRet (tC v)) hs hf ⟨hg, hdb, .inl hC⟩ tk hb (fun a oe cls d pn _ _ => pss_one (ps_ret (hce _)))) ?_
  rintro De σ H ⟨S, m, ρ, st, en, p⟩
  refine ⟨S, m, ρ, st, en, ?_⟩
  revert p
  dsimp only
  generalize f ρ S = r
  intro p
  cases r with
  | ok fl ρ1 S1 => exact p
  | bad => exact p
  | exc y ρ1 S1 =>
    intro m1 H1 σ1 cls x1 st1 en1 q1 q2
    refine ⟨decide (y.cls = x), fx.exm _ q1 _ hx _ _ q2 hC, fun hb a ha => ?_, fun hb => ?_⟩
    · have he : y.cls = x := of_decide_eq_true hb
      have p' : PostS (gof u X) W S m H De (if y.cls = x then svs n' C' [.ret (.c d)] ρ1 S1 else .exc y ρ1 S1) := p
      rw [if_pos he] at p'
      have p2 : PostS (gof u X) W S m H De (.ok (.rt (.v d)) ρ1 S1) := by
        unfold svs sv ev at p'
        exact p'
      exact p2 m1 H1 σ1 x1 st1 en1 v trivial (cV_enc hv)
    · have he : ¬ y.cls = x := of_decide_eq_false hb
      have p' : PostS (gof u X) W S m H De (if y.cls = x then svs n' C' [.ret (.c d)] ρ1 S1 else .exc y ρ1 S1) := p
      rw [if_neg he] at p'
      exact p' m1 H1 σ1 cls x1 st1 en1 q1 q2
/-! ### a def's body -/
theorem env_start {g : Gx} {H : Hp} {m : Nat → Addr} {n : Nat} {ds : List D} {vs : List V} (h : EncAll g H m n ds vs) (N : List Str) : EnvRel g H m n (startE N.length ds) (L2.start N vs) := by
  unfold startE L2.start
  have hl := h.length
  refine ⟨by simp [hl], fun i d e => ?_⟩
  by_cases hi : i < ds.length
  · rw [List.getElem?_append_left (by rw [List.length_map]; exact hi), List.getElem?_map] at e
    cases e1 : ds[i]? with
    | none =>
      rw [e1] at e
      cases e
    | some d' =>
      rw [e1] at e
      cases e
      obtain ⟨v, h1, h2⟩ := h.get e1
      refine ⟨v, ?_, h2⟩
      rw [List.getElem?_append_left (by rw [List.length_map, hl]; exact hi), List.getElem?_map, h1]
      rfl
  · rw [List.getElem?_append_right (by rw [List.length_map]; omega)] at e
    rw [List.getElem?_replicate] at e
    split at e <;> cases e
/-- from the def's call to its body -/
theorem body_run {g : Gx} {W : WX} {F : List Fd} {i n : Nat} {fd : Fd} {N : List Str} {vs : List V} {H : Hp} {Q : VK} {E : XK} (hW : ∀ c d σ H', E c d H' → W c d σ H') (hf : F[i]? = some fd) (hn : fd.nn = N.length) (h : spF g F i (n + 1) vs H Q E) :
    RdS g W (svs n (callN F n) fd.body) { nx := fun _ H' => Q .non H', rt := Q } (L2.start N vs) H := by
  obtain ⟨S, m, ds, st, ed, p⟩ := h
  have p' : Post g (fun c d _ H' => E c d H') S m H [] (KE g H Q) (match F[i]? with | some fd => runF n (callN F n) fd ds S | none => .bad) := p
  rw [hf] at p'
  dsimp only at p'
  unfold runF at p'
  split at p'
  · rw [hn] at p'
    refine ⟨S, m, startE N.length ds, st, env_start ed N, ?_⟩
    revert p'
    generalize svs n (callN F n) fd.body (startE N.length ds) S = r
    intro p'
    cases r with
    | ok fl ρ1 S1 =>
      cases fl with
      | nx => exact fun m1 H1 σ1 x1 st1 en1 => p' m1 H1 x1 st1 .non trivial rfl
      | rt t => exact fun m1 H1 σ1 x1 st1 en1 v fv ev => p' m1 H1 x1 st1 v fv ev
      | bk => exact p'.elim
      | ct => exact p'.elim
    | exc y ρ1 S1 => exact fun m1 H1 σ1 c x1 st1 en1 q1 q2 => hW _ _ _ _ (p' m1 H1 c x1 st1 q1 q2)
    | bad => exact p'.elim
  · exact p'.elim
end
end Ev
-- EvS15
set_option Elab.async false
set_option linter.all false
set_option maxRecDepth 100000
set_option maxHeartbeats 4000000
/-! EvS15: from the text to the evaluator's expressions. -/
namespace Ev
open PySem PySem.Spec PyProof.Rows L2
/-- the names around an expression -/
structure Sc where
  N : List Str
  sc : Scope
  sn : Str → Bool
  lam : Bool
structure Cz (u : Tb) (n : Nat) (z : Sc) (X : Cx) (W : WX) : Prop where
  c : Ctx u z.sn X W
  eN : X.N = z.N
  esc : X.env.scope = z.sc
  rm : Room (3 * n) X.A
  fx : Fax u n (gof u X)
  lm : z.lam = true → LamF u n X
section
variable {X : Cx} {u : Tb} {W : WX} {n : Nat} {z : Sc}
def okB : Ex → Bool
  | .and _ => false
  | .or _ => false
  | _ => true
theorem mkB_B (B : Env → Store → R Bool) : (mk (mkB B).E).B = B := by
  funext ρ S
  show ((B ρ S).bind fun k S1 => R.ok (T.v (.bl k)) S1).bind (fun t S1 => opt (truth t S1) S1) = B ρ S
  rw [R.bind_assoc]
  cases B ρ S <;> rfl
theorem okB_ok (C : Calls) {x : Ex} (h : okB x = true) : (ev C x).B = (mk (ev C x).E).B := by
  cases x <;> first | (cases h; done) | rfl | (unfold ev; rw [mkB_B]; rfl)
/-- what is walked by its value -/
def okI : Ex → Bool
  | .me .. => false
  | .bi b _ => !isIt b
  | .not _ => false
  | .cmp .. => false
  | .chn .. => false
  | .isNo .. => false
  | .isin .. => false
  | _ => true
theorem okI_ok (C : Calls) {x : Ex} (h : okI x = true) : (ev C x).I = (mk (ev C x).E).I := by
  cases x with
  | bi b es =>
    have hb : isIt b = false := by simpa [okI] using h
    funext ρ S
    unfold ev
    show ((evTs (evs C es) ρ S).bind fun ts S1 => if isIt b then opt (itF b ts S1) S1 else (opt (biF b ts S1) S1).bind fun t S2 => opt (itQ t S2) S2) = ((evTs (evs C es) ρ S).bind fun ts S1 => opt (biF b ts S1) S1).bind fun t S1 => opt (itQ t S1) S1
    rw [R.bind_assoc, hb]
    rfl
  | _ => first | (cases h; done) | (unfold ev; rfl)

/-! ### names, small tests -/
def visB (sc : Scope) (x : Str) : Bool := decide (sc.names.lookup x = some .local) || decide (sc.names.lookup x = some .cell) || decide (sc.names.lookup x = some .free)
def glB (sc : Scope) (x : Str) : Bool := decide (sc.names.lookup x = some .globalImplicit)
theorem vis_ok (c : Cz u n z X W) {x : Str} (h : visB z.sc x = true) : Vis X.env.scope x := by
  unfold visB at h
  rw [Bool.or_eq_true, Bool.or_eq_true, decide_eq_true_eq, decide_eq_true_eq, decide_eq_true_eq, ← c.esc] at h
  rcases h with (h | h) | h
  · exact .inl h
  · exact .inr (.inl h)
  · exact .inr (.inr h)
theorem gl_ok (c : Cz u n z X W) {x : Str} (h : glB z.sc x = true) : Gl X x := by
  unfold glB at h
  rw [decide_eq_true_eq, ← c.esc] at h
  exact h
def dbg (x : Str) : Bool := x == ("__debug__" : Str)
def cld (x : Str) : Bool := x == ("__classdict__" : Str)
def opOf : Operator → Option Op2
  | .Add => some .add
  | .Sub => some .sub
  | .Mult => some .mul
  | .Mod => some .mod
  | .FloorDiv => some .fdiv
  | .Pow => some .pow
  | _ => none
theorem opOf_ok {o : Operator} {p : Op2} (h : opOf o = some p) : o = pyOp p := by
  cases o <;> first | (cases h; rfl) | cases h
def cmOf : CmpOp → Option Cm
  | .Eq => some .eq
  | .NotEq => some .ne
  | .Lt => some .lt
  | .LtE => some .le
  | .Gt => some .gt
  | .GtE => some .ge
  | .Is => some .isN
  | .IsNot => some .noN
  | _ => none
theorem cmOf_ok {o : CmpOp} {p : Cm} (h : cmOf o = some p) : o = pyCm p := by
  cases o <;> first | (cases h; rfl) | cases h
/-- rows of expressions -/
def cEs (r : Expr → Option Ex) : List Expr → Option (List Ex)
  | [] => some []
  | e :: es => if noStar e then (match r e, cEs r es with
    | some x, some xs => some (x :: xs)
    | _, _ => none) else none
theorem cEs_cons {r : Expr → Option Ex} {e : Expr} {es : List Expr} {xs : List Ex} (h : cEs r (e :: es) = some xs) : ∃ y ys, xs = y :: ys ∧ noStar e = true ∧ r e = some y ∧ cEs r es = some ys := by
  unfold cEs at h
  split at h
  · rename_i hn
    split at h
    · rename_i y ys h1 h2
      cases h
      exact ⟨y, ys, rfl, hn, h1, h2⟩
    · cases h
  · cases h
theorem cEs_star {r : Expr → Option Ex} : ∀ {es : List Expr} {xs : List Ex}, cEs r es = some xs → es.all noStar = true
  | [], _, _ => rfl
  | e :: es, xs, h => by
    obtain ⟨y, ys, _, h1, _, h2⟩ := cEs_cons h
    rw [List.all_cons, h1, cEs_star h2]
    rfl
theorem cEs_M {C : Calls} {r : Expr → Option Ex} (hr : ∀ e x, r e = some x → PE X e (RdE (gof u X) W (ev C x).E)) : ∀ {es : List Expr} {xs : List Ex}, cEs r es = some xs → PA X es (RdM (gof u X) W (evM (evs C xs)))
  | [], xs, h => by
    cases h
    exact pa_m0
  | e :: es, xs, h => by
    obtain ⟨y, ys, e1, h1, h2, h3⟩ := cEs_cons h
    subst e1
    exact pa_m1 h1 (hr e y h2) (cEs_M hr h3)
theorem cEs_T {C : Calls} {r : Expr → Option Ex} (hr : ∀ e x, r e = some x → PE X e (RdE (gof u X) W (ev C x).E)) : ∀ {es : List Expr} {xs : List Ex}, cEs r es = some xs → PA X es (RdTs (gof u X) W (evTs (evs C xs)))
  | [], xs, h => by
    cases h
    exact pa_t0
  | e :: es, xs, h => by
    obtain ⟨y, ys, e1, h1, h2, h3⟩ := cEs_cons h
    subst e1
    exact pa_t1 h1 (hr e y h2) (cEs_T hr h3)
theorem cEs_and {C : Calls} {r : Expr → Option Ex} (hr : ∀ e x, r e = some x → PE X e (RdE (gof u X) W (ev C x).E)) {pos : Pos} : ∀ {es : List Expr} {xs : List Ex}, es ≠ [] → cEs r es = some xs → PE X (.BoolOp .And es pos) (RdE (gof u X) W (evAnd (evs C xs)))
  | [], xs, hn, h => absurd rfl hn
  | [e], xs, hn, h => by
    obtain ⟨y, ys, e1, h1, h2, h3⟩ := cEs_cons h
    cases h3
    subst e1
    exact pe_and_one (hr e y h2)
  | e :: e2 :: es, xs, hn, h => by
    obtain ⟨y, ys, e1, h1, h2, h3⟩ := cEs_cons h
    obtain ⟨y2, ys2, e3, _, _, _⟩ := cEs_cons h3
    subst e1 e3
    exact pe_and_cons (hr e y h2) (cEs_and hr (by simp) h3)
theorem cEs_or {C : Calls} {r : Expr → Option Ex} (hr : ∀ e x, r e = some x → PE X e (RdE (gof u X) W (ev C x).E)) {pos : Pos} : ∀ {es : List Expr} {xs : List Ex}, es ≠ [] → cEs r es = some xs → PE X (.BoolOp .Or es pos) (RdE (gof u X) W (evOr (evs C xs)))
  | [], xs, hn, h => absurd rfl hn
  | [e], xs, hn, h => by
    obtain ⟨y, ys, e1, h1, h2, h3⟩ := cEs_cons h
    cases h3
    subst e1
    exact pe_or_one (hr e y h2)
  | e :: e2 :: es, xs, hn, h => by
    obtain ⟨y, ys, e1, h1, h2, h3⟩ := cEs_cons h
    obtain ⟨y2, ys2, e3, _, _, _⟩ := cEs_cons h3
    subst e1 e3
    exact pe_or_cons (hr e y h2) (cEs_or hr (by simp) h3)
theorem cEs_andB {C : Calls} {r : Expr → Option Ex} (hr : ∀ e x, r e = some x → PT X e (RdB (gof u X) W (ev C x).B)) {pos : Pos} : ∀ {es : List Expr} {xs : List Ex}, es ≠ [] → cEs r es = some xs → PW X (.BoolOp .And es pos) (RdB (gof u X) W (evC (evs C xs)))
  | [], xs, hn, h => absurd rfl hn
  | [e], xs, hn, h => by
    obtain ⟨y, ys, e1, h1, h2, h3⟩ := cEs_cons h
    cases h3
    subst e1
    exact pw_and_one (hr e y h2)
  | e :: e2 :: es, xs, hn, h => by
    obtain ⟨y, ys, e1, h1, h2, h3⟩ := cEs_cons h
    subst e1
    exact pw_and_cons (hr e y h2) (cEs_andB hr (by simp) h3)
theorem cEs_orB {C : Calls} {r : Expr → Option Ex} (hr : ∀ e x, r e = some x → PT X e (RdB (gof u X) W (ev C x).B)) {pos : Pos} : ∀ {es : List Expr} {xs : List Ex}, es ≠ [] → cEs r es = some xs → PW X (.BoolOp .Or es pos) (RdB (gof u X) W (evO (evs C xs)))
  | [], xs, hn, h => absurd rfl hn
  | [e], xs, hn, h => by
    obtain ⟨y, ys, e1, h1, h2, h3⟩ := cEs_cons h
    cases h3
    subst e1
    exact pw_or_one (hr e y h2)
  | e :: e2 :: es, xs, hn, h => by
    obtain ⟨y, ys, e1, h1, h2, h3⟩ := cEs_cons h
    subst e1
    exact pw_or_cons (hr e y h2) (cEs_orB hr (by simp) h3)

/-! ### builtins -/
def biOf (x : Str) (k : Nat) : Option Bi :=
  if x = "len" ∧ k = 1 then some .len else if x = "all" ∧ k = 1 then some .all else if x = "sum" ∧ k = 1 then some .sum else if x = "sorted" ∧ k = 1 then some .sorted else if x = "tuple" ∧ k = 1 then some .tuple else
  if x = "list" ∧ k = 1 then some .list else if x = "dict" ∧ k = 1 then some .dict else if x = "abs" ∧ k = 1 then some .abs else if x = "int" ∧ k = 1 then some .int else if x = "max" ∧ k = 2 then some .max2 else if x = "max" ∧ k = 1 then some .max1 else none
theorem biOf_ok (c : Ctx u z.sn X W) {x : Str} {k : Nat} {b : Bi} (h : biOf x k = some b) : ((∃ id, CallR X (.builtin id) (rBi (gof u X) b) ∧ bootBuiltins x = some (.builtin id)) ∨ (∃ T, CallR X (.type T) (rBi (gof u X) b) ∧ bootBuiltins x = some (.type T))) ∧ x ≠ "__name__" ∧ (x == ("__debug__" : Str)) = false := by
  unfold biOf at h
  split at h
  · rename_i q
    cases h
    rw [q.1]
    exact ⟨.inl ⟨_, bi_len, boot_len⟩, by decide, by decide⟩
  split at h
  · rename_i q
    cases h
    rw [q.1]
    exact ⟨.inl ⟨_, bi_all c.calm, boot_all⟩, by decide, by decide⟩
  split at h
  · rename_i q
    cases h
    rw [q.1]
    exact ⟨.inl ⟨_, bi_sum c.calm, boot_sum⟩, by decide, by decide⟩
  split at h
  · rename_i q
    cases h
    rw [q.1]
    exact ⟨.inl ⟨_, bi_sorted c.un, boot_sorted⟩, by decide, by decide⟩
  split at h
  · rename_i q
    cases h
    rw [q.1]
    exact ⟨.inr ⟨_, bi_tuple, boot_tuple⟩, by decide, by decide⟩
  split at h
  · rename_i q
    cases h
    rw [q.1]
    exact ⟨.inr ⟨_, bi_list, boot_list⟩, by decide, by decide⟩
  split at h
  · rename_i q
    cases h
    rw [q.1]
    exact ⟨.inr ⟨_, bi_dict c.calm c.un, boot_dict⟩, by decide, by decide⟩
  split at h
  · rename_i q
    cases h
    rw [q.1]
    exact ⟨.inl ⟨_, bi_abs, boot_abs⟩, by decide, by decide⟩
  split at h
  · rename_i q
    cases h
    rw [q.1]
    exact ⟨.inr ⟨_, bi_int, boot_int⟩, by decide, by decide⟩
  split at h
  · rename_i q
    cases h
    rw [q.1]
    exact ⟨.inl ⟨_, bi_max2 c.calm, boot_max⟩, by decide, by decide⟩
  split at h
  · rename_i q
    cases h
    rw [q.1]
    exact ⟨.inl ⟨_, bi_max1 c.calm, boot_max⟩, by decide, by decide⟩
  · cases h
end
end Ev
-- EvX1
set_option Elab.async false
set_option linter.all false
set_option maxRecDepth 100000
set_option maxHeartbeats 4000000
/-! EvX1: calls through a name, rows with stars, choice by a text, in. -/
namespace Ev
open PySem PySem.Spec PyProof.Rows L2
section
variable {X : Cx} {u : Tb} {W : WX} {n : Nat}
/-! ### a def as a value; a call through a name -/
theorem pe_gf (fx : Fax u n (gof u X)) {f : Nat} {x : Str} {pos : Pos} (hi : u.fnm[f]? = some x) (hg : Gl X x) (hdb : (x == ("__debug__" : Str)) = false) {C : Calls} : PE X (.Name x pos) (RdE (gof u X) W (ev C (.gf f)).E) := by
  obtain ⟨a, fd, ps, h1, h2, h3, h4⟩ := fx.fns f x hi
  refine PE.imp (pe_glob (v := .ref a) hg h1 rfl hdb) ?_
  rintro σ H Q ⟨S, m, ρ, st, en, p⟩
  exact (Post.here (a := Ev.T.v (.fn f)) st p) (.ref a) trivial ⟨x, a, hi, rfl, h1⟩
theorem cl_read {i : Nat} {sms : List Sm} {σ : L2.St} {H : Hp} {Q : VK} {S : Store} {m : Nat → Addr} {ρ : Env} (st : StRel (gof u X) S m H) (en : EnvRel (gof u X) H m S.length ρ σ)
    (p : Post (gof u X) W S m H σ (KE (gof u X) H Q) (fin S.length ((evM sms ρ S).bind fun ds S1 => callN u.F n i ds S1))) : tCallSD (spF (gof u X) u.F i n) [] (WE W) (RdM (gof u X) W (evM sms)) σ H Q := by
  have p' := fin_ok st.pos p
  refine ⟨S, m, ρ, st, en, p'.bind.mono fun ds S1 m1 H1 x1 st1 p1 vs hvs => ?_⟩
  refine ⟨S1, m1, ds, st1, by rw [List.append_nil]; exact hvs, ?_⟩
  revert p1
  generalize callN u.F n i ds S1 = r
  intro p1
  cases r with
  | ok t S2 => exact fun m2 H2 x2 st2 v fv ev => p1 m2 H2 x2 st2 v (FreT.back x1 fv) ev
  | exc y S2 => exact fun m2 H2 c x2 st2 q1 q2 => p1 m2 H2 c x2 st2 q1 q2
  | bad => exact p1
theorem pe_clv (fx : Fax u n (gof u X)) (tk : Takes X W) (hr : Room (3 * n) X.A) {i : Nat} {x : Str} {e : Expr} {es : List Expr} {sms : List Sm} {p pos : Pos} (hN : X.N[i]? = some x) (hv : Vis X.env.scope x) (hd : (x == ("__debug__" : Str)) = false) (hcd : (x == ("__classdict__" : Str)) = false)
    (hs : (e :: es).all noStar = true) (ha : PA X (e :: es) (RdM (gof u X) W (evM sms))) : PE X (.Call (.Name x p) (e :: es) [] pos) (RdE (gof u X) W fun ρ S => (match ρ[i]? with
    | some (some (.fn f)) => fin S.length ((evM sms ρ S).bind fun ds S1 => callN u.F n f ds S1)
    | _ => .bad)) := by
  rw [List.all_cons, Bool.and_eq_true] at hs
  refine ⟨fun pins s σ H Q I h => ?_⟩
  obtain ⟨S, m, ρ, st, en, pp⟩ := h
  dsimp only at pp
  split at pp
  · rename_i f hf
    obtain ⟨v, e1, h1⟩ := en.at_ i _ hf
    obtain ⟨y, a, g1, g2, g3⟩ := h1
    obtain ⟨a', fd, ps, k1, k2, k3, k4⟩ := fx.fns f y g1
    have ea : a' = a := by
      have z := k1.symm.trans g3
      cases z
      rfl
    subst ea g2
    have hq := cl_read st en pp
    refine wpAny_Call_Name_kw (thn ((pe_var (pos := p) (i := i) hN hv hd hcd).run pins s σ H (fun v H1 => v = .ref a' ∧ H1 = H) I ⟨.ref a', e1, rfl, rfl⟩) fun u' s1 ⟨v, H1, I1, r1, ev, eH⟩ => ?_)
    subst ev
    rw [eH] at I1
    cases r1
    refine PySem.W.callWith_K (h₀ := X.base) I.ok.mod.kin k2 (thn (ha.run pos pins s1 σ H _ I1 hq) fun us s2 ⟨vs, H2, I2, r, q⟩ => ⟨I2.kIn, ?_⟩) (star_ok hs.1) (nostar_any hs.2)
    exact run_fnSD k4 hr k3 .nil (passAt tk σ) I2 r q
  · exact pp.elim
/-! ### rows with stars -/
theorem pa_s0 : PA X [] (RdM (gof u X) W (evMS [] [])) := by
  refine PA.imp pa_nil ?_
  rintro σ H Q ⟨S, m, ρ, st, en, p⟩
  exact (Post.here (a := ([] : List D)) st p) [] EncAll.nil
theorem pa_sF {e : Expr} {es : List Expr} {sm : Sm} {bs : List Bool} {sms : List Sm} (hn : noStar e = true) (he : PE X e (RdE (gof u X) W sm.E)) (hs : PA X es (RdM (gof u X) W (evMS bs sms))) : PA X (e :: es) (RdM (gof u X) W (evMS (false :: bs) (sm :: sms))) := by
  refine PA.imp (pa_cons he hs (star_ok hn)) ?_
  rintro σ H Q ⟨S, m, ρ, st, en, p⟩
  have p : Post (gof u X) W S m H σ (fun ds S' m' H' => ∀ vs, EncAll (gof u X) H' m' S'.length ds vs → Q vs H') (((sm.E ρ S).bind mat).bind fun d S2 => (evMS bs sms ρ S2).bind fun ds S3 => .ok (d :: ds) S3) := p
  refine sub st en (p.bind.mat.mono fun t S1 m1 H1 x1 st1 p1 v fv ev => ?_)
  obtain ⟨d, S2, m2, x2, st2, ed, p2⟩ := p1 v fv ev
  refine ⟨S2, m2, ρ, st2, x2.env en, p2.bind.mono fun ds S3 m3 H3 x3 st3 p3 vs hvs => ?_⟩
  exact (Post.here st3 p3) (v :: vs) (EncAll.cons (x3.enc ed) hvs)
theorem pa_sT {e : Expr} {sp : Pos} {es : List Expr} {sm : Sm} {bs : List Bool} {sms : List Sm} (he : PE X e (RdE (gof u X) W sm.E)) (hs : PA X es (RdM (gof u X) W (evMS bs sms))) : PA X (.Starred e sp :: es) (RdM (gof u X) W (evMS (true :: bs) (sm :: sms))) := by
  refine PA.imp (StX.pa_star he hs) ?_
  rintro σ H Q ⟨S, m, ρ, st, en, p⟩
  have p : Post (gof u X) W S m H σ (fun ds S' m' H' => ∀ vs, EncAll (gof u X) H' m' S'.length ds vs → Q vs H') ((sm.E ρ S).bind fun t S1 => (opt (asQ t S1) S1).bind fun xs S2 => (evMS bs sms ρ S2).bind fun ds S3 => .ok (xs ++ ds) S3) := p
  refine sub st en (p.bind.mono fun t S1 m1 H1 x1 st1 p1 v fv ev => ?_)
  obtain ⟨xs, e1, p2⟩ := p1.bind.opt
  have p3 := p2 m1 H1 Ext.refl st1
  obtain ⟨a, vs, h1, h2, h3⟩ := asQ_ok st1 ev e1
  refine ⟨a, vs, h1, h2.elim .inr (fun z => .inl z.1.sq), S1, m1, ρ, st1, x1.env en, p3.bind.mono fun ds S3 m3 H3 x3 st3 p4 ws hws => ?_⟩
  exact (Post.here st3 p4) (vs ++ ws) (EncAll.append (x3.encAll h3) hws)
theorem pe_tupM {es : List Expr} {M : Env → Store → R (List D)} {k : Nat} {pos : Pos} (h : PA X es (RdM (gof u X) W M)) : PE X (.Tuple es k pos) (RdE (gof u X) W fun ρ S => (M ρ S).bind fun ds S1 => if ds.length ≤ lim then .ok (.v (.tup ds)) S1 else .bad) := by
  refine PE.imp (pe_tupF h) ?_
  rintro σ H Q ⟨S, m, ρ, st, en, p⟩
  refine ⟨S, m, ρ, st, en, p.bind.mono fun ds S1 m1 H1 x1 st1 p1 vs hvs => ?_⟩
  split at p1
  · rename_i hl
    refine ⟨Nat.le_trans (by rw [hvs.length]; exact hl) lim_le, fun q o hq ho => ?_⟩
    obtain ⟨y, st2⟩ := alloc_ok (o := .frz o (.tup vs)) st1 hq
    exact p1 m1 _ y st2 _ trivial ⟨q, vs, rfl, PlT.new ho, y.encAll hvs⟩
  · exact p1.elim
/-! ### in -/
theorem flat_V {g : Gx} {H : Hp} {m : Nat → Addr} {k : Nat} {d : D} {v : V} (h : d.flat = true) (e : Enc g H m k d v) : flatV v = true := by
  cases d with
  | non => have z : v = .non := e; rw [z]; rfl
  | bl b => have z : v = .bl b := e; rw [z]; rfl
  | int i => have z : v = .int i := e; rw [z]; rfl
  | str s => have z : v = .str s := e; rw [z]; rfl
  | tup xs => cases h
  | ref k => cases h
  | fn i => cases h
theorem eq_V {g : Gx} {H : Hp} {m : Nat → Addr} {k : Nat} {d d' : D} {v v' : V} (h : d.flat = true) (h' : d'.flat = true) (e : Enc g H m k d v) (e' : Enc g H m k d' v') : eqV v v' = PyData.eqv d.py d'.py := by
  have c : ∀ {d : D} {v : V}, d.flat = true → Enc g H m k d v → (d = .non ∧ v = .non) ∨ (∃ b, d = .bl b ∧ v = .bl b) ∨ (∃ i, d = .int i ∧ v = .int i) ∨ (∃ s, d = .str s ∧ v = .str s) := fun {d v} h e => by
    cases d with
    | non => exact .inl ⟨rfl, e⟩
    | bl b => exact .inr (.inl ⟨b, rfl, e⟩)
    | int i => exact .inr (.inr (.inl ⟨i, rfl, e⟩))
    | str s => exact .inr (.inr (.inr ⟨s, rfl, e⟩))
    | tup xs => cases h
    | ref k => cases h
    | fn i => cases h
  rcases c h e with ⟨rfl, rfl⟩ | ⟨a, rfl, rfl⟩ | ⟨a, rfl, rfl⟩ | ⟨a, rfl, rfl⟩ <;> rcases c h' e' with ⟨rfl, rfl⟩ | ⟨b, rfl, rfl⟩ | ⟨b, rfl, rfl⟩ | ⟨b, rfl, rfl⟩ <;> simp [eqV, D.py, PyData.eqv]
theorem flats_V {g : Gx} {H : Hp} {m : Nat → Addr} {k : Nat} {x : D} {v : V} (hx : x.flat = true) (ex : Enc g H m k x v) : ∀ {xs : List D} {vs : List V}, xs.all D.flat = true → EncAll g H m k xs vs → vs.all flatV = true ∧ inV v vs = inD xs x
  | [], _, _, h => by
    have h' : _ = [] := h
    subst h'
    exact ⟨rfl, rfl⟩
  | y :: xs, _, hf, h => by
    obtain ⟨w, r, e, h1, h2⟩ := h
    subst e
    rw [List.all_cons, Bool.and_eq_true] at hf
    obtain ⟨k1, k2⟩ := flats_V hx ex hf.2 h2
    refine ⟨by rw [List.all_cons, flat_V hf.1 h1, k1]; rfl, ?_⟩
    show (eqV w v || inV v r) = (PyData.eqv y.py x.py || inD xs x)
    rw [k2, eq_V hf.1 hx h1 ex]
def opIn (neg : Bool) : CmpOp := if neg then .NotIn else .In
def rInE (g : Gx) (neg : Bool) : R2 := fun x y H Q => ∃ S m ta tb k, StRel g S m H ∧ EncT g H m S.length ta x ∧ EncT g H m S.length tb y ∧ inF ta tb S = some k ∧ Q (.bl (if neg then !k else k)) H
theorem op_isin (neg : Bool) : OpR X (compareOp (opIn neg)) (rInE (gof u X) neg) := by
  have hr : OpR X (compareOp (opIn neg)) (rIn X.K neg) := by
    cases neg
    · exact op_in_seq
    · exact op_notIn_seq
  refine fun pins s σ H x y v w Q I rx ry h => ?_
  obtain ⟨S, m, ta, tb, k, st, ea, eb, e, q⟩ := h
  unfold inF at e
  split at e
  · rename_i x' xs e1
    split at e
    · rename_i hf
      cases e
      rw [Bool.and_eq_true] at hf
      obtain ⟨p, vs, h1, h2, h3⟩ := asQ_ok st eb e1
      obtain ⟨f1, f2⟩ := flats_V hf.1 ea hf.2 h3
      exact hr pins s σ H x y v w Q I rx ry ⟨p, vs, h1, h2.imp id (fun z => z.1.sq), flat_V hf.1 ea, f1, by rw [f2]; exact q⟩
    · cases e
  · cases e
variable {a b : Expr} {Ea Eb : Env → Store → R T} {pos : Pos}
abbrev inB (neg : Bool) (Ea Eb : Env → Store → R T) : Env → Store → R Bool := fun ρ S => (Ea ρ S).bind fun ta S1 => (Eb ρ S1).bind fun tb S2 => (opt (inF ta tb S2) S2).bind fun k S3 => .ok (if neg then !k else k) S3
theorem in_sub {neg : Bool} {σ : L2.St} {H : Hp} {S : Store} {m : Nat → Addr} {ρ : Env} {K : Bool → Store → (Nat → Addr) → Hp → Prop} {Qv : VK} (st : StRel (gof u X) S m H) (en : EnvRel (gof u X) H m S.length ρ σ) (p : Post (gof u X) W S m H σ K (inB neg Ea Eb ρ S))
    (hq : ∀ k S' m' H', StRel (gof u X) S' m' H' → K k S' m' H' → Qv (.bl k) H') : tOp (rInE (gof u X) neg) (RdE (gof u X) W Ea) (RdE (gof u X) W Eb) σ H Qv := by
  refine sub2 st en p fun ta tb S2 m2 H2 x y x2 st2 e1 e2 p2 => ?_
  obtain ⟨k, e, kk⟩ := p2.bind.opt
  exact ⟨S2, m2, ta, tb, k, st2, e1, e2, e, hq _ _ _ _ st2 (Post.here (a := if neg then !k else k) st2 (kk m2 H2 Ext.refl st2))⟩
theorem pe_in (neg : Bool) (ha : PE X a (RdE (gof u X) W Ea)) (hb : PE X b (RdE (gof u X) W Eb)) (hm : behindInMarks (opIn neg) b = false) : PE X (.Compare a [opIn neg] [b] pos) (RdE (gof u X) W (mkB (inB neg Ea Eb)).E) := by
  refine PE.imp (pe_cmpR (op_isin (u := u) neg) ha hb hm) ?_
  rintro σ H Q ⟨S, m, ρ, st, en, p⟩
  exact in_sub st en (Post.bind p) fun k S2 m2 H2 st2 q => (Post.here (a := Ev.T.v (.bl k)) st2 q) _ trivial rfl
theorem pt_in (neg : Bool) (ha : PE X a (RdE (gof u X) W Ea)) (hb : PE X b (RdE (gof u X) W Eb)) (hm : behindInMarks (opIn neg) b = false) : PT X (.Compare a [opIn neg] [b] pos) (RdB (gof u X) W (inB neg Ea Eb)) := by
  refine PT.imp (pt_cmpR (op_isin (u := u) neg) ha hb hm) ?_
  rintro σ H Q ⟨S, m, ρ, st, en, p⟩
  exact in_sub st en p fun k S2 m2 H2 st2 q => ⟨k, rfl, q⟩
/-! ### isinstance(e, tuple) -/
theorem kit_tup (K : PySem.W.Frag) : PySem.W.kitOne K (.type "int") (.type "tuple") = some false ∧ PySem.W.kitOne K (.type "bool") (.type "tuple") = some false ∧ PySem.W.kitOne K (.type "NoneType") (.type "tuple") = some false ∧ PySem.W.kitOne K (.type "str") (.type "tuple") = some false ∧ PySem.W.kitOne K (.type "tuple") (.type "tuple") = some true :=
  ⟨kit_ty (by kernel_rfl), kit_ty (by kernel_rfl), kit_ty (by kernel_rfl), kit_ty (by kernel_rfl), kit_ty (by kernel_rfl)⟩
theorem pe_isiT {e : Expr} {s : Sm} {p p2 pos : Pos} (he : PE X e (RdE (gof u X) W s.E)) (hn1 : noStar e = true) (hg : Gl X "isinstance") (hm : X.mg "isinstance" = none) (hg2 : Gl X "tuple") (hm2 : X.mg "tuple" = none) :
    PE X (.Call (.Name "isinstance" p) [e, .Name "tuple" p2] [] pos) (RdE (gof u X) W (biE .isTup (evTs [s]))) := by
  have h2 : PE X (.Name "tuple" p2) (tC (.ty "tuple")) := pe_bltn hg2 hm2 boot_tuple rfl (by decide) (by decide)
  refine PE.imp (pe_callB call_isi hg hm boot_isinstance (pa_cons he (pa_cons h2 pa_nil) (star_ok hn1)) (by decide) (by decide) (star_ok hn1) rfl) ?_
  rintro σ H Q ⟨S, m, ρ, st, en, p⟩
  have p : Post (gof u X) W S m H σ (KE (gof u X) H Q) (((s.E ρ S).bind fun t S1 => R.ok [t] S1).bind fun ts S1 => opt (biF .isTup ts S1) S1) := p
  rw [R.bind_assoc] at p
  refine sub st en (p.bind.mono fun t S1 m1 H1 x1 st1 p1 v fv ev => ?_)
  obtain ⟨t', e', k⟩ := p1.opt
  have q : ∀ b, t' = .v (.bl b) → Q (.bl b) H1 := fun b hb => by
    subst hb
    exact k m1 H1 Ext.refl st1 (.bl b) trivial rfl
  obtain ⟨k1, k2, k3, k4, k5⟩ := kit_tup X.K
  unfold biF at e'
  split at e' <;> try contradiction
  · rename_i xs e0
    cases e'
    injection e0 with e0 _
    subst e0
    obtain ⟨a, vs, rfl, h1, h2⟩ := ev
    rcases h1 with ⟨o, h, _⟩ | ⟨o, its, n, h, hc, _⟩
    · exact ⟨_, .ty "tuple", _, _, true, rfl, .ty "tuple", .fTuple h, k5, q _ rfl⟩
    · exact ⟨_, .ty "tuple", _, _, true, rfl, .ty "tuple", .kTuple h hc, k5, q _ rfl⟩
  · rename_i e0
    cases e'
    injection e0 with e0 _
    subst e0
    have z : v = .non := ev
    subst z
    exact ⟨_, .ty "tuple", _, _, false, rfl, .ty "tuple", .base .non, k3, q _ rfl⟩
  · rename_i i _ e0
    cases e'
    injection e0 with e0 _
    subst e0
    have z : v = .int i := ev
    subst z
    exact ⟨_, .ty "tuple", _, _, false, rfl, .ty "tuple", .base (.int i), k1, q _ rfl⟩
  · rename_i i _ e0
    cases e'
    injection e0 with e0 _
    subst e0
    have z : v = .bl i := ev
    subst z
    exact ⟨_, .ty "tuple", _, _, false, rfl, .ty "tuple", .base (.bl i), k2, q _ rfl⟩
  · rename_i i _ e0
    cases e'
    injection e0 with e0 _
    subst e0
    have z : v = .str i := ev
    subst z
    exact ⟨_, .ty "tuple", _, _, false, rfl, .ty "tuple", .base (.str i), k4, q _ rfl⟩
/-! ### choice by a text -/
def strK : Option Expr → Option Str
  | some (.Constant (.str s) _ _) => some s
  | _ => none
def strKs : List (Option Expr) → Option (List Str)
  | [] => some []
  | k :: ks => (match strK k, strKs ks with
    | some s, some r => some (s :: r)
    | _, _ => none)
def trsOf (g : Gx) (W : WX) : List Str → List Sm → List (TE × TE)
  | k :: ks, sm :: sms => (tC (.str k), RdE g W sm.E) :: trsOf g W ks sms
  | _, _ => []
theorem strKs_cons {k : Option Expr} {ks : List (Option Expr)} {ss : List Str} (h : strKs (k :: ks) = some ss) : ∃ s r j p, ss = s :: r ∧ k = some (.Constant (.str s) j p) ∧ strKs ks = some r := by
  unfold strKs at h
  split at h
  · rename_i s r h1 h2
    cases h
    unfold strK at h1
    split at h1
    · cases h1
      exact ⟨_, _, _, _, rfl, rfl, h2⟩
    · cases h1
  · cases h
theorem pps_sel {pos : Pos} {r : Expr → Option Ex} {C : Calls} (hr : ∀ e x, r e = some x → PE X e (RdE (gof u X) W (ev C x).E)) : ∀ {keys : List (Option Expr)} {values : List Expr} {ks : List Str} {xs : List Ex}, strKs keys = some ks → cEs r values = some xs → keys.length = values.length →
    PPs X pos keys values (trsOf (gof u X) W ks (evs C xs)) ∧ ks.length = (evs C xs).length ∧ keys.all (·.isSome) = true
  | [], [], ks, xs, h1, h2, _ => by
    cases h1
    cases h2
    exact ⟨pps_nil, rfl, rfl⟩
  | [], _ :: _, _, _, _, _, hl => by simp at hl
  | _ :: _, [], _, _, _, _, hl => by simp at hl
  | k :: keys, v :: values, ks, xs, h1, h2, hl => by
    obtain ⟨s, r', j, p, e1, e2, h3⟩ := strKs_cons h1
    obtain ⟨y, ys, e3, h4, h5, h6⟩ := cEs_cons h2
    subst e1 e2 e3
    obtain ⟨q1, q2, q3⟩ := pps_sel hr h3 h6 (by simpa using hl)
    refine ⟨pps_cons pe_str (hr _ _ h5) q1, ?_, ?_⟩
    · show r'.length + 1 = (evs C ys).length + 1
      rw [q2]
    · rw [List.all_cons, q3]
      rfl
/-- what the pairs read, from what the values read -/
theorem pairs_read {σ : L2.St} {ρ : Env} {K : List D → Store → (Nat → Addr) → Hp → Prop} : ∀ {ks : List Str} {sms : List Sm}, ks.length = sms.length → ∀ {S : Store} {m : Nat → Addr} {H : Hp}, StRel (gof u X) S m H → EnvRel (gof u X) H m S.length ρ σ →
    Post (gof u X) W S m H σ K (evM sms ρ S) → ∀ {Q : List (V × V) → Hp → Prop}, (∀ ds S' m' H' vs, Ext (gof u X) S m H S' m' H' → StRel (gof u X) S' m' H' → EncAll (gof u X) H' m' S'.length ds vs → K ds S' m' H' → ks.length = vs.length → Q ((ks.map V.str).zip vs) H') → tPairs (trsOf (gof u X) W ks sms) σ H Q
  | [], [], _, S, m, H, st, en, p, Q, h => h [] S m H [] Ext.refl st EncAll.nil (Post.here (a := ([] : List D)) st p) rfl
  | [], _ :: _, hl, _, _, _, _, _, _, _, _ => by simp at hl
  | _ :: _, [], hl, _, _, _, _, _, _, _, _ => by simp at hl
  | k :: ks, sm :: sms, hl, S, m, H, st, en, p, Q, h => by
    rw [evM_cons] at p
    show RdE (gof u X) W sm.E σ H fun y H2 => tPairs (trsOf (gof u X) W ks sms) σ H2 fun ps H3 => Q ((V.str k, y) :: ps) H3
    refine sub st en (p.bind.mat.mono fun t S1 m1 H1 x1 st1 p1 v fv ev => ?_)
    obtain ⟨d, S2, m2, x2, st2, ed, p2⟩ := p1 v fv ev
    refine pairs_read (K := fun ds S' m' H' => K (d :: ds) S' m' H') (by simpa using hl) st2 (x2.env en) (p2.bind.mono fun ds S3 m3 H3 x3 st3 p3 => Post.here (a := d :: ds) st3 p3) fun ds S3 m3 H3 vs x3 st3 e3 k3 l3 => ?_
    exact h (d :: ds) S3 m3 H3 (v :: vs) (x2.trans x3) st3 (EncAll.cons (x3.enc ed) e3) k3 (by rw [List.length_cons, List.length_cons, l3])
end
end Ev
-- EvX2
set_option Elab.async false
set_option linter.all false
set_option maxRecDepth 100000
set_option maxHeartbeats 4000000
/-! EvX2: choice by a text, its rules. -/
namespace Ev
open PySem PySem.Spec PyProof.Rows L2
section
variable {X : Cx} {u : Tb} {W : WX} {n : Nat}
def kvs0 (ks : List Str) (vs : List V) : List (Key × V) := (ks.zip vs).map fun q => (.inr q.1, q.2)
theorem merge_nd : ∀ (more acc : List (Key × V)), ((acc ++ more).map (·.1)).Nodup → mergeK acc more = acc ++ more
  | [], acc, _ => by
    rw [List.append_nil]
    rfl
  | kv :: more, acc, h => by
    have e : putK acc kv.1 kv.2 = acc ++ [kv] := by
      unfold putK
      rw [if_neg]
      intro z
      obtain ⟨p, hp, e⟩ := List.any_eq_true.mp z
      have e' : p.1 = kv.1 := by simpa using e
      rw [List.map_append, List.nodup_append] at h
      exact h.2.2 p.1 (List.mem_map.mpr ⟨p, hp, rfl⟩) kv.1 List.mem_cons_self e'
    show mergeK (putK acc kv.1 kv.2) more = _
    rw [e, merge_nd more (acc ++ [kv]) (by rw [List.append_assoc]; exact h), List.append_assoc]
    rfl
theorem kvs0_keys : ∀ {ks : List Str} {vs : List V}, ks.length = vs.length → (kvs0 ks vs).map (·.1) = ks.map Sum.inr
  | [], [], _ => rfl
  | [], _ :: _, h => by simp at h
  | _ :: _, [], h => by simp at h
  | k :: ks, v :: vs, h => by
    show Sum.inr k :: (kvs0 ks vs).map (·.1) = _
    rw [kvs0_keys (by simpa using h)]
    rfl
theorem nodup_inr : ∀ {ks : List Str}, ks.Nodup → (ks.map (Sum.inr : Str → Key)).Nodup
  | [], _ => List.nodup_nil
  | k :: ks, h => by
    have h' := List.nodup_cons.mp h
    refine List.nodup_cons.mpr ⟨fun z => ?_, nodup_inr h'.2⟩
    obtain ⟨q, hq, e⟩ := List.mem_map.mp z
    cases e
    exact h'.1 hq
theorem sel_val {g : Gx} {H : Hp} {m : Nat → Addr} {k : Nat} {s : Str} : ∀ {ks : List Str} {ds : List D} {vs : List V}, EncAll g H m k ds vs → (selF ks ds s = none ∧ valV (kvs0 ks vs) (.inr s) = none) ∨ ∃ d v, selF ks ds s = some d ∧ valV (kvs0 ks vs) (.inr s) = some v ∧ Enc g H m k d v
  | [], _, _, _ => .inl ⟨rfl, rfl⟩
  | _ :: _, [], _, h => by
    have h' : _ = [] := h
    subst h'
    exact .inl ⟨rfl, rfl⟩
  | q :: ks, d :: ds, _, h => by
    obtain ⟨v, r, e, h1, h2⟩ := h
    subst e
    by_cases hq : s = q
    · subst hq
      refine .inr ⟨d, v, ?_, ?_, h1⟩
      · simp [selF]
      · simp [valV, kvs0]
    · have ih := sel_val (s := s) (ks := ks) h2
      have e1 : selF (q :: ks) (d :: ds) s = selF ks ds s := by
        have : (s == q) = false := beq_eq_false_iff_ne.mpr hq
        simp [selF, List.lookup, this]
      have e2 : valV (kvs0 (q :: ks) (v :: r)) (.inr s) = valV (kvs0 ks r) (.inr s) := by
        have : ¬ (Sum.inr q : Key) = Sum.inr s := fun z => hq (Sum.inr.inj z).symm
        simp [valV, kvs0, this]
      rw [e1, e2]
      exact ih
theorem kvs0_eq : ∀ (ks : List Str) (vs : List V), (ks.map V.str).zip vs = (kvs0 ks vs).map fun kv => (kV kv.1, kv.2)
  | [], _ => rfl
  | _ :: _, [] => rfl
  | k :: ks, v :: vs => by
    show (V.str k, v) :: (ks.map V.str).zip vs = (V.str k, v) :: (kvs0 ks vs).map fun kv => (kV kv.1, kv.2)
    rw [kvs0_eq ks vs]
theorem nt_dK {kvs : List (Key × V)} (ps : Array Value) : (HO.dK kvs : HO) ≠ .tbl ps := fun z => by cases z
/-- the display, then what is wanted behind it -/
theorem disp_read {ks : List Str} {sms : List Sm} {σ : L2.St} {H : Hp} {S : Store} {m : Nat → Addr} {ρ : Env} {α : Type} {K : α → Store → (Nat → Addr) → Hp → Prop} {f : List D → Store → R α} (hl : ks.length = sms.length) (hn : ks.Nodup) (h15 : ks.length ≤ 15) (st : StRel (gof u X) S m H) (en : EnvRel (gof u X) H m S.length ρ σ)
    (p : Post (gof u X) W S m H σ K ((evM sms ρ S).bind f)) {Q : VK}
    (h : ∀ a ds vs S' m' H', Ext (gof u X) S m H S' m' H' → StRel (gof u X) S' m' H' → EncAll (gof u X) H' m' S'.length ds vs → H' a = some (.dK (kvs0 ks vs)) → (∀ j, 0 < j → j < S'.length → m' j ≠ a) → Post (gof u X) W S m H σ K (f ds S') → Q (.ref a) H') :
    tDisp (trsOf (gof u X) W ks sms) σ H Q := by
  intro a ha
  obtain ⟨x1, st1⟩ := alloc_ok (o := .dK []) st ha
  have ap := st.apart ha
  refine pairs_read (K := fun ds S' m' H' => Post (gof u X) W S m H σ K (f ds S')) hl st1 (x1.env en) (Post.bindK x1 p) fun ds S2 m2 H2 vs x2 st2 e2 p2 l2 => ?_
  have raw : H2 a = some (.dK []) := keep_free x2 st1 upd_same nt_dK ap
  have ap2 := apart_up x2 ⟨_, upd_same, nt_dK⟩ ap
  have hm : mergeK [] (kvs0 ks vs) = kvs0 ks vs := by
    have z := merge_nd (kvs0 ks vs) [] (by rw [List.nil_append, kvs0_keys l2]; exact nodup_inr hn)
    rwa [List.nil_append] at z
  obtain ⟨x3, st3⟩ := free_write (o := .dK (kvs0 ks vs)) (x1.trans x2) st2 ha raw rfl (fun b q z => by unfold LamX.CodeO at z; cases z) ap2
  refine ⟨raw, kvs0 ks vs, ?_, ?_, ?_⟩
  · exact kvs0_eq ks vs
  · unfold kvs0
    rw [List.length_map, List.length_zip]
    omega
  · rw [hm]
    refine h a ds vs S2 m2 _ x3 st3 ?_ upd_same ap2 p2
    exact EncAll.mono (TK.write raw rfl) (Nat.le_refl _) (fun _ _ => rfl) _ _ e2
variable {keys : List (Option Expr)} {values : List Expr} {kx dx : Expr} {ks : List Str} {xs : List Ex} {yk yd : Ex} {C : Calls} {r : Expr → Option Ex} {dpos pos apos cpos : Pos}
theorem pe_sel0 (hu : X.A.units + 64 < cLine) (hr : ∀ e x, r e = some x → PE X e (RdE (gof u X) W (ev C x).E)) (h1 : strKs keys = some ks) (h2 : cEs r values = some xs) (hl : keys.length = values.length) (hn : ks.Nodup) (h15 : ks.length ≤ 15) (h0 : keys ≠ []) (hk : PE X kx (RdE (gof u X) W (ev C yk).E)) (hs : NoSl kx) :
    PE X (.Subscript (.Dict keys values dpos) kx pos) (RdE (gof u X) W (ev C (.sel ks xs false yk yd)).E) := by
  obtain ⟨q1, q2, q3⟩ := pps_sel (pos := dpos) hr h1 h2 hl
  have hlen : keys.length = ks.length := by
    clear h2 hl q1 q2 q3 h0 h15 hn
    induction keys generalizing ks with
    | nil => cases h1; rfl
    | cons k keys ih =>
      obtain ⟨s, r', j, p, e1, e2, h3⟩ := strKs_cons h1
      subst e1
      rw [List.length_cons, List.length_cons, ih h3]
  refine PE.imp (pe_dget (by omega) (pe_disp q1 q3 hl h0 (by omega)) hk hs) ?_
  rintro σ H Q ⟨S, m, ρ, st, en, p⟩
  have p : Post (gof u X) W S m H σ (KE (gof u X) H Q) ((evM (evs C xs) ρ S).bind fun ds S1 => ((ev C yk).E ρ S1).bind fun tk S2 => (match tk with
    | .v (.str s) => if false then ((ev C yd).E ρ S2).bind fun td S3 => (match td with
        | .v x => R.ok (Ev.T.v ((selF ks ds s).getD x)) S3
        | _ => .bad) else (opt (selF ks ds s) S2).bind fun x S3 => .ok (.v x) S3
    | _ => .bad)) := p
  refine disp_read q2 hn h15 st en p fun a ds vs S2 m2 H2 x2 st2 e2 raw ap p2 => ?_
  refine sub st2 (x2.env en) ((Post.bindK x2 p2).mono fun tk S3 m3 H3 x3 st3 p3 v fv ev => ?_)
  split at p3
  · rename_i s
    have p3 : Post (gof u X) W S m H σ (KE (gof u X) H Q) ((opt (selF ks ds s) S3).bind fun x S3 => R.ok (Ev.T.v x) S3) := p3
    have z : v = .str s := ev
    subst z
    have raw3 : H3 a = some (.dK (kvs0 ks vs)) := keep_free x3 st2 raw nt_dK ap
    rcases sel_val (s := s) (ks := ks) (x3.encAll e2) with ⟨n1, n2⟩ | ⟨d, w, n1, n2, n3⟩
    · rw [n1] at p3
      exact p3.elim
    · rw [n1] at p3
      refine ⟨a, w, rfl, ?_, p3 m3 H3 (x2.trans x3) st3 w trivial n3⟩
      have g := DGet.k (k := .inr s) raw3
      rw [n2] at g
      exact g
  · exact p3.elim
theorem pe_sel1 (hu : X.A.units + 64 < cLine) (hr : ∀ e x, r e = some x → PE X e (RdE (gof u X) W (ev C x).E)) (h1 : strKs keys = some ks) (h2 : cEs r values = some xs) (hl : keys.length = values.length) (hn : ks.Nodup) (h15 : ks.length ≤ 15) (h0 : keys ≠ []) (hk : PE X kx (RdE (gof u X) W (ev C yk).E)) (hd : PE X dx (RdE (gof u X) W (ev C yd).E))
    (s1 : noStar kx = true) (s2 : noStar dx = true) (hline : (apos.endLine == cpos.line) = true) :
    PE X (.Call (.Attribute (.Dict keys values dpos) "get" apos) [kx, dx] [] cpos) (RdE (gof u X) W (ev C (.sel ks xs true yk yd)).E) := by
  obtain ⟨q1, q2, q3⟩ := pps_sel (pos := dpos) hr h1 h2 hl
  have hlen : keys.length = ks.length := by
    clear h2 hl q1 q2 q3 h0 h15 hn
    induction keys generalizing ks with
    | nil => cases h1; rfl
    | cons k keys ih =>
      obtain ⟨s, r', j, p, e1, e2, h3⟩ := strKs_cons h1
      subst e1
      rw [List.length_cons, List.length_cons, ih h3]
  have M : M2 X (.Dict keys values dpos) "get" apos kx dx cpos := ⟨rfl, by rw [star_ok s1, star_ok s2]; rfl, hline, by rw [star_ok s1, star_ok s2]; rfl⟩
  refine PE.imp (pe_dget2 (by omega) (pe_disp q1 q3 hl h0 (by omega)) hk hd M) ?_
  rintro σ H Q ⟨S, m, ρ, st, en, p⟩
  have p : Post (gof u X) W S m H σ (KE (gof u X) H Q) ((evM (evs C xs) ρ S).bind fun ds S1 => ((ev C yk).E ρ S1).bind fun tk S2 => (match tk with
    | .v (.str s) => if true then ((ev C yd).E ρ S2).bind fun td S3 => (match td with
        | .v x => R.ok (Ev.T.v ((selF ks ds s).getD x)) S3
        | _ => .bad) else (opt (selF ks ds s) S2).bind fun x S3 => .ok (.v x) S3
    | _ => .bad)) := p
  refine disp_read q2 hn h15 st en p fun a ds vs S2 m2 H2 x2 st2 e2 raw ap p2 => ?_
  refine ⟨a, rfl, .inl ⟨_, .inl raw⟩, ?_⟩
  refine sub st2 (x2.env en) ((Post.bindK x2 p2).mono fun tk S3 m3 H3 x3 st3 p3 v fv evv => ?_)
  split at p3
  · rename_i s
    have p3 : Post (gof u X) W S m H σ (KE (gof u X) H Q) (((ev C yd).E ρ S3).bind fun td S3 => (match td with
        | .v x => R.ok (Ev.T.v ((selF ks ds s).getD x)) S3
        | _ => .bad)) := p3
    have z : v = .str s := evv
    subst z
    refine sub st3 ((x2.trans x3).env en) ((Post.bindK (x2.trans x3) p3).mono fun td S4 m4 H4 x4 st4 p4 w fw ew => ?_)
    split at p4
    · rename_i x'
      have raw4 : H4 a = some (.dK (kvs0 ks vs)) := keep_free (x3.trans x4) st2 raw nt_dK ap
      refine ⟨_, DGet.k (k := .inr s) raw4, ?_⟩
      rcases sel_val (s := s) (ks := ks) ((x3.trans x4).encAll e2) with ⟨n1, n2⟩ | ⟨d, w', n1, n2, n3⟩
      · rw [n2]
        rw [n1] at p4
        exact p4 m4 H4 ((x2.trans x3).trans x4) st4 w trivial ew
      · rw [n2]
        rw [n1] at p4
        exact p4 m4 H4 ((x2.trans x3).trans x4) st4 w' trivial n3
    · exact p4.elim
  · exact p3.elim
end
end Ev
-- EvX3
set_option Elab.async false
set_option linter.all false
set_option maxRecDepth 100000
set_option maxHeartbeats 4000000
/-! EvX3: extend, three names at once, a place and a name at once. -/
namespace L2
open PySem PySem.Spec PyProof.Rows
section
variable {X : Cx} {pos : Pos}
/-- a, b, c = x, y, z with plain local names -/
def tPar3 (i j k : Nat) (ta : TA) : TS := fun D σ H => ta σ H fun vs H1 => ∃ v w q, vs = [v, w, q] ∧ D.nx (((σ.set i (some v)).set j (some w)).set k (some q)) H1
theorem ps_par3 {i j k : Nat} {x y z : Str} {a b c : Expr} {ta : TA} {px py pz pt : Pos} {kt k2 pt2} (hc : X.calm = true) (hN : X.N.Nodup) (hi : X.N[i]? = some x) (hj : X.N[j]? = some y) (hk : X.N[k]? = some z) (hij : i ≠ j) (hik : i ≠ k) (hjk : j ≠ k)
    (hx : X.env.scope.names.lookup x = some .local) (hy : X.env.scope.names.lookup y = some .local) (hz : X.env.scope.names.lookup z = some .local) (ha : PA X [a, b, c] ta)
    (hw : swappedStores [.Tuple [.Name x px, .Name y py, .Name z pz] kt pt] (.Tuple [a, b, c] k2 pt2) X.env = pure (some [x, y, z]))
    (hs : swapsWithSole [.Tuple [.Name x px, .Name y py, .Name z pz] kt pt] (.Tuple [a, b, c] k2 pt2) pos.line X.env = pure false := by rfl) :
    PS X (.Assign [.Tuple [.Name x px, .Name y py, .Name z pz] kt pt] (.Tuple [a, b, c] k2 pt2) pos) (tPar3 i j k ta) := by
  refine ⟨fun pins s σ H D I h => ?_⟩
  rw [exec_Assign_arm]
  refine wpAny_bind (wpAny_standAt ?_)
  rw [hs]
  refine wpAny_bind (wpAny_pure ?_)
  rw [if_neg (by decide)]
  refine wpAny_bind (Tuple_ (thn (ha.run _ pins s σ H _ I h) fun us s1 ⟨vs, H1, I1, r1, q1⟩ => ?_))
  obtain ⟨v, w, q, e1, q1⟩ := q1
  subst e1
  obtain ⟨u1, u2, u3, rfl, rv, rw', rq⟩ : ∃ u1 u2 u3, us = [u1, u2, u3] ∧ RelV v u1 ∧ RelV w u2 ∧ RelV q u3 := by
    cases r1 with
    | cons p q =>
      cases q with
      | cons p' q' =>
        cases q' with
        | cons p'' q'' =>
          cases q''
          exact ⟨_, _, _, rfl, p, p', p''⟩
  refine wpAny_newObj_type ?_ (by show 3 ≤ sizeLine; decide)
  have I2 : Inv X pins σ H1 { s1 with heap := s1.heap.push { cls := .type "tuple", data := .seq [u1, u2, u3].toArray } } := I1.kept (t' := s1.toks) fun b o e => Heap.get?_push_of_some _ e
  rw [hw]
  refine wpAny_bind (wpAny_pure ?_)
  show wpAny (model X.prog X.w) X.A (do rule "assign.swapped-stores"; let items ← unpackItems (.ref s1.heap.objs.size) 3 none; assignInOrder [fun v => bindName X.env z v, fun v => bindName X.env y v, fun v => bindName X.env x v] items.reverse; pure Flow.next) _ _ _
  refine wpAny_bind (wpAny_rule (wpAny_bind (unpackItems_tuple (items := #[u1, u2, u3]) (I.ok.hd hc) (IsTup.new s1.heap _) fun h' hx' => ?_)))
  have I3 := I2.kept (h' := h') (t' := s1.toks) fun b o e => hx' b o (Nat.ne_of_lt (Heap.lt_size e)) e
  show wpAny _ _ (assignInOrder [fun v => bindName X.env z v, fun v => bindName X.env y v, fun v => bindName X.env x v] [u3, u2, u1] >>= fun _ => pure Flow.next) _ _ _
  refine wpAny_bind (assignInOrder_cons (wpAny_bindName (store_ok I3 hN hk (.inl hz) rq (fun s2 I4 => ?_) (.inr hz))))
  refine assignInOrder_cons (wpAny_bindName (store_ok I4 hN hj (.inl hy) rw' (fun s3 I5 => ?_) (.inr hy)))
  refine assignInOrder_cons (wpAny_bindName (store_ok I5 hN hi (.inl hx) rv (fun s4 I6 => assignInOrder_nil (wpAny_pure ?_)) (.inr hx)))
  have e : (((σ.set k (some q)).set j (some w)).set i (some v)) = (((σ.set i (some v)).set j (some w)).set k (some q)) := by
    rw [List.set_comm _ _ (Ne.symm hjk), List.set_comm _ _ (Ne.symm hik), List.set_comm _ _ (Ne.symm hij)]
  rw [e] at I6
  exact ⟨_, H1, I6, q1⟩
end
end L2
namespace Ev
open PySem PySem.Spec PyProof.Rows L2
section
variable {X : Cx} {u : Tb} {W : WX} {n : Nat} {pos : Pos}
/-! ### extend -/
def rExtE (g : Gx) : V → List V → Hp → VK → Prop := fun x vs H Q => ∃ S m H0 to t S', StRel g S m H ∧ EncT g H m S.length to x ∧ EncTs g H0 H m S.length [t] vs ∧ extF to t S = some S' ∧ ∀ m' H', Ext g S m H S' m' H' → StRel g S' m' H' → Q .non H'
theorem mt_extE : MtR X "list.extend" (rExtE (gof u X)) := by
  intro pins s σ H x xs v us Q I rx rs h
  obtain ⟨S, m, H0, to, t, S', st, ea, es', e, k⟩ := h
  obtain ⟨w, rfl, et⟩ := encTs1 es'
  unfold extF at e
  split at e <;> try contradiction
  rename_i j
  obtain ⟨h1, h2⟩ := (show j < S.length ∧ x = V.ref (m j) from ea)
  split at e
  · rename_i xs ys e1 e2
    split at e
    · rename_i hq
      cases e
      obtain ⟨vs, c1, c2⟩ := st.cell j _ e1
      obtain ⟨p, ws, rfl, q1, q2⟩ := asM_ok st et e2
      have h0 : 0 < j := by
        rcases Nat.eq_zero_or_pos j with z | z
        · obtain ⟨zs, hz⟩ := st.zero
          rw [z, hz] at e1
          cases e1
        · exact z
      obtain ⟨x1, st1⟩ := write_ok (c' := .lst false (xs ++ ys)) (o := .lst (vs ++ ws)) st h0 e1 (by unfold lockAt; rw [e1]) c1 rfl (fun a q z => by cases z) rfl rfl (fun S' z => by unfold lockAt; rw [z])
        ⟨_, upd_same, EncAll.mono (fun a vs h => PlT.upd c1 rfl h) (Nat.le_refl _) (fun _ _ => rfl) _ _ (c2.append q2)⟩
      refine mt_extend pins s σ H x [.ref p] v us Q I rx rs ⟨m j, p, vs, ws, h2, rfl, c1, q1, ?_, k m _ x1 st1⟩
      rw [c2.length, q2.length]
      exact Nat.le_trans hq lim_le
    · cases e
  · cases e
theorem ps_ext {o e1 : Expr} {so s1 : Sm} {apos cpos : Pos} (ho : PE X o (RdE (gof u X) W so.E)) (h1 : PE X e1 (RdE (gof u X) W s1.E)) (hs : noStar e1 = true)
    (hbase : attributeBase o "extend" X.env (eval o X.env) = eval o X.env) (hline : (apos.endLine == cpos.line) = true) :
    PS X (.Expr (.Call (.Attribute o "extend" apos) [e1] [] cpos) pos) (RdS (gof u X) W fun ρ S => thenS ((so.E ρ S).bind fun t S1 => if rcv .append t S1 then (s1.E ρ S1).bind fun t' S2 => optS (extF t t' S2) else .bad) ρ fun _ S1 => .ok .nx ρ S1) := by
  have ha : PA X [e1] (RdTs (gof u X) W (evTs [s1])) := pa_t1 hs h1 pa_t0
  have pe : PE X (.Call (.Attribute o "extend" apos) [e1] [] cpos) (RdE (gof u X) W fun ρ S => (so.E ρ S).bind fun t S1 => if rcv .append t S1 then (s1.E ρ S1).bind fun t' S2 => (optS (extF t t' S2)).bind fun _ S3 => R.ok (Ev.T.v .non) S3 else .bad) := by
    refine PE.imp (pe_bmR (ty := fun x H => ∃ S m t, StRel (gof u X) S m H ∧ EncT (gof u X) H m S.length t x ∧ (asM t S).isSome = true) F.plainAttrs_list F.slot_list_extend F.type_list_extend ?_ (mt_extE (u := u)) ho ha hbase ?_ hline (star_ok hs) rfl) ?_
    · rintro pins s σ H x v I r ⟨S, m, t, st, ea, hT⟩
      cases e2 : asM t S with
      | none =>
        rw [e2] at hT
        cases hT
      | some xs =>
        obtain ⟨p, vs, rfl, h2, h3⟩ := asM_ok st ea e2
        obtain ⟨z, its, n, rv, hl, e⟩ := I.lstM h2
        have r' : v = Value.ref p := r
        subst r'
        exact ⟨⟨_, e, rfl⟩, fun a ea' => by
          cases ea'
          exact ⟨_, e, rfl⟩⟩
    · rw [star_ok hs]
      rfl
    · rintro σ H Q ⟨S, m, ρ, st, en, p⟩
      refine sub st en (p.bind.mono fun t S1 m1 H1 x1 st1 p1 v fv evv => ?_)
      split at p1
      · rename_i hr
        refine ⟨⟨S1, m1, t, st1, evv, hr⟩, S1, m1, ρ, st1, x1.env en, ?_⟩
        have p2 : Post (gof u X) W S1 m1 H1 σ (fun ts S2 m2 H2 => ∃ t', ts = [t'] ∧ Post (gof u X) W S2 m2 H2 σ (KE (gof u X) H Q) ((optS (extF t t' S2)).bind fun _ S3 => R.ok (Ev.T.v .non) S3)) (evTs [s1] ρ S1) := by
          have p1' := Post.bind p1
          show Post (gof u X) W S1 m1 H1 σ _ ((s1.E ρ S1).bind fun t S2 => R.ok [t] S2)
          revert p1'
          generalize s1.E ρ S1 = r0
          intro p1'
          cases r0 with
          | ok t' S2 => exact fun m2 H2 x2 st2 => ⟨t', rfl, p1' m2 H2 x2 st2⟩
          | exc y S2 => exact p1'
          | bad => exact p1'
        refine p2.mono fun ts S2 m2 H2 x2 st2 p3 vs hvs => ?_
        obtain ⟨t', rfl, p4⟩ := p3
        cases ed : extF t t' S2 with
        | none =>
          rw [ed] at p4
          exact p4.elim
        | some S3 =>
          rw [ed] at p4
          exact ⟨S2, m2, _, t, t', S3, st2, x2.encT st1 evv, hvs, ed, fun m' H' y st' => p4 m' H' y st' _ trivial rfl⟩
      · exact p1.elim
  refine PS.imp (ps_ex (pos := pos) rfl pe) ?_
  rintro De σ H ⟨S, m, ρ, st, en, p⟩
  refine ⟨S, m, ρ, st, en, ?_⟩
  revert p
  dsimp only
  generalize so.E ρ S = r0
  intro p
  cases r0 with
  | bad => exact p
  | exc y S1 => exact p
  | ok t S1 =>
    have p : PostS (gof u X) W S m H De (thenS (if rcv .append t S1 then (s1.E ρ S1).bind fun t' S2 => optS (extF t t' S2) else .bad) ρ fun _ S1 => .ok .nx ρ S1) := p
    show PostS (gof u X) W S m H De (thenS (if rcv .append t S1 then (s1.E ρ S1).bind fun t' S2 => (optS (extF t t' S2)).bind fun _ S3 => R.ok (Ev.T.v .non) S3 else .bad) ρ fun _ S1 => .ok .nx ρ S1)
    revert p
    generalize s1.E ρ S1 = r1
    split
    · intro p
      cases r1 with
      | bad => exact p
      | exc y S2 => exact p
      | ok t' S2 =>
        have p : PostS (gof u X) W S m H De (thenS (optS (extF t t' S2)) ρ fun _ S1 => .ok .nx ρ S1) := p
        show PostS (gof u X) W S m H De (thenS ((optS (extF t t' S2)).bind fun _ S3 => R.ok (Ev.T.v .non) S3) ρ fun _ S1 => .ok .nx ρ S1)
        revert p
        cases extF t t' S2 with
        | none => intro p; exact p
        | some S3 => intro p; exact p
    · intro p
      exact p
/-! ### stores to several targets -/
theorem sw_long {ts : List Expr} {kt : Nat} {pt : Pos} {e : Expr} {env : PySem.Env} (h : 3 < ts.length) : swappedStores [.Tuple ts kt pt] e env = pure none := by
  cases e with
  | Tuple vs k2 p2 =>
    unfold swappedStores
    dsimp only
    rw [if_pos]
    have h2 : (ts.length == 2) = false := beq_eq_false_iff_ne.mpr (by omega)
    have h3 : (ts.length == 3) = false := beq_eq_false_iff_ne.mpr (by omega)
    rw [h2, h3]
    rfl
  | _ => rfl
/-- constants alone: folded into one -/
def foldT : Expr → Bool
  | .Tuple vs _ _ => vs.all (foldedForSure 8)
  | _ => false
theorem sw_fold {ts : List Expr} {kt : Nat} {pt : Pos} {e : Expr} {env : PySem.Env} (h : foldT e = true) : swappedStores [.Tuple ts kt pt] e env = pure none := by
  cases e with
  | Tuple vs k2 p2 =>
    have h' : vs.all (foldedForSure 8) = true := h
    unfold swappedStores
    dsimp only
    (repeat' split) <;> simp_all
  | _ => cases h
theorem ps_asL {sn : Str → Bool} (c : Ctx u sn X W) {tg e : Expr} {t : Tg} {E : Env → Store → R T} (hn : noComp e = true) (hw : swappedStores [tg] e X.env = pure none) (ht : cG X.N sn tg = some t) (h : PE X e (RdE (gof u X) W E)) :
    PS X (.Assign [tg] e pos) (RdS (gof u X) W fun ρ S => thenS ((E ρ S).bind mat) ρ fun d S1 => (match asg t d ρ with | some ρ' => .ok .nx ρ' S1 | none => .bad)) := by
  have hst : noStar tg = true := by
    have := cG_name ht
    cases tg <;> first | rfl | cases this
  refine PS.imp (ps_asg h (pg_ok c tg t ht false (fun z => by cases z)) (noComp_ok hn) hw (each1 hst)) ?_
  rintro De σ H ⟨S, m, ρ, st, en, p⟩
  refine ⟨S, m, ρ, st, en, (PostS.thenS en p).mat.mono fun t1 S1 m1 H1 x1 st1 p1 v fv evv => ?_⟩
  obtain ⟨d, S2, m2, x2, st2, ed, p2⟩ := p1 v fv evv
  split at p2
  · rename_i ρ' ea
    exact ⟨S2, m2, ρ, d, ρ', st2, x2.env en, ed, ea, fun σ' en' _ => PostS.here st2 en' p2⟩
  · exact p2.elim
theorem ps_p3 {sn : Str → Bool} (c : Ctx u sn X W) {i j k : Nat} {x y z : Str} {a b d : Expr} {sa sb sd : Sm} {px py pz pt : Pos} {kt k2 : Nat} {pt2 : Pos} (hi : X.N[i]? = some x) (hj : X.N[j]? = some y) (hk : X.N[k]? = some z) (hij : i ≠ j) (hik : i ≠ k) (hjk : j ≠ k)
    (hx : X.env.scope.names.lookup x = some .local) (hy : X.env.scope.names.lookup y = some .local) (hz : X.env.scope.names.lookup z = some .local)
    (hna : noStar a = true) (hnb : noStar b = true) (hnd : noStar d = true) (ha : PE X a (RdE (gof u X) W sa.E)) (hb : PE X b (RdE (gof u X) W sb.E)) (hd : PE X d (RdE (gof u X) W sd.E))
    (hw : swappedStores [.Tuple [.Name x px, .Name y py, .Name z pz] kt pt] (.Tuple [a, b, d] k2 pt2) X.env = pure (some [x, y, z])) :
    PS X (.Assign [.Tuple [.Name x px, .Name y py, .Name z pz] kt pt] (.Tuple [a, b, d] k2 pt2) pos) (RdS (gof u X) W fun ρ S => thenS (evM [sa, sb, sd] ρ S) ρ fun ds S1 => (match ds with
    | [x, y, w] => if i < ρ.length ∧ j < ρ.length ∧ k < ρ.length then .ok .nx (((ρ.set i (some x)).set j (some y)).set k (some w)) S1 else .bad
    | _ => .bad)) := by
  refine PS.imp (ps_par3 c.calm c.nd hi hj hk hij hik hjk hx hy hz (pa_m1 hna ha (pa_m1 hnb hb (pa_m1 hnd hd pa_m0))) hw) ?_
  rintro De σ H ⟨S, m, ρ, st, en, p⟩
  refine ⟨S, m, ρ, st, en, (PostS.thenS en p).mono fun ds S1 m1 H1 x1 st1 p1 vs hvs => ?_⟩
  split at p1
  · rename_i d1 d2 d3
    obtain ⟨v1, r1, e1, h1, h2⟩ := hvs
    obtain ⟨v2, r2, e2, h3, h4⟩ := h2
    obtain ⟨v3, r3, e3, h5, h6⟩ := h4
    have e4 : r3 = [] := h6
    subst e1 e2 e3 e4
    split at p1
    · exact ⟨v1, v2, v3, rfl, PostS.here st1 (env_set (env_set (env_set (x1.env en) h1) h3) h5) p1⟩
    · exact p1.elim
  · exact p1.elim
theorem sw_par3 {env : PySem.Env} {x y z : Str} {px py pz pt pt2 : Pos} {kt k2 : Nat} {a b c : Expr} (hk : env.scope.kind = .function) (hx : env.scope.names.lookup x = some .local) (hy : env.scope.names.lookup y = some .local) (hz : env.scope.names.lookup z = some .local) (hl : py.line = px.line) (hl2 : pz.line = px.line)
    (hxy : x ≠ y) (hxz : x ≠ z) (hyz : y ≠ z) (ha : noStar a = true) (hb : noStar b = true) (hc : noStar c = true)
    (hf : (foldedForSure 8 a && (foldedForSure 8 b && foldedForSure 8 c)) = false) (hc' : (constantsAlone 8 a && (constantsAlone 8 b && constantsAlone 8 c)) = false) : swappedStores [.Tuple [.Name x px, .Name y py, .Name z pz] kt pt] (.Tuple [a, b, c] k2 pt2) env = pure (some [x, y, z]) := by
  have kx : env.kindOf x = some .local := hx
  have ky : env.kindOf y = some .local := hy
  have kz : env.kindOf z = some .local := hz
  have hbk : env.blockKind = .function := by unfold Env.blockKind; rw [hk]; rfl
  have ed : ([x, y, z] : List Str).eraseDups = [x, y, z] := by
    have h1 : (y == x) = false := beq_eq_false_iff_ne.mpr (Ne.symm hxy)
    have h2 : (z == x) = false := beq_eq_false_iff_ne.mpr (Ne.symm hxz)
    have h3 : (z == y) = false := beq_eq_false_iff_ne.mpr (Ne.symm hyz)
    simp [List.eraseDups_cons, h1, h2, h3]
  unfold swappedStores
  simp [hbk, kx, ky, kz, hl, hl2, ed, hf, hc', Expr.pos]
  have st : ∀ {e : Expr}, noStar e = true → (match e with | .Starred .. => true | _ => false) = false := fun {e} h => by
    cases e <;> first | rfl | cases h
  intro h
  rcases h with h | h | h
  · cases a <;> first | (cases h; done) | (cases ha; done)
  · cases b <;> first | (cases h; done) | (cases hb; done)
  · cases c <;> first | (cases h; done) | (cases hc; done)
/-- o[i], x = a, b -/
theorem ps_sn {sn : Str → Bool} (c : Ctx u sn X W) {o ix a b : Expr} {y : Str} {j : Nat} {sa sb : Sm} {Eo Ei : Env → Store → R T} {tpos py pt pt2 : Pos} {kt k2 : Nat} (hj : X.N[j]? = some y) (hy : sn y = true) (hi : plainI ix = true) (hna : noStar a = true) (hnb : noStar b = true)
    (ho : PE X o (RdE (gof u X) W Eo)) (hix : PE X ix (RdE (gof u X) W Ei)) (ha : PE X a (RdE (gof u X) W sa.E)) (hb : PE X b (RdE (gof u X) W sb.E)) :
    PS X (.Assign [.Tuple [.Subscript o ix tpos, .Name y py] kt pt] (.Tuple [a, b] k2 pt2) pos) (RdS (gof u X) W fun ρ S => thenS (evM [sa, sb] ρ S) ρ fun ds S1 => (match ds with
    | [x, y] => thenS ((Eo ρ S1).bind fun to S2 => (Ei ρ S2).bind fun ti S3 => optS (setF to ti x S3)) ρ fun _ S4 => if j < ρ.length then .ok .nx (ρ.set j (some y)) S4 else .bad
    | _ => .bad)) := by
  have hasg : ∀ v, assign (.Subscript o ix tpos) X.env v = (do
      let ov ← holding [v] (eval o X.env)
      let iv ← holding [v, ov] (eval ix X.env)
      standAt tpos
      holding [v, ov, iv] (setItem ov iv v)
      release [v, ov, iv] []) := by
    intro v
    cases ix <;> first | rfl | cases hi
  have hg := pg_tup (k := kt) (pos := pt) c.calm (pgs_cons (pg_sub (pos := tpos) ho hix (set_E (u := u) c.un) hasg) (pgs_cons (pg_name (pos := py) c.nd hj (c.fn y hy).1 (c.fn y hy).2) pgs_nil))
  refine PS.imp (ps_asg (pe_tupF (k := k2) (pos := pt2) (pa_m1 hna ha (pa_m1 hnb hb pa_m0))) hg (noComp_ok (e := .Tuple [a, b] k2 pt2) (t := some (.Tuple [.Subscript o ix tpos, .Name y py] kt pt)) (l := pos.line) (env := X.env) rfl) (sw_none3 (show someCell X.env.scope (.Tuple [.Subscript o ix tpos, .Name y py] kt pt) = true from rfl)) rfl) ?_
  rintro De σ H ⟨S, m, ρ, st, en, p⟩
  refine ⟨S, m, ρ, st, en, (PostS.thenS en p).mono fun ds S1 m1 H1 x1 st1 p1 vs hvs => ?_⟩
  split at p1
  · rename_i d1 d2
    obtain ⟨v1, r1, e1, h1, h2⟩ := hvs
    obtain ⟨v2, r2, e2, h3, h4⟩ := h2
    have e3 : r2 = [] := h4
    subst e1 e2 e3
    refine ⟨by show 2 ≤ sizeLine; rw [sizeLine_eq]; decide, fun q oo hq hoo => ?_⟩
    obtain ⟨y0, st2⟩ := alloc_ok (o := .frz oo (.tup [v1, v2])) st1 hq
    have en1 := y0.env (x1.env en)
    have p2 := PostS.rebase y0 p1
    refine ⟨q, [v1, v2], rfl, .inl (.inr ⟨oo, upd_same⟩), rfl, v1, [v2], rfl, ?_⟩
    refine sub st2 en1 ((PostS.thenS en1 p2).bind.mono fun to S3 m3 H3 x3 st3 p3 ov fo eo => ?_)
    refine ⟨S3, m3, ρ, st3, x3.env en1, p3.bind.mono fun ti S4 m4 H4 x4 st4 p4 iv fi ei => ?_⟩
    cases e5 : setF to ti d1 S4 with
    | none =>
      rw [e5] at p4
      exact p4.elim
    | some S5 =>
      rw [e5] at p4
      refine ⟨S4, m4, to, ti, d1, S5, st4, x4.encT st3 eo, ei, ((y0.trans x3).trans x4).enc h1, e5, fun m5 H5 x5 st5 => ?_⟩
      have p5 := p4 m5 H5 x5 st5
      split at p5
      · have en5 := ((x3.trans x4).trans x5).env en1
        exact ⟨v2, [], rfl, rfl, PostS.here st5 (env_set en5 ((((y0.trans x3).trans x4).trans x5).enc h3)) p5⟩
      · exact p5.elim
  · exact p1.elim
end
end Ev
-- EvS16
set_option Elab.async false
set_option linter.all false
set_option maxRecDepth 100000
set_option maxHeartbeats 4000000
/-! EvS16: the compiler and its soundness. -/
namespace Ev
open PySem PySem.Spec PyProof.Rows L2
abbrev Rc := Sc → Expr → Option Ex
abbrev Ri := Sc → Expr → Option (Ex × Bool)
def cName (u : Tb) (z : Sc) : Expr → Option Ex
  | .Name x _ => if dbg x || cld x then none else match z.N.idxOf? x with
    | some i => if visB z.sc x then some (.v i) else none
    | none => if glB z.sc x then (u.con.lookup x).map (.gc x) else none
  | .Constant (.int i) _ _ => some (.c (.int i))
  | .Constant (.bool b) _ _ => some (.c (.bl b))
  | .Constant .none _ _ => some (.c .non)
  | .Constant (.str s) _ _ => some (.c (.str s))
  | _ => none
def isCall : Expr → Bool
  | .Call .. => true
  | _ => false
/-- calls by name -/
def cCall (u : Tb) (rE : Rc) (z : Sc) : Expr → Option Ex
  | .Call (.Name x _) [] _ _ => none
  | .Call (.Name x _) [e, .Name tn p2] [] _ =>
    if x = "isinstance" ∧ (tn = "int" ∨ tn = "bool") then
      if glB z.sc x && glB z.sc tn && decide (x ∈ u.blt) && decide (tn ∈ u.blt) && noStar e then (rE z e).map fun y => .bi (if tn = "int" then .isInt else .isBool) [y] else none
    else if x = "isinstance" ∧ tn = "tuple" then
      if glB z.sc x && glB z.sc tn && decide (x ∈ u.blt) && decide (tn ∈ u.blt) && noStar e then (rE z e).map fun y => .bi .isTup [y] else none
    else if glB z.sc x && !dbg x then (match cEs (rE z) [e, .Name tn p2] with
      | some ys => (match u.fnm.idxOf? x with
        | some i => some (.call i ys)
        | none => if x ∈ u.blt then (biOf x 2).map fun b => .bi b ys else none)
      | none => none) else none
  | .Call (.Name x _) (e :: es) [] _ => if glB z.sc x && !dbg x then (match cEs (rE z) (e :: es) with
      | some ys => (match u.fnm.idxOf? x with
        | some i => some (.call i ys)
        | none => if x ∈ u.blt then (biOf x (e :: es).length).map fun b => .bi b ys else none)
      | none => none) else none
  | .Call (.Attribute o m apos) [a, b] [] cpos => if m = "get" ∧ (apos.endLine == cpos.line) = true ∧ isCall o = false then (match rE z o, cEs (rE z) [a, b] with
      | some y, some ys => some (.me .get2 y ys)
      | _, _ => none) else none
  | _ => none
/-- comprehensions -/
def ownOf (N : List Str) (scope : Scope) : List (Str × Nat) := scope.names.filterMap fun y => if y.2 = .local ∨ y.2 = .cell then (N.idxOf? y.1).map fun i => (y.1, i) else none
def blkSc (z : Sc) (scope : Scope) : Sc := ⟨z.N, relS scope z.sc, blkSt scope z.sc, false⟩
def isSet : Expr → Bool
  | .Set .. => true
  | _ => false
def cComp (rE rB : Rc) (rI : Ri) (z : Sc) : Expr → Option Ex
  | .ListComp elt [⟨tg, it, ifs, 0⟩] scope _ =>
    if blkC z.N z.sc scope (ownOf z.N scope) && !isSet it then (match cG z.N (blkSt scope z.sc) tg, rI z it, rE (blkSc z scope) elt with
      | some t, some (y, weak), some e => if (!weak || t.isTup) && decide (∀ i ∈ t.vars, i ∈ (ownOf z.N scope).map (·.2)) then (match ifs with
          | [] => some (.lc ((ownOf z.N scope).map (·.2)) e t y [])
          | [c] => (rB (blkSc z scope) c).map fun k => .lc ((ownOf z.N scope).map (·.2)) e t y [k]
          | _ => none) else none
      | _, _, _ => none) else none
  | _ => none
def isInOp (op : CmpOp) : Bool := decide (op = .In) || decide (op = .NotIn)
theorem isInOp_ok {op : CmpOp} (h : isInOp op = true) : op = opIn (decide (op = .NotIn)) := by
  cases op <;> first | rfl | (exact absurd h (by decide))
def cOp (rE rB : Rc) (z : Sc) : Expr → Option Ex
  | .Tuple es _ _ => (cEs (rE z) es).map .tup
  | .List es _ => (cEs (rE z) es).map .lst
  | .Dict [] [] _ => some .dT0
  | .Dict [some k] [v] _ => (match rE z k, rE z v with
    | some a, some b => some (.dT1 a b)
    | _, _ => none)
  | .BinOp a op b _ => (match opOf op, rE z a, rE z b with
    | some o, some x, some y => some (.bin o x y)
    | _, _, _ => none)
  | .UnaryOp .USub a _ => (rE z a).map .neg
  | .UnaryOp .Not a _ => (match rE z a with
    | some x => if okB x then some (.not x) else none
    | none => none)
  | .BoolOp .And (e :: es) _ => (cEs (rE z) (e :: es)).map .and
  | .BoolOp .Or (e :: es) _ => (cEs (rE z) (e :: es)).map .or
  | .Compare a [op] [b] _ => (match cmOf op, rE z a, rE z b with
    | some o, some x, some y => some (.cmp o x y)
    | none, some x, some y => if isInOp op && !behindInMarks op b then some (.isin (decide (op = .NotIn)) x y) else none
    | _, _, _ => none)
  | .Compare a [op, op'] [b, c] _ => (match cmOf op, cmOf op', rE z a, rE z b, rE z c with
    | some o, some o', some x, some y, some w => some (.chn o o' x y w)
    | _, _, _, _, _ => none)
  | .IfExp t a b _ => (match rB z t, rE z a, rE z b with
    | some k, some x, some y => some (.ife k x y)
    | _, _, _ => none)
  | .Subscript a (.Slice lo hi none _) _ => (match rE z a, lo, hi with
    | some x, none, none => some (.sl false false x (.c .non) (.c .non))
    | some x, some l, none => (rE z l).map fun y => .sl true false x y (.c .non)
    | some x, none, some h => (rE z h).map fun y => .sl false true x (.c .non) y
    | some x, some l, some h => (match rE z l, rE z h with
      | some y, some w => some (.sl true true x y w)
      | _, _ => none)
    | none, _, _ => none)
  | .Subscript a i _ => if plainI i then (match rE z a, rE z i with
    | some x, some y => some (.ix x y)
    | _, _ => none) else none
  | _ => none
def orE (a b : Option Ex) : Option Ex := match a with
  | some x => some x
  | none => b
/-- lambdas: by their own rule -/
abbrev LamC := Tb → Rc → Sc → Expr → Option Ex
def cE1 (L : LamC) (u : Tb) (rE rB : Rc) (rI : Ri) : Rc := fun z e => orE (cName u z e) (orE (cOp rE rB z e) (orE (cCall u rE z e) (orE (cComp rE rB rI z e) (L u rE z e))))
def cB1 (rE rB : Rc) : Rc := fun z e => match e with
  | .UnaryOp .Not a _ => (rB z a).map .not
  | .BoolOp .And (x :: es) _ => (cEs (rB z) (x :: es)).map .and
  | .BoolOp .Or (x :: es) _ => (cEs (rB z) (x :: es)).map .or
  | .Compare a [op] [b] _ => (match cmOf op, rE z a, rE z b with
    | some o, some x, some y => some (.cmp o x y)
    | none, some x, some y => if isInOp op && !behindInMarks op b then some (.isin (decide (op = .NotIn)) x y) else none
    | _, _, _ => none)
  | .Compare a [op, op'] [b, c] _ => (match cmOf op, cmOf op', rE z a, rE z b, rE z c with
    | some o, some o', some x, some y, some w => some (.chn o o' x y w)
    | _, _, _, _, _ => none)
  | e => if plainT e then (match rE z e with
    | some x => if okB x then some x else none
    | none => none) else none
def cI1 (u : Tb) (rE : Rc) : Ri := fun z e => match e with
  | .Call (.Name x p) [a] [] pos => if x = "range" then (if glB z.sc x && decide (x ∈ u.blt) then (cEs (rE z) [a]).map fun ys => (.bi .range ys, false) else none) else
      if x = "enumerate" then (if glB z.sc x && decide (x ∈ u.blt) then (cEs (rE z) [a]).map fun ys => (.bi .enum ys, true) else none) else
      (match rE z (.Call (.Name x p) [a] [] pos) with
        | some x => if okI x then some (x, false) else none
        | none => none)
  | .Call (.Name x p) [a, b] [] pos => if x = "range" then (if glB z.sc x && decide (x ∈ u.blt) then (cEs (rE z) [a, b]).map fun ys => (.bi .range2 ys, false) else none) else
      if x = "zip" then (if glB z.sc x && decide (x ∈ u.blt) then (cEs (rE z) [a, b]).map fun ys => (.bi .zip ys, true) else none) else
      (match rE z (.Call (.Name x p) [a, b] [] pos) with
        | some x => if okI x then some (x, false) else none
        | none => none)
  | .Call (.Attribute o m apos) [] [] cpos => if m = "items" ∧ (apos.endLine == cpos.line) = true ∧ isCall o = false then (rE z o).map fun y => (.me .items y [], true) else none
  | e => (match rE z e with
    | some x => if okI x then some (x, false) else none
    | none => none)
mutual
def cE (L : LamC) (u : Tb) : Nat → Rc
  | 0 => fun _ _ => none
  | k + 1 => cE1 L u (cE L u k) (cB L u k) (cI L u k)
def cB (L : LamC) (u : Tb) : Nat → Rc
  | 0 => fun _ _ => none
  | k + 1 => cB1 (cE L u k) (cB L u k)
def cI (L : LamC) (u : Tb) : Nat → Ri
  | 0 => fun _ _ => none
  | k + 1 => cI1 u (cE L u k)
end

/-! ### soundness -/
def SE (u : Tb) (n : Nat) (r : Rc) : Prop := ∀ z e x, r z e = some x → ∀ (X : Cx) (W : WX), Cz u n z X W → PE X e (RdE (gof u X) W (ev (callN u.F n) x).E)
def SB (u : Tb) (n : Nat) (r : Rc) : Prop := ∀ z e x, r z e = some x → ∀ (X : Cx) (W : WX), Cz u n z X W → PT X e (RdB (gof u X) W (ev (callN u.F n) x).B)
def isTupE : Expr → Bool
  | .Tuple .. => true
  | _ => false
def SI (u : Tb) (n : Nat) (r : Ri) : Prop := ∀ z e x b, r z e = some (x, b) → ∀ (X : Cx) (W : WX), Cz u n z X W → ∀ tg, (b = true → isTupE tg = true) → PI X tg e (RdI (gof u X) W b (ev (callN u.F n) x).I)
theorem orE_some {a b : Option Ex} {x : Ex} (h : orE a b = some x) : a = some x ∨ b = some x := by
  cases a with
  | none => exact .inr h
  | some y => exact .inl h
section
variable {u : Tb} {n : Nat}
theorem cName_ok : SE u n (cName u) := by
  intro z e x h X W c
  unfold cName at h
  split at h
  · rename_i y pos
    split at h
    · cases h
    · rename_i hd
      have hd' : dbg y = false ∧ cld y = false := by
        cases h1 : dbg y <;> cases h2 : cld y <;> simp [h1, h2] at hd ⊢
      split at h
      · rename_i i hi
        split at h
        · rename_i hv
          cases h
          exact pe_v (by rw [c.eN]; exact idx_some hi) (vis_ok c hv) hd'.1 hd'.2
        · cases h
      · split at h
        · rename_i hg
          cases h1 : u.con.lookup y with
          | none =>
            rw [h1] at h
            cases h
          | some d =>
            rw [h1] at h
            cases h
            obtain ⟨v, w, q1, q2, q3⟩ := c.fx.con y d (PySem.mem_of_lookup h1)
            exact pe_gc q1 (pe_glob (gl_ok c hg) q2 q3 hd'.1)
        · cases h
  · cases h
    exact pe_k rfl pe_int
  · cases h
    exact pe_k rfl pe_bl
  · cases h
    exact pe_k rfl pe_non
  · cases h
    exact pe_k rfl pe_str
  · cases h
theorem cOp_ok {rE rB : Rc} (hE : SE u n rE) (hB : SB u n rB) : SE u n (cOp rE rB) := by
  intro z e x h X W c
  have rE' : ∀ e x, rE z e = some x → PE X e (RdE (gof u X) W (ev (callN u.F n) x).E) := fun e x h => hE z e x h X W c
  unfold cOp at h
  split at h
  · -- tuple
    rename_i es k pos
    cases h1 : cEs (rE z) es with
    | none => rw [h1] at h; cases h
    | some ys =>
      rw [h1] at h
      cases h
      exact pe_tupD (cEs_M rE' h1)
  · rename_i es pos
    cases h1 : cEs (rE z) es with
    | none => rw [h1] at h; cases h
    | some ys =>
      rw [h1] at h
      cases h
      exact pe_lstD (cEs_M rE' h1)
  · cases h
    exact pe_d0
  · split at h
    · rename_i a b h1 h2
      cases h
      exact pe_d1 c.c.un (rE' _ _ h1) (rE' _ _ h2)
    · cases h
  · split at h
    · rename_i o x y h0 h1 h2
      cases h
      rw [opOf_ok h0]
      exact pe_bin2 (op_bin2 rfl o) (rE' _ _ h1) (rE' _ _ h2)
    · cases h
  · rename_i a pos
    cases h1 : rE z a with
    | none => rw [h1] at h; cases h
    | some y =>
      rw [h1] at h
      cases h
      exact pe_ng (rE' _ _ h1)
  · rename_i a pos
    split at h
    · rename_i x h1
      split at h
      · rename_i hk
        cases h
        have q := pe_nt (pos := pos) (rE' _ _ h1)
        rw [← okB_ok _ hk] at q
        exact q
      · cases h
    · cases h
  · rename_i e es pos
    cases h1 : cEs (rE z) (e :: es) with
    | none => rw [h1] at h; cases h
    | some ys =>
      rw [h1] at h
      cases h
      exact cEs_and rE' (by simp) h1
  · rename_i e es pos
    cases h1 : cEs (rE z) (e :: es) with
    | none => rw [h1] at h; cases h
    | some ys =>
      rw [h1] at h
      cases h
      exact cEs_or rE' (by simp) h1
  · rename_i a op b pos
    split at h
    · rename_i o x y h0 h1 h2
      cases h
      rw [cmOf_ok h0]
      exact pe_cm c.c.un (rE' _ _ h1) (rE' _ _ h2)
    · rename_i x y h0 h1 h2
      split at h
      · rename_i hq
        cases h
        rw [Bool.and_eq_true, Bool.not_eq_true'] at hq
        have e := isInOp_ok hq.1
        have hm := hq.2
        generalize decide (op = .NotIn) = neg at e ⊢
        subst e
        exact pe_in neg (rE' _ _ h1) (rE' _ _ h2) hm
      · cases h
    · cases h
  · split at h
    · rename_i o o' x y w h0 h0' h1 h2 h3
      cases h
      rw [cmOf_ok h0, cmOf_ok h0']
      exact pe_chn c.c.un (rE' _ _ h1) (rE' _ _ h2) (rE' _ _ h3)
    · cases h
  · split at h
    · rename_i k x y h0 h1 h2
      cases h
      exact pe_ife (hB z _ _ h0 X W c) (rE' _ _ h1) (rE' _ _ h2)
    · cases h
  · split at h
    · rename_i x h1
      cases h
      exact pe_slE (rE' _ _ h1) po_no po_no
    · rename_i x l h1
      cases h2 : rE z l with
      | none => rw [h2] at h; cases h
      | some y =>
        rw [h2] at h
        cases h
        exact pe_slE (rE' _ _ h1) (po_e (rE' _ _ h2)) po_no
    · rename_i x l h1
      cases h2 : rE z l with
      | none => rw [h2] at h; cases h
      | some y =>
        rw [h2] at h
        cases h
        exact pe_slE (rE' _ _ h1) po_no (po_e (rE' _ _ h2))
    · rename_i x l hh h1
      split at h
      · rename_i y w h2 h3
        cases h
        exact pe_slE (rE' _ _ h1) (po_e (rE' _ _ h2)) (po_e (rE' _ _ h3))
      · cases h
    · cases h
  · split at h
    · rename_i hp
      split at h
      · rename_i x y h1 h2
        cases h
        exact pe_ixE hp (rE' _ _ h1) (rE' _ _ h2)
      · cases h
    · cases h
  · cases h
theorem idx_mem {N : List Str} {x : Str} {i : Nat} (h : N.idxOf? x = some i) : N[i]? = some x := idx_some h
theorem obase {o : Expr} {m : Str} {env : PySem.Env} (h : isCall o = false) : attributeBase o m env (eval o env) = eval o env := by
  cases o <;> first | rfl | cases h
theorem cCall_gen {rE : Rc} (hE : SE u n rE) {z : Sc} {X : Cx} {W : WX} (c : Cz u n z X W) {x : Str} {e : Expr} {es : List Expr} {p pos : Pos} {y : Ex}
    (h : (if glB z.sc x && !dbg x then (match cEs (rE z) (e :: es) with
      | some ys => (match u.fnm.idxOf? x with
        | some i => some (Ex.call i ys)
        | none => if x ∈ u.blt then (biOf x (e :: es).length).map fun b => .bi b ys else none)
      | none => none) else none) = some y) : PE X (.Call (.Name x p) (e :: es) [] pos) (RdE (gof u X) W (ev (callN u.F n) y).E) := by
  have rE' : ∀ e x, rE z e = some x → PE X e (RdE (gof u X) W (ev (callN u.F n) x).E) := fun e x h => hE z e x h X W c
  split at h
  · rename_i hg
    rw [Bool.and_eq_true] at hg
    have hdb : (x == ("__debug__" : Str)) = false := by simpa [dbg] using hg.2
    split at h
    · rename_i ys h1
      split at h
      · rename_i i hi
        cases h
        exact pe_cl c.fx c.c.tk c.rm (idx_mem hi) (gl_ok c hg.1) hdb (cEs_star h1) (cEs_M rE' h1)
      · split at h
        · rename_i hb
          cases h2 : biOf x (e :: es).length with
          | none => rw [h2] at h; cases h
          | some b =>
            rw [h2] at h
            cases h
            obtain ⟨q, q1, q2⟩ := biOf_ok c.c h2
            have hm := c.fx.blt x hb
            rcases q with ⟨id, q3, q4⟩ | ⟨T, q3, q4⟩
            · exact pe_biB q3 (gl_ok c hg.1) hm q4 q1 q2 (cEs_star h1) (cEs_T rE' h1)
            · exact pe_biT q3 (gl_ok c hg.1) hm q4 q1 q2 (cEs_star h1) (cEs_T rE' h1)
        · cases h
    · cases h
  · cases h
theorem kit_int (K : PySem.W.Frag) : PySem.W.kitOne K (.type "int") (.type "int") = some true ∧ PySem.W.kitOne K (.type "bool") (.type "int") = some true ∧ PySem.W.kitOne K (.type "NoneType") (.type "int") = some false ∧ PySem.W.kitOne K (.type "str") (.type "int") = some false :=
  ⟨kit_ty (by kernel_rfl), kit_ty (by kernel_rfl), kit_ty (by kernel_rfl), kit_ty (by kernel_rfl)⟩
theorem kit_bool (K : PySem.W.Frag) : PySem.W.kitOne K (.type "int") (.type "bool") = some false ∧ PySem.W.kitOne K (.type "bool") (.type "bool") = some true ∧ PySem.W.kitOne K (.type "NoneType") (.type "bool") = some false ∧ PySem.W.kitOne K (.type "str") (.type "bool") = some false :=
  ⟨kit_ty (by kernel_rfl), kit_ty (by kernel_rfl), kit_ty (by kernel_rfl), kit_ty (by kernel_rfl)⟩
theorem isInt_ok (K : PySem.W.Frag) (ts : List Ev.T) (S : Store) (t : Ev.T) (h : biF .isInt ts S = some t) : ∃ d, ts = [.v d] ∧ ∃ k, t = .v (.bl k) ∧ ((∃ i, d = .int i ∧ PySem.W.kitOne K (.type "int") (.type "int") = some k) ∨ (∃ i, d = .bl i ∧ PySem.W.kitOne K (.type "bool") (.type "int") = some k) ∨
      (d = .non ∧ PySem.W.kitOne K (.type "NoneType") (.type "int") = some k) ∨ (∃ i, d = .str i ∧ PySem.W.kitOne K (.type "str") (.type "int") = some k)) := by
  obtain ⟨k1, k2, k3, k4⟩ := kit_int K
  unfold biF at h
  split at h <;> try contradiction
  · cases h
    exact ⟨_, rfl, _, rfl, .inl ⟨_, rfl, k1⟩⟩
  · cases h
    exact ⟨_, rfl, _, rfl, .inr (.inl ⟨_, rfl, k2⟩)⟩
  · cases h
    exact ⟨_, rfl, _, rfl, .inr (.inr (.inl ⟨rfl, k3⟩))⟩
  · cases h
    exact ⟨_, rfl, _, rfl, .inr (.inr (.inr ⟨_, rfl, k4⟩))⟩
theorem isBool_ok (K : PySem.W.Frag) (ts : List Ev.T) (S : Store) (t : Ev.T) (h : biF .isBool ts S = some t) : ∃ d, ts = [.v d] ∧ ∃ k, t = .v (.bl k) ∧ ((∃ i, d = .int i ∧ PySem.W.kitOne K (.type "int") (.type "bool") = some k) ∨ (∃ i, d = .bl i ∧ PySem.W.kitOne K (.type "bool") (.type "bool") = some k) ∨
      (d = .non ∧ PySem.W.kitOne K (.type "NoneType") (.type "bool") = some k) ∨ (∃ i, d = .str i ∧ PySem.W.kitOne K (.type "str") (.type "bool") = some k)) := by
  obtain ⟨k1, k2, k3, k4⟩ := kit_bool K
  unfold biF at h
  split at h <;> try contradiction
  · cases h
    exact ⟨_, rfl, _, rfl, .inr (.inl ⟨_, rfl, k2⟩)⟩
  · cases h
    exact ⟨_, rfl, _, rfl, .inl ⟨_, rfl, k1⟩⟩
  · cases h
    exact ⟨_, rfl, _, rfl, .inr (.inr (.inl ⟨rfl, k3⟩))⟩
  · cases h
    exact ⟨_, rfl, _, rfl, .inr (.inr (.inr ⟨_, rfl, k4⟩))⟩
theorem cCall_ok {rE : Rc} (hE : SE u n rE) : SE u n (cCall u rE) := by
  intro z e x h X W c
  have rE' : ∀ e x, rE z e = some x → PE X e (RdE (gof u X) W (ev (callN u.F n) x).E) := fun e x h => hE z e x h X W c
  unfold cCall at h
  split at h
  · cases h
  · rename_i f p e1 tn p2 pos
    split at h
    · rename_i hq
      obtain ⟨hf, ht⟩ := hq
      subst hf
      split at h
      · rename_i hg
        rw [Bool.and_eq_true, Bool.and_eq_true, Bool.and_eq_true, Bool.and_eq_true, decide_eq_true_eq, decide_eq_true_eq] at hg
        obtain ⟨⟨⟨⟨g1, g2⟩, g3⟩, g4⟩, g5⟩ := hg
        cases h1 : rE z e1 with
        | none => rw [h1] at h; cases h
        | some y =>
          rw [h1] at h
          cases h
          rcases ht with rfl | rfl
          · exact pe_isi (s := ev (callN u.F n) y) (rE' _ _ h1) g5 (gl_ok c g1) (c.fx.blt _ g3) (gl_ok c g2) (c.fx.blt _ g4) boot_int (by decide) (by decide) (isInt_ok X.K)
          · exact pe_isi (s := ev (callN u.F n) y) (rE' _ _ h1) g5 (gl_ok c g1) (c.fx.blt _ g3) (gl_ok c g2) (c.fx.blt _ g4) boot_bool (by decide) (by decide) (isBool_ok X.K)
      · cases h
    · split at h
      · rename_i hq
        obtain ⟨hf, ht⟩ := hq
        subst hf ht
        split at h
        · rename_i hg
          rw [Bool.and_eq_true, Bool.and_eq_true, Bool.and_eq_true, Bool.and_eq_true, decide_eq_true_eq, decide_eq_true_eq] at hg
          obtain ⟨⟨⟨⟨g1, g2⟩, g3⟩, g4⟩, g5⟩ := hg
          cases h1 : rE z e1 with
          | none => rw [h1] at h; cases h
          | some y =>
            rw [h1] at h
            cases h
            exact pe_isiT (s := ev (callN u.F n) y) (rE' _ _ h1) g5 (gl_ok c g1) (c.fx.blt _ g3) (gl_ok c g2) (c.fx.blt _ g4)
        · cases h
      · exact cCall_gen hE c h
  · exact cCall_gen hE c h
  · rename_i o m apos a b cpos
    split at h
    · rename_i hq
      obtain ⟨rfl, q1, q2⟩ := hq
      split at h
      · rename_i y ys h1 h2
        cases h
        exact pe_get2 (so := ev (callN u.F n) y) c.c.un (rE' _ _ h1) (cEs_T rE' h2) (cEs_star h2) (obase q2) q1
      · cases h
    · cases h
  · cases h
theorem fold_ok {e : Expr} {env : PySem.Env} (h : isSet e = false) (x : Value) : foldedSetIterable e env x = pure x := by
  cases e <;> first | rfl | cases h
theorem tup_of {N : List Str} {st : Str → Bool} {e : Expr} {t : Tg} (h : cG N st e = some t) (ht : t.isTup = true) : isTupE e = true := by
  cases e with
  | Tuple es k pos => rfl
  | Name x pos =>
    unfold cG at h
    cases h1 : N.idxOf? x with
    | none => rw [h1] at h; cases h
    | some i =>
      rw [h1] at h
      have h' : (if st x then some (Tg.v i) else none) = some t := h
      split at h'
      · cases h'
        cases ht
      · cases h'
  | _ => unfold cG at h; cases h
theorem cz_blk {z : Sc} {X X' : Cx} {W : WX} (c : Cz u n z X W) (scope : Scope) (c' : Ctx u (blkSt scope X.env.scope) X' WF) (h1 : X'.N = X.N) (h2 : X'.env.scope = relS scope X.env.scope) (h3 : gof u X' = gof u X) (h5 : X'.A = X.A) : Cz u n (blkSc z scope) X' WF where
  c := by
    have e : blkSt scope X.env.scope = (blkSc z scope).sn := by rw [c.esc]; rfl
    rw [← e]
    exact c'
  eN := h1.trans c.eN
  esc := by rw [h2, c.esc]; rfl
  rm := by rw [h5]; exact c.rm
  fx := by rw [h3]; exact c.fx
  lm := fun h => by cases h
/-- what a comprehension's row needs -/
theorem comp_parts {rE rB : Rc} {rI : Ri} (hE : SE u n rE) (hB : SB u n rB) (hI : SI u n rI) {z : Sc} {elt tg it : Expr} {ifs : List Expr} {scope : Scope} {pos : Pos} {x : Ex} (h : cComp rE rB rI z (.ListComp elt [⟨tg, it, ifs, 0⟩] scope pos) = some x) {X : Cx} {W : WX} (c : Cz u n z X W) :
    ∃ (own : List (Str × Nat)) (E : Env → Store → R T) (t : Tg) (I : Env → Store → R (List D × Option Nat)) (B : Env → Store → R Bool) (weak : Bool), (ev (callN u.F n) x).E = lcE (own.map (·.2)) E t I B ∧ cG X.N (blkSt scope X.env.scope) tg = some t ∧ (weak = true → t.isTup = true) ∧ (∀ i ∈ t.vars, i ∈ own.map (·.2)) ∧
      PI X tg it (RdI (gof u X) W weak I) ∧ blkC X.N X.env.scope scope own = true ∧
      (∀ X', Ctx u (blkSt scope X.env.scope) X' WF → X'.N = X.N → X'.env.scope = relS scope X.env.scope → gof u X' = gof u X → X'.stack = X.stack → X'.A = X.A → PTs X' ifs (RdB (gof u X) WF B) ∧ PE X' elt (RdE (gof u X) WF E)) ∧ ∀ v, foldedSetIterable it X.env v = pure v := by
  unfold cComp at h
  split at h
  case h_2 => cases h
  rename_i heq
  injection heq with i1 i2 i3 i4
  injection i2 with i5 i6
  injection i5 with i7 i8 i9 i10
  subst i1 i3 i7 i8 i9
  split at h
  · rename_i hg
    rw [Bool.and_eq_true] at hg
    split at h
    · rename_i t y weak e2 h1 h2 h3
      split at h
      · rename_i hq
        rw [Bool.and_eq_true, decide_eq_true_eq] at hq
        have hw : weak = true → t.isTup = true := fun e => by
          have := hq.1
          rw [e] at this
          simpa using this
        have hset : isSet it = false := by simpa using hg.2
        have base : ∀ X', Ctx u (blkSt scope X.env.scope) X' WF → X'.N = X.N → X'.env.scope = relS scope X.env.scope → gof u X' = gof u X → X'.stack = X.stack → X'.A = X.A → PE X' elt (RdE (gof u X) WF (ev (callN u.F n) e2).E) := fun X' c' g1 g2 g3 g4 g5 => by
          have q := hE _ _ _ h3 X' WF (cz_blk c scope c' g1 g2 g3 g5)
          rw [g3] at q
          exact q
        have gen : ∀ (conds : List Ex) (B : Env → Store → R Bool), x = .lc ((ownOf z.N scope).map (·.2)) e2 t y conds → evC (evs (callN u.F n) conds) = B → (∀ X', Ctx u (blkSt scope X.env.scope) X' WF → X'.N = X.N → X'.env.scope = relS scope X.env.scope → gof u X' = gof u X → X'.stack = X.stack → X'.A = X.A → PTs X' ifs (RdB (gof u X) WF B)) →
            ∃ (own : List (Str × Nat)) (E : Env → Store → R T) (t : Tg) (I : Env → Store → R (List D × Option Nat)) (B : Env → Store → R Bool) (weak : Bool), (ev (callN u.F n) x).E = lcE (own.map (·.2)) E t I B ∧ cG X.N (blkSt scope X.env.scope) tg = some t ∧ (weak = true → t.isTup = true) ∧ (∀ i ∈ t.vars, i ∈ own.map (·.2)) ∧
              PI X tg it (RdI (gof u X) W weak I) ∧ blkC X.N X.env.scope scope own = true ∧
              (∀ X', Ctx u (blkSt scope X.env.scope) X' WF → X'.N = X.N → X'.env.scope = relS scope X.env.scope → gof u X' = gof u X → X'.stack = X.stack → X'.A = X.A → PTs X' ifs (RdB (gof u X) WF B) ∧ PE X' elt (RdE (gof u X) WF E)) ∧ ∀ v, foldedSetIterable it X.env v = pure v := fun conds B ex eB hB' => by
          subst eB
          refine ⟨ownOf z.N scope, (ev (callN u.F n) e2).E, t, (ev (callN u.F n) y).I, evC (evs (callN u.F n) conds), weak, ?_, ?_, hw, hq.2, ?_, ?_, fun X' c' g1 g2 g3 g4 g5 => ⟨hB' X' c' g1 g2 g3 g4 g5, base X' c' g1 g2 g3 g4 g5⟩, fold_ok hset⟩
          · rw [ex]
            rfl
          · rw [c.eN, c.esc]
            exact h1
          · exact hI z it y weak h2 X W c tg (fun e => tup_of h1 (hw e))
          · rw [c.eN, c.esc]
            exact hg.1
        split at h
        · cases h
          exact gen [] _ rfl rfl fun X' c' g1 g2 g3 g4 g5 => by
            have q := pts0 (u := u) (W := WF) (X := X')
            rw [g3] at q
            exact q
        · rename_i cd
          cases h4 : rB (blkSc z scope) cd with
          | none => rw [h4] at h; cases h
          | some k =>
            rw [h4] at h
            cases h
            exact gen [k] _ rfl rfl fun X' c' g1 g2 g3 g4 g5 => by
              have q := pts1 (u := u) (sm := ev (callN u.F n) k) (hB _ _ _ h4 X' WF (cz_blk c scope c' g1 g2 g3 g5))
              rw [g3] at q
              exact q
        · cases h
      · cases h
    · cases h
  · cases h
theorem cComp_ok {rE rB : Rc} {rI : Ri} (hE : SE u n rE) (hB : SB u n rB) (hI : SI u n rI) : SE u n (cComp rE rB rI) := by
  intro z e x h X W c
  have h' := h
  unfold cComp at h
  split at h
  · obtain ⟨own, E, t, I, B, weak, q0, q1, q2, q3, q4, q5, q6, q7⟩ := comp_parts hE hB hI h' c
    rw [q0]
    exact pe_lcE c.c q1 q2 q3 q4 q5 q6 q7
  · cases h
theorem cB1_ok {rE rB : Rc} (hE : SE u n rE) (hB : SB u n rB) : SB u n (cB1 rE rB) := by
  intro z e x h X W c
  have rE' : ∀ e x, rE z e = some x → PE X e (RdE (gof u X) W (ev (callN u.F n) x).E) := fun e x h => hE z e x h X W c
  have rB' : ∀ e x, rB z e = some x → PT X e (RdB (gof u X) W (ev (callN u.F n) x).B) := fun e x h => hB z e x h X W c
  unfold cB1 at h
  split at h
  · rename_i a pos
    cases h1 : rB z a with
    | none => rw [h1] at h; cases h
    | some y =>
      rw [h1] at h
      cases h
      exact pt_nt (rB' _ _ h1)
  · rename_i e es pos
    cases h1 : cEs (rB z) (e :: es) with
    | none => rw [h1] at h; cases h
    | some ys =>
      rw [h1] at h
      cases h
      exact (cEs_andB rB' (by simp) h1).pt
  · rename_i e es pos
    cases h1 : cEs (rB z) (e :: es) with
    | none => rw [h1] at h; cases h
    | some ys =>
      rw [h1] at h
      cases h
      exact (cEs_orB rB' (by simp) h1).pt
  · rename_i a op b pos
    split at h
    · rename_i o x y h0 h1 h2
      cases h
      rw [cmOf_ok h0]
      exact pt_cm c.c.un (rE' _ _ h1) (rE' _ _ h2)
    · rename_i x y h0 h1 h2
      split at h
      · rename_i hq
        cases h
        rw [Bool.and_eq_true, Bool.not_eq_true'] at hq
        have e := isInOp_ok hq.1
        have hm := hq.2
        generalize decide (op = .NotIn) = neg at e ⊢
        subst e
        exact pt_in neg (rE' _ _ h1) (rE' _ _ h2) hm
      · cases h
    · cases h
  · split at h
    · rename_i o o' x y w h0 h0' h1 h2 h3
      cases h
      rw [cmOf_ok h0, cmOf_ok h0']
      exact pt_chn c.c.un (rE' _ _ h1) (rE' _ _ h2) (rE' _ _ h3)
    · cases h
  · split at h
    · rename_i hp
      split at h
      · rename_i y h1
        split at h
        · rename_i hk
          cases h
          have q := pt_pl hp (rE' _ _ h1)
          rw [← okB_ok _ hk] at q
          exact q
        · cases h
      · cases h
    · cases h
theorem cI_val {rE : Rc} (hE : SE u n rE) {z : Sc} {X : Cx} {W : WX} (c : Cz u n z X W) {e : Expr} {x : Ex} {b : Bool} {tg : Expr}
    (h : (match rE z e with | some x => if okI x then some (x, false) else none | none => none) = some (x, b)) : PI X tg e (RdI (gof u X) W b (ev (callN u.F n) x).I) := by
  split at h
  · rename_i y h1
    split at h
    · rename_i hk
      cases h
      rw [okI_ok _ hk]
      exact pi_E (hE z _ _ h1 X W c)
    · cases h
  · cases h
theorem cI1_ok {rE : Rc} (hE : SE u n rE) : SI u n (cI1 u rE) := by
  intro z e x b h X W c tg htg
  have rE' : ∀ e x, rE z e = some x → PE X e (RdE (gof u X) W (ev (callN u.F n) x).E) := fun e x h => hE z e x h X W c
  unfold cI1 at h
  split at h
  · rename_i f p a pos
    split at h
    · rename_i hf
      subst hf
      split at h
      · rename_i hg
        rw [Bool.and_eq_true, decide_eq_true_eq] at hg
        cases h1 : cEs (rE z) [a] with
        | none => rw [h1] at h; cases h
        | some ys =>
          rw [h1] at h
          cases h
          have hs := cEs_star h1
          rw [List.all_cons, Bool.and_eq_true] at hs
          exact pi_r1 (gl_ok c hg.1) (c.fx.blt _ hg.2) hs.1 (cEs_T rE' h1)
      · cases h
    split at h
    · rename_i hf
      subst hf
      split at h
      · rename_i hg
        rw [Bool.and_eq_true, decide_eq_true_eq] at hg
        cases h1 : cEs (rE z) [a] with
        | none => rw [h1] at h; cases h
        | some ys =>
          rw [h1] at h
          cases h
          have hs := cEs_star h1
          rw [List.all_cons, Bool.and_eq_true] at hs
          have ht := htg rfl
          cases tg with
          | Tuple elts kk tpos => exact pi_en (gl_ok c hg.1) (c.fx.blt _ hg.2) hs.1 (cEs_T rE' h1)
          | _ => cases ht
      · cases h
    · exact cI_val hE c h
  · rename_i f p a a2 pos
    split at h
    · rename_i hf
      subst hf
      split at h
      · rename_i hg
        rw [Bool.and_eq_true, decide_eq_true_eq] at hg
        cases h1 : cEs (rE z) [a, a2] with
        | none => rw [h1] at h; cases h
        | some ys =>
          rw [h1] at h
          cases h
          have hs := cEs_star h1
          rw [List.all_cons, Bool.and_eq_true, List.all_cons, Bool.and_eq_true] at hs
          exact pi_r2 (gl_ok c hg.1) (c.fx.blt _ hg.2) hs.1 hs.2.1 (cEs_T rE' h1)
      · cases h
    split at h
    · rename_i hf
      subst hf
      split at h
      · rename_i hg
        rw [Bool.and_eq_true, decide_eq_true_eq] at hg
        cases h1 : cEs (rE z) [a, a2] with
        | none => rw [h1] at h; cases h
        | some ys =>
          rw [h1] at h
          cases h
          have hs := cEs_star h1
          rw [List.all_cons, Bool.and_eq_true, List.all_cons, Bool.and_eq_true] at hs
          have ht := htg rfl
          cases tg with
          | Tuple elts kk tpos => exact pi_zp (gl_ok c hg.1) (c.fx.blt _ hg.2) hs.1 hs.2.1 (cEs_T rE' h1)
          | _ => cases ht
      · cases h
    · exact cI_val hE c h
  · rename_i o m apos cpos
    split at h
    · rename_i hq
      obtain ⟨rfl, q1, q2⟩ := hq
      cases h1 : rE z o with
      | none => rw [h1] at h; cases h
      | some y =>
        rw [h1] at h
        cases h
        have ht := htg rfl
        cases tg with
        | Tuple elts kk tpos =>
          have eI : (ev (callN u.F n) (.me .items y [])).I = fun ρ S => ((ev (callN u.F n) y).E ρ S).bind fun t S1 => (match t with
              | .v (.ref k) => opt ((asT (.v (.ref k)) S1).map fun kvs => (itemD kvs, lockFor S1 k)) S1
              | _ => .bad) := by
            funext ρ S
            refine congrArg (fun k => ((ev (callN u.F n) y).E ρ S).bind k) (funext fun t => funext fun S1 => ?_)
            cases t with
            | v d => cases d <;> rfl
            | _ => rfl
          rw [eI]
          exact pi_it (rE' _ _ h1) (obase q2) q1
        | _ => cases ht
    · cases h
  · exact cI_val hE c h
/-- lambdas by a rule of their own -/
def SL (u : Tb) (n : Nat) (L : LamC) : Prop := ∀ rE, SE u n rE → SE u n (L u rE)
theorem c_ok {L : LamC} (hL : SL u n L) : ∀ k, SE u n (cE L u k) ∧ SB u n (cB L u k) ∧ SI u n (cI L u k)
  | 0 => ⟨(fun z e x h => by cases h), (fun z e x h => by cases h), (fun z e x b h => by cases h)⟩
  | k + 1 => by
    obtain ⟨h1, h2, h3⟩ := c_ok hL k
    refine ⟨fun z e x h X W c => ?_, cB1_ok h1 h2, cI1_ok h1⟩
    have h' : cE1 L u (cE L u k) (cB L u k) (cI L u k) z e = some x := h
    unfold cE1 at h'
    rcases orE_some h' with q | q
    · exact cName_ok z e x q X W c
    rcases orE_some q with q | q
    · exact cOp_ok h1 h2 z e x q X W c
    rcases orE_some q with q | q
    · exact cCall_ok h1 z e x q X W c
    rcases orE_some q with q | q
    · exact cComp_ok h1 h2 h3 z e x q X W c
    · exact hL _ h1 z e x q X W c
end
end Ev
-- EvY1
set_option Elab.async false
set_option linter.all false
set_option maxRecDepth 100000
set_option maxHeartbeats 4000000
/-! EvY1: what a def makes of a lambda; a lambda's context. -/
namespace Ev
open PySem PySem.Spec PyProof.Rows L2
/-- try: a(); return False / except e: return True -/
def TTno (K : PySem.W.Frag) (CS : Addr) : (XK → Hp → VK → Prop) → Hp → VK → Prop := fun tl H Q =>
  tl (fun cls _ H' => ∃ b, PySem.W.exmOne K cls (.ref CS) = some b ∧ (b = true → Q (.bl true) H') ∧ (b = false → False)) H (fun _ H' => Q (.bl false) H')
theorem no_gives {X : Cx} {Ng : List Str} {x a e q : Str} {sg : Scope} {g CS : Addr} {cdg : Value} {j j' : Nat} {p1 p2 p3 p4 p5 p6 p7 p8 p9 p10 : Pos} (hge : sg.names.lookup e = some .globalImplicit) (hme : X.mg e = some (.ref CS)) (hde : (e == ("__debug__" : Str)) = false) (h0 : ∀ f : Addr, (L2.start Ng [V.ref f])[0]? = some (some (V.ref f))) :
    LamX.GivesTo X Ng x sg g cdg [.Try [.Expr (.Call (.Name a p1) [] [] p2) p3, .Return (some (.Constant (.bool false) j p4)) p5] [.ExceptHandler (some (.Name e p6)) none [.Return (some (.Constant (.bool true) j' p7)) p8] p9] [] [] p10] a q (TTno X.K CS) := by
  intro f c' s H Q tl act hc h
  have hgl : Gl (cxOf C8.CX0 X.prog X.w X.K X.mg X.base Ng x sg g cdg X.A X.stack s H C8.E0).nox e := hge
  refine ⟨_, pss_one (ps_try_only (X := (cxOf C8.CX0 X.prog X.w X.K X.mg X.base Ng x sg g cdg X.A X.stack s H C8.E0).nox) (c := .ref CS)
      (tb := fun W D σ H => ∃ Ech : XK, (∀ cls d σ' H', Ech cls d H' → W cls d σ' H') ∧ σ[0]? = some (some (.ref f)) ∧ H c' = some (LamX.CodeO c' q) ∧ tl Ech H (fun _ H' => D.rt (.bl false) H'))
      rfl rfl ⟨hgl, hde, .inl hme⟩ LamX.takes0 (fun W pn xe tk _ => ?_) (fun a oe cls d pn _ _ => pss_one (ps_ret pe_bl))), ?_⟩
  · refine ⟨fun pins s' σ H' D I h' => ?_⟩
    obtain ⟨Ech, hW, h1, h2, h3⟩ := h'
    have hp := act W pn xe Ech p1 p2 tk hW
    have hq : PSs ((cxOf C8.CX0 X.prog X.w X.K X.mg X.base Ng x sg g cdg X.A X.stack s H C8.E0).nox.tr pn xe) [.Expr (.Call (.Name a p1) [] [] p2) p3, .Return (some (.Constant (.bool false) j p4)) p5] _ := pss_cons (ps_expr (pos := p3) hp (by rfl)) (pss_one (ps_ret (pos := p5) (pe_bl (b := false))))
    exact hq.run pins s' σ H' D I ⟨h1, h2, h3⟩
  · exact ⟨fun cls _ H' => ∃ b, PySem.W.exmOne X.K cls (.ref CS) = some b ∧ (b = true → Q (.bl true) H') ∧ (b = false → False), fun cls d σ' H' ⟨b, e1, e2, e3⟩ => ⟨b, e1, fun hb a _ => e2 hb, fun hb => e3 hb⟩, h0 f, hc, h⟩
theorem no_gives2 {X : Cx} {Ng : List Str} {x a e q : Str} {sg : Scope} {g CS : Addr} {cdg : Value} {j j' : Nat} {p1 p2 p3 p4 p5 p6 p7 p8 p9 p10 : Pos} (hge : sg.names.lookup e = some .globalImplicit) (hme : X.mg e = some (.ref CS)) (hde : (e == ("__debug__" : Str)) = false) (h0 : ∀ f : Addr, (L2.start Ng [V.ref f])[0]? = some (some (V.ref f))) :
    LamX.GivesTo X Ng x sg g cdg [.Try [.Expr (.Call (.Name a p1) [] [] p2) p3] [.ExceptHandler (some (.Name e p6)) none [.Return (some (.Constant (.bool true) j' p7)) p8] p9] [] [] p10, .Return (some (.Constant (.bool false) j p4)) p5] a q (TTno X.K CS) := by
  intro f c' s H Q tl act hc h
  have hgl : Gl (cxOf C8.CX0 X.prog X.w X.K X.mg X.base Ng x sg g cdg X.A X.stack s H C8.E0).nox e := hge
  refine ⟨_, pss_cons (ps_try_only (X := (cxOf C8.CX0 X.prog X.w X.K X.mg X.base Ng x sg g cdg X.A X.stack s H C8.E0).nox) (c := .ref CS)
      (tb := fun W D σ H => ∃ Ech : XK, (∀ cls d σ' H', Ech cls d H' → W cls d σ' H') ∧ σ[0]? = some (some (.ref f)) ∧ H c' = some (LamX.CodeO c' q) ∧ tl Ech H (fun _ H' => D.nx σ H'))
      rfl rfl ⟨hgl, hde, .inl hme⟩ LamX.takes0 (fun W pn xe tk _ => ?_) (fun a oe cls d pn _ _ => pss_one (ps_ret pe_bl))) (pss_one (ps_ret (pos := p5) (pe_bl (b := false)))), ?_⟩
  · refine ⟨fun pins s' σ H' D I h' => ?_⟩
    obtain ⟨Ech, hW, h1, h2, h3⟩ := h'
    have hp := act W pn xe Ech p1 p2 tk hW
    have hq : PSs ((cxOf C8.CX0 X.prog X.w X.K X.mg X.base Ng x sg g cdg X.A X.stack s H C8.E0).nox.tr pn xe) [.Expr (.Call (.Name a p1) [] [] p2) p3] _ := pss_one (ps_expr (pos := p3) hp (by rfl))
    exact hq.run pins s' σ H' D I ⟨h1, h2, h3⟩
  · exact ⟨fun cls _ H' => ∃ b, PySem.W.exmOne X.K cls (.ref CS) = some b ∧ (b = true → Q (.bl true) H') ∧ (b = false → False), fun cls d σ' H' ⟨b, e1, e2, e3⟩ => ⟨b, e1, fun hb a _ => e2 hb, fun hb => e3 hb⟩, h0 f, hc, h⟩
theorem no_gv {X : Cx} {Ng : List Str} {x a e q : Str} {sg : Scope} {g CS : Addr} {cdg : Value} {bg : List Stmt} (hb : NoB a e bg) (hge : sg.names.lookup e = some .globalImplicit) (hme : X.mg e = some (.ref CS)) (hde : (e == ("__debug__" : Str)) = false) (h0 : ∀ f : Addr, (L2.start Ng [V.ref f])[0]? = some (some (V.ref f))) :
    LamX.GivesTo X Ng x sg g cdg bg a q (TTno X.K CS) := by
  cases hb with
  | one => exact no_gives hge hme hde h0
  | two => exact no_gives2 hge hme hde h0
/-- all but the tables stay -/
theorem ext_N {g : Gx} {S : Store} {m : Nat → Addr} {H H1 : Hp} (st : StRel g S m H) (x : LamX.ExtN H H1) (t : LamX.Tabs g.T H1) : Ext g S m H S m H1 ∧ StRel g S m H1 := by
  have k : ∀ b o, H b = some o → (∀ ps, o ≠ .tbl ps) → H1 b = some o := x
  refine ⟨⟨Nat.le_refl _, fun _ _ => rfl, fun _ _ => rfl, fun b o e nt _ => k b o e nt, fun b xs e => k b _ e (fun ps z => by cases z), fun b o w e => k b _ e (fun ps z => by cases z), fun b f o e => ?_, fun j h1 h2 => absurd (Nat.lt_of_le_of_lt h1 h2) (Nat.lt_irrefl _)⟩,
    ⟨st.inj, st.zero, st.own, fun j c e => CellRel.mono (fun a vs h => ?_) (Nat.le_refl _) (fun _ _ => rfl) (fun o e nt => k _ o e nt) (st.cell j c e), t⟩⟩
  · by_cases hq : ∃ ps, o = .tbl ps
    · exact hq
    · exact f o (k b o e fun ps z => hq ⟨ps, z⟩)
  · rcases h with ⟨o, h, d⟩ | h
    · exact .inl ⟨o, k a _ h (fun ps z => by cases z), d⟩
    · exact .inr h
section
variable {u : Tb} {n : Nat}
def lamSc (z : Sc) (scope : Scope) : Sc := ⟨z.N, scope, fun _ => false, false⟩
theorem cz_lam {z : Sc} {X : Cx} {W : WX} (c : Cz u n z X W) {scope : Scope} {A : Around} {outer : List PySem.Env} {s : Shared} {H : Hp} {E : XK} {f c' : Addr} (hr : Room (3 * n) (A.deeper (LamX.lamEnv X scope s.heap.objs.size f c'))) :
    Cz u n (lamSc z scope) (LamX.lamCx X A outer s H E scope f c') (fun c d _ H' => E c d H') where
  c := ⟨c.c.nd, (fun x h => by cases h), rfl, takes_of rfl rfl rfl rfl, passes_of rfl, hr.units⟩
  eN := c.eN
  esc := rfl
  rm := hr
  fx := c.fx
  lm := fun h => by cases h
end
end Ev
-- EvX5
set_option Elab.async false
set_option linter.all false
set_option maxRecDepth 100000
set_option maxHeartbeats 4000000
/-! EvX5: a comprehension whose tests may lean on the frame around it. -/
namespace L2
open PySem PySem.Spec PyProof.Rows
section
variable {X : Cx}
/-- where the block's text is looked at with the frame's own invariant at hand -/
def InBlk (X : Cx) (pins : List (Addr × Obj)) (σ : St) (scope : Scope) (P : Cx → Prop) : Prop := ∀ (s : Shared) (H : Hp) (C : Addr) (cl : List (Str × Addr)) (fp : List Addr), Inv X pins σ H s → (∀ b ∈ fp, FpOk X pins H b ∧ b < s.heap.objs.size) →
  P (X.blk s H scope (compEnvC scope cl C X.env) fp)
theorem lc_frame {pins : List (Addr × Obj)} {s s' : Shared} {σ σ' : St} {H H' : Hp} {scope : Scope} {ce : Env} {fp : List Addr} {pins' : List (Addr × Obj)} (I : Inv X pins σ H s) (f : ∀ b ∈ fp, FpOk X pins H b ∧ b < s.heap.objs.size) (J : Inv (X.blk s H scope ce fp) pins' σ' H' s') : Inv X pins σ H' s' :=
  I.call' (ch := fp) J.os J.base J.hok J.bare fun b hb => ⟨(f b hb).1.2.2.2.1, (f b hb).1.2.1, (f b hb).1.2.2.2.2.1, (f b hb).1.2.2.2.2.2⟩
/-- a comprehension that keeps nothing: what its walk, its target and its tests read -/
def tLc0 (wi : TI) (g : TG) (tt : TT) (vs : List Nat) : TE := fun σ H Q => wi σ H fun J H1 => ∀ D, H1 D = none → ∃ V : Nat → Nat → Hp → Prop, (∃ m, V 0 m (upd H1 D (.lst []))) ∧ ∀ i m H, V i m H → (J.stop i H ∧ Q (.ref D) H) ∨
  (J.go i H ∧ ∃ N : Hp → Prop, (∀ H', N H' → ∃ m', m' < m ∧ V (i + 1) m' H') ∧ ∀ x H', J.yld i H x H' → g x (wipe σ vs) H' fun σ2 H2 => wipe σ2 vs = wipe σ vs ∧ tt σ2 H2 fun b H3 => b = false ∧ N H3)
theorem pe_lc0 {pins : List (Addr × Obj)} {s : Shared} {σ : St} {H : Hp} {Q : VK} {elt tg iter : Expr} {ifs : List Expr} {scope : Scope} {own : List (Str × Nat)} {pos : Pos} {wi : TI} {g : TG} {tt : TT} (calm : X.calm = true) (nd : X.N.Nodup) (I : Inv X pins σ H s) (walk : PI X tg iter wi) (ok : BlkOk X.N X.env.scope scope own)
    (hg : InBlk X pins σ scope fun Y => PG Y tg g) (ht : InBlk X pins σ scope fun Y => PTs Y ifs tt) (hs : ∀ x, foldedSetIterable iter X.env x = pure x) (h : tLc0 wi g tt (own.map (·.2)) σ H Q) :
    wpAny (model X.prog X.w) X.A (eval (.ListComp elt [⟨tg, iter, ifs, 0⟩] scope pos) X.env) (EP X pins σ Q) X.xe s := by
  have cl0 : ∀ y ∈ scope.names, y.2 = .free → ∃ c, X.env.cells.lookup y.1 = some c := fun y hy e => (ok.free y hy e).elim (fun k => I.ok.has _ (.inl k)) (fun k => I.ok.has _ (.inr k))
  rw [eval_ListComp]
  refine wpAny_comprehension_free (use := none) rfl hs (closure_ok cl0) ok.kind (fun y hy e => by rw [ok.uniq y hy, e]) (thn (walk.run pins s σ H _ I h) fun _ _ h1 => thn h1 fun _ s2 h2 => ?_)
  obtain ⟨it, fp, tn, J, H2, rfl, I2, T, t2, f2, q⟩ := h2
  refine wpAny_newObj_type (newEnv_comp ?_) (by show 0 ≤ sizeLine; decide)
  -- the new list, at D
  obtain ⟨D, eD⟩ : ∃ D, D = s2.heap.objs.size := ⟨_, rfl⟩
  obtain ⟨V, ⟨m0, v0⟩, turn⟩ := q D (I2.hok.fresh (Nat.le_of_eq eD.symm))
  have I3 : Inv X pins σ (upd H2 D (.lst [])) { s2 with heap := s2.heap.push { cls := .type "list", data := .seq ([] : List Value).toArray } } :=
    I2.laid (t' := s2.toks) (fun b o e => Heap.get?_push_of_some _ e) (Nat.le_of_eq eD.symm) ⟨Nat.zero_le _, [], 0, .nil, by rw [eD]; exact Heap.get?_push_size _ rfl⟩
  have f3 : ∀ b ∈ fp, FpOk X pins (upd H2 D (.lst [])) b ∧ b < ({ s2 with heap := s2.heap.push { cls := .type "list", data := .seq ([] : List Value).toArray } } : Shared).heap.objs.size := fun b hb => by
    obtain ⟨o, e, _⟩ := T.obj _ _ t2 b hb
    have lt := Heap.lt_size e
    refine ⟨⟨?_, (f2 b hb).2⟩, by show b < (s2.heap.push { cls := .type "list", data := .seq ([] : List Value).toArray }).objs.size; rw [Heap.size_push]; exact Nat.lt_succ_of_lt lt⟩
    rw [upd_ne (by rw [eD]; exact Nat.ne_of_lt lt)]
    exact (f2 b hb).1
  have t3 : tn 0 ({ s2 with heap := s2.heap.push { cls := .type "list", data := .seq ([] : List Value).toArray } } : Shared).heap := T.keep _ _ _ t2 fun b _ o e => Heap.get?_push_of_some { cls := .type "list", data := .seq ([] : List Value).toArray } e
  rw [← eD]
  generalize upd H2 D (.lst []) = H3 at I3 f3 v0
  generalize ({ s2 with heap := s2.heap.push { cls := .type "list", data := .seq ([] : List Value).toArray } } : Shared) = s3 at I3 f3 t3 ⊢
  have I4 := block_start I3 ok nd f3
  have pg := hg s3 H3 s3.heap.objs.size (cellsFrom (s3.heap.objs.size + 1) scope.names (cloFrom X.env.cells scope.names [])) fp I3 f3
  have pt := ht s3 H3 s3.heap.objs.size (cellsFrom (s3.heap.objs.size + 1) scope.names (cloFrom X.env.cells scope.names [])) fp I3 f3
  show codeAny _ _ (.compStart (.ListComp elt [⟨tg, iter, ifs, 0⟩] scope pos) 0 (.ref it) (.ref D) (compEnvC scope (cellsFrom (s3.heap.objs.size + 1) scope.names (cloFrom X.env.cells scope.names [])) s3.heap.objs.size X.env)) _ { s3 with heap := pushCells (s3.heap.push { cls := .type "dict", data := .dict #[] }) scope.names }
  have t4 : tn 0 ({ s3 with heap := pushCells (s3.heap.push { cls := .type "dict", data := .dict #[] }) scope.names } : Shared).heap := T.keep _ _ _ t3 fun b _ o e => pushCells_keeps _ _ _ _ (Heap.get?_push_of_some _ e)
  have nfp : ∀ b ∈ fp, H3 b = none := fun b hb => (f3 b hb).1.1
  have cL : (compEnvC scope (cellsFrom (s3.heap.objs.size + 1) scope.names (cloFrom X.env.cells scope.names [])) s3.heap.objs.size X.env).locals = s3.heap.objs.size := rfl
  generalize compEnvC scope (cellsFrom (s3.heap.objs.size + 1) scope.names (cloFrom X.env.cells scope.names [])) s3.heap.objs.size X.env = ce at I4 pg pt cL ⊢
  generalize ({ s3 with heap := pushCells (s3.heap.push { cls := .type "dict", data := .dict #[] }) scope.names } : Shared) = s4 at I4 t4 ⊢
  have own0 : ∀ {σ' : St} {H' : Hp} {s' : Shared}, Inv (X.blk s3 H3 scope ce fp) [] σ' H' s' → (∀ b ∈ fp, H' b = none) → ∀ b ∈ fp, FpOk (X.blk s3 H3 scope ce fp) [] H' b := fun J n b hb => ⟨n b hb, (J.ok.exf b hb).1, J.ok.exfs b hb, .inl hb, fun x c e => (J.ok.exf b hb).2 x c e, fun p hp => absurd (show p ∈ ([] : List (Addr × Obj)) ++ [] from hp) (by simp)⟩
  have loop : codeAny (model X.prog X.w) X.A (.compLoop (.ListComp elt [⟨tg, iter, ifs, 0⟩] scope pos) 0 (.ref it) (.ref D) ce) (compPost (model X.prog X.w) X.A X.xe none (EP X pins σ Q) (.ref D) s3.heap.objs.size) s4 := by
    refine compLoop_any (fun n s' => ∃ i H', Inv (X.blk s3 H3 scope ce fp) [] (wipe σ (own.map (·.2))) H' s' ∧ tn i s'.heap ∧ (∀ b ∈ fp, H' b = none) ∧ V i n H') (fun n s5 ⟨i, H5, I5, t5, n5, v5⟩ => ?_) m0 ⟨0, H3, I4, t4, nfp, v0⟩
    rcases turn i n H5 v5 with ⟨stop, qq⟩ | ⟨go, N, hN, step⟩
    · refine thnF (T.done (X.blk s3 H3 scope ce fp) rfl rfl rfl calm i [] s5 _ H5 (fun _ _ => False) I5 (own0 I5 n5) t5 stop) fun r s6 ⟨hr, I6⟩ => ?_
      subst hr
      have I7 := lc_frame I3 f3 I6
      have nC : H5 s3.heap.objs.size = none := by
        rw [← cL]
        exact I6.free
      obtain ⟨m, hn, _⟩ := I6.loc
      have hn : s6.heap.Ns ce.locals m := hn
      rw [cL] at hn
      refine ⟨m, hn, fun h7 sb => ?_⟩
      obtain ⟨f0, f1, f2', f3', f4, f5⟩ := I3.fpOk (Nat.le_refl _) nC
      exact ⟨.ref D, H5, I7.turned (t' := s6.toks) (fun b o hb e => (sb.2 b hb).trans e) f0 f1 f3' f4 f5, rfl, qq⟩
    · refine thnF (T.item (X.blk s3 H3 scope ce fp) rfl rfl rfl calm i [] s5 _ H5 (fun _ _ => False) I5 (own0 I5 n5) t5 go) fun r s6 ⟨v, hr, h6⟩ => ?_
      subst hr
      refine thnF h6 fun _ s7 ⟨x, H7, I7, r7, y7, t7, n7⟩ => ?_
      refine thnF (pg.run _ s7 _ H7 x v _ (I7.pinned (own0 I7 n7) (T.obj _ _ t7)) r7 (step x H7 y7)) fun _ s8 ⟨σ8, H8, I8, w8, q8⟩ => ?_
      refine thnF (pt.run _ s8 σ8 H8 _ I8 q8) fun b s9 ⟨H9, I9, q9⟩ => ?_
      obtain ⟨rfl, nx⟩ := q9
      show ∃ m, m < n ∧ _
      obtain ⟨m', hm, v'⟩ := hN H9 nx
      have pn : ∀ b ∈ fp, ∀ o, s7.heap.get? b = some o → s9.heap.get? b = some o ∧ H9 b = none := fun b hb o e =>
        let z := I9.pin (b, o) (List.mem_append_right _ (List.mem_append_right _ (mem_pinsAt hb e)))
        ⟨z.1, z.2.1⟩
      refine ⟨m', hm, i + 1, H9, (I9.unpinned (pins := [])).weak (by rw [← w8, wipe_length]) (fun j v e => by rw [← w8] at e; exact (wipe_some e).1), T.keep _ _ _ t7 fun b hb o e => (pn b hb o e).1, fun b hb => ?_, v'⟩
      obtain ⟨o, e, _⟩ := T.obj _ _ t7 b hb
      exact (pn b hb o e).2
  exact codeAny_compStart_list loop (T.self X.A 0 _ _ _ t4 loop)
end
end L2
-- EvX6
set_option Elab.async false
set_option linter.all false
set_option maxRecDepth 100000
set_option maxHeartbeats 4000000
/-! EvX6: a def handed a lambda that was made before, within a comprehension. -/
namespace L2
open PySem PySem.Spec PyProof.Rows LamX
section
variable {X : Cx}
abbrev params0 : Arguments := ⟨[], [], none, [], [], none, []⟩
abbrev lamO (X : Cx) (body : Expr) (sc : Scope) (pm : Value) (c' : Addr) (ctv : Value) : Obj := PySem.W.kla_obj "<lambda>" (X.env.qual ++ "<lambda>") params0 body sc (cloFrom X.env.cells sc.names []) pm c' ctv
/-- what a lambda that is pinned may be called for -/
structure Clo (X : Cx) (k : Nat) (f c' : Addr) (t : XK → TE) : Prop where
  ex : ∃ (body : Expr) (sc : Scope) (pm ctv : Value), (f, lamO X body sc pm c' ctv) ∈ X.pn ∧ LamS X.env.scope sc ∧ ∀ (A : Around) (outer : List PySem.Env) (s : Shared) (H : Hp) (E : XK), Room k (A.deeper (lamEnv X sc s.heap.objs.size f c')) → PE (lamCx X A outer s H E sc f c') body (t E)
theorem clo_call {pins : List (Addr × Obj)} {σ : St} {scope : Scope} {TT : (XK → Hp → VK → Prop) → Hp → VK → Prop} {x a act : Str} {g : Addr} {k ia : Nat} {pg : Arguments} {bg : List Stmt} {sg : Scope} {dV kV doc pm cdv ct oc : Value} {an od : Option Addr} {osl : Array (Option Value)} {Ng : List Str}
    {p pa pos : Pos} (hst : X.stack = X.env :: X.outer) (hfr : X.env.frame = some X.env.locals) (hg : (relS scope X.env.scope).names.lookup x = some .globalImplicit) (hm : X.mg x = some (.ref g)) (hk : PySem.W.keepIn X.K (.ref g) = true)
    (lk : X.K.lookup g = some ⟨oc, od, .func (PySem.W.fnOf x x pg bg sg dV kV doc pm an cdv ct), osl⟩) (hcg : PySem.W.codeIn X.K cdv x = true) (hb : L2.Binds X.K (PySem.W.fnOf x x pg bg sg dV kV doc pm an cdv ct) [a] []) (Sg : FnScope Ng [a] sg) (hNg : Ng[0]? = some a) (hva : Vis sg a)
    (hG : GivesTo X Ng x sg g cdv bg a (X.env.qual ++ "<lambda>") TT) (hr : Room (k + 2) X.A) (hN : X.N[ia]? = some act) (hv : Vis (relS scope X.env.scope) act)
    (hdb : (x == ("__debug__" : Str)) = false) (hd : (a == ("__debug__" : Str)) = false) (hcd : (a == ("__classdict__" : Str)) = false) (hd2 : (act == ("__debug__" : Str)) = false) (hcd2 : (act == ("__classdict__" : Str)) = false) :
    InBlk X pins σ scope fun Y => PE Y (.Call (.Name x p) [.Name act pa] [] pos) (fun σ' H' Q => ∃ (f c' : Addr) (t : XK → TE), Clo X k f c' t ∧ σ'[ia]? = some (some (.ref f)) ∧ H' c' = some (CodeO c' (X.env.qual ++ "<lambda>")) ∧ TT (fun E H'' Q'' => t E σ H'' Q'') H' Q) := by
  intro s3 H3 C cl fp I3 f3
  refine ⟨fun pins' s' σ' H' Q J h => ?_⟩
  obtain ⟨f, c', t, K0, hσ, hco, h⟩ := h
  obtain ⟨body, sc, pm', ctv, hpin, L, hbody⟩ := K0.ex
  have hgY : Gl (X.blk s3 H3 scope (compEnvC scope cl C X.env) fp) x := hg
  have hvY : Vis (X.blk s3 H3 scope (compEnvC scope cl C X.env) fp).env.scope act := hv
  refine wpAny_Call_Name_kw (ld_glob J hgY hm ?_ hdb)
  refine PySem.W.callWith_K (h₀ := X.base) J.ok.mod.kin hk ?_ (by rfl) (by rfl)
  show wpAny _ _ (spliced ((false, eval (.Name act pa) (compEnvC scope cl C X.env)) :: backTo pos (starEach [] (compEnvC scope cl C X.env)))) _ _ s'
  refine Calls.spliced_cons (thn ((pe_var (X := X.blk s3 H3 scope (compEnvC scope cl C X.env) fp) (pos := pa) (i := ia) hN hvY hd2 hcd2).run pins' s' σ' H' (fun v H1 => v = .ref f ∧ H1 = H') J ⟨.ref f, hσ, rfl, rfl⟩) fun u1 s1 ⟨v, H1, J1, r1, ev, eH⟩ => ?_)
  subst ev
  rw [eH] at J1
  cases r1
  refine Calls.spliced_nil ⟨J1.kIn, ?_⟩
  have IX := lc_frame I3 f3 J1
  obtain ⟨hf, hfn, hne, hfs, _⟩ := IX.pin _ (List.mem_append_left _ hpin)
  have hnf : f ∉ frs X.stack := fun z => by
    rw [hst] at z
    unfold frs at z
    rw [List.filterMap_cons, hfr] at z
    rcases List.mem_cons.mp z with e | e
    · exact hne e
    · exact hfs e
  have rc : codeAny (model X.prog X.w) X.A (.call (.ref g) ⟨[.ref f], []⟩) (CR C8.CX0 X.stack X.prog X.w H' s1 Q C8.E0) s1 := by
    refine run_ofS (N := Ng) (ps := [a]) (us := [.ref f]) (vs := [.ref f]) lk hcg Sg hr J1.env0 (hb s1 [.ref f] J1.kIn rfl) (.cons rfl .nil) rfl fun hr' => ?_
    obtain ⟨t', ht', hq'⟩ := hG f c' s1 H' Q (fun E H'' Q'' => t E σ H'' Q'') (fun W pn xe E p1 p2 tk hW => pe_act (i := 0) IX L hf hfn hnf rfl tk hW hr' (fun A outer s H hr2 => hbody A outer s H E hr2) hNg hva hd hcd) hco h
    exact ⟨t', ht'.nox, hq'⟩
  refine wpAny_call (codeAny_mono rc fun r s2 hq => ?_)
  cases r with
  | error e => exact (show False from hq).elim
  | ok fl =>
    cases fl with
    | ret u => exact J1.after hq
    | next => exact False.elim hq
    | brk => exact False.elim hq
    | cont => exact False.elim hq
end
end L2
-- EvX7
set_option Elab.async false
set_option linter.all false
set_option maxRecDepth 100000
set_option maxHeartbeats 4000000
/-! EvX7: lambdas in a list: they are made, and pinned. -/
namespace L2
open PySem PySem.Spec PyProof.Rows LamX
section
variable {X : Cx} {pins : List (Addr × Obj)} {σ : St} {H : Hp} {s : Shared}
abbrev Cx.pin (X : Cx) (p : Addr × Obj) : Cx := X.tr (p :: X.pn) X.xe
theorem Inv.pinIn {f : Addr} {o : Obj} (I : Inv X pins σ H s) (h1 : s.heap.get? f = some o) (h2 : H f = none) (h3 : f ≠ X.env.locals) (h4 : f ∉ X.fs) (h5 : ∀ v, o.data ≠ .cell v) : Inv (X.pin (f, o)) pins σ H s :=
  ⟨I.ok.toTry _ _, I.os, I.bare, I.base, I.loc, I.cell, I.free, I.freeC, fun p hp => by
    rcases List.mem_append.mp hp with z | z
    · rcases List.mem_cons.mp z with e | z
      · rw [e]
        exact ⟨h1, h2, h3, h4, h5⟩
      · exact I.pin p (List.mem_append_left _ z)
    · exact I.pin p (List.mem_append_right _ z), I.hok, I.len⟩
theorem Inv.pinOut {q : Addr × Obj} (I : Inv (X.pin q) pins σ H s) : Inv X pins σ H s :=
  ⟨I.ok.ofTry, I.os, I.bare, I.base, I.loc, I.cell, I.free, I.freeC, fun p hp => I.pin p (by
    rcases List.mem_append.mp hp with z | z
    · exact List.mem_append_left _ (List.mem_cons_of_mem _ z)
    · exact List.mem_append_right _ z), I.hok, I.len⟩
theorem SP.pinOut {q : Addr × Obj} {D : Ends} {f : Flow} (h : SP (X.pin q) pins D f s) : SP X pins D f s := by
  cases f with
  | next => obtain ⟨a, b, c, d⟩ := h; exact ⟨a, b, c.pinOut, d⟩
  | brk => obtain ⟨a, b, c, d⟩ := h; exact ⟨a, b, c.pinOut, d⟩
  | cont => obtain ⟨a, b, c, d⟩ := h; exact ⟨a, b, c.pinOut, d⟩
  | ret u => obtain ⟨v, a, b, c, r, d⟩ := h; exact ⟨v, a, b, c.pinOut, r, d⟩
theorem kla_nocell {body : Expr} {sc : Scope} {pm ctv : Value} {c' : Addr} (v : Option Value) : (lamO X body sc pm c' ctv).data ≠ .cell v := fun z => by cases z
theorem fs_of (hst : X.stack = X.env :: X.outer) (hfr : X.env.frame = some X.env.locals) {f : Addr} (h : f ∉ frs X.stack) : f ≠ X.env.locals ∧ f ∉ X.fs := by
  rw [hst] at h
  unfold frs at h
  rw [List.filterMap_cons, hfr] at h
  exact ⟨fun e => h (by rw [e]; exact List.mem_cons_self), fun e => h (List.mem_cons_of_mem _ e)⟩
variable {T : List (Addr × Str)} {c P : Addr} {body : Expr} {sc : Scope} {lpos lp pos pa apos cpos : Pos} {acts : Str} {i : Nat} {sts : List Stmt}
/-- what is wanted behind the making of a lambda -/
def tMk (X : Cx) (T : List (Addr × Str)) (body : Expr) (sc : Scope) (K : Addr → Addr → Obj → Hp → Prop) (H : Hp) : Prop :=
  Tabs T H ∧ ∀ (f c' : Addr) (pm ctv : Value) (H1 : Hp), ExtN H H1 → Tabs T H1 → H1 c' = some (CodeO c' (X.env.qual ++ "<lambda>")) → K f c' (lamO X body sc pm c' ctv) H1
/-- acts = [lambda: body] -/
theorem pss_mk (TB : TabB X.base X.mg c P) (hcode : X.env.code = .ref c) (hm : (P, X.env.qual ++ "<lambda>") ∈ T) (hu : ∀ p ∈ T, p.1 = P → p.2 = X.env.qual ++ "<lambda>") (L : LamS X.env.scope sc) (hst : X.stack = X.env :: X.outer) (hfr : X.env.frame = some X.env.locals)
    (hN : X.N.Nodup) (hi : X.N[i]? = some acts) (hx : Loc X.env.scope acts) (hf : X.fn acts = true ∨ X.env.scope.names.lookup acts = some .local) {tr : Addr → Obj → TS} (hr : ∀ f o, PSs (X.pin (f, o)) sts (tr f o)) :
    PSs X (.Assign [.Name acts pa] (.List [.Lambda params0 body sc lpos] lp) pos :: sts) (fun D σ H => tMk X T body sc (fun f c' o H1 => ∀ l, H1 l = none → tr f o D (σ.set i (some (.ref l))) (upd H1 l (.lst [.ref f]))) H) := by
  refine ⟨fun pins s σ H D I h => ?_⟩
  obtain ⟨hT, h⟩ := h
  refine wpAny_execs_cons (wpAny_Assign_Name (wpAny_List_spliced ?_))
  show wpAny _ _ (spliced ((false, eval (.Lambda params0 body sc lpos) X.env) :: backTo lp (starEach [] X.env))) _ _ s
  refine Calls.spliced_cons (lam_make2 (params := params0) I TB hcode hm hu hT rfl (L.has I.ok) fun f c' pm ctv H1 s1 I1 eN T1 ho hn hfs hco => ?_)
  obtain ⟨g1, g2⟩ := fs_of hst hfr hfs
  have J1 := I1.pinIn ho hn g1 g2 kla_nocell
  refine Calls.spliced_nil ⟨by show 1 ≤ sizeLine; decide, ?_⟩
  have J2 := J1.laid (a := s1.heap.objs.size) (o := .lst [.ref f]) (h' := s1.heap.push { cls := .type "list", data := .seq [Value.ref f].toArray }) (t' := s1.toks) (fun b u e => Heap.get?_push_of_some _ e) (Nat.le_refl _) ⟨by show 1 ≤ sizeLine; decide, [.ref f], 0, .cons rfl .nil, Heap.get?_push_size _ rfl⟩
  have hl : H1 s1.heap.objs.size = none := I1.hok.fresh (Nat.le_refl _)
  show wpAny _ _ _ (fun _ s' => wpAny (model X.prog X.w) X.A (execs sts X.env) (SP X pins D) X.xe s') _ _
  refine store_ok (X := X.pin (f, lamO X body sc pm c' ctv)) J2 hN hi hx (v := .ref s1.heap.objs.size) rfl (fun s3 J3 => ?_) hf
  exact wpAny_mono ((hr f _).run pins s3 _ _ D J3 (h f c' pm ctv H1 eN T1 hco _ hl)) (fun fl s' q => SP.pinOut q) fun _ _ e => e
/-- acts.append(lambda: body) -/
theorem pss_ap (TB : TabB X.base X.mg c P) (hcode : X.env.code = .ref c) (hm : (P, X.env.qual ++ "<lambda>") ∈ T) (hu : ∀ p ∈ T, p.1 = P → p.2 = X.env.qual ++ "<lambda>") (L : LamS X.env.scope sc) (hst : X.stack = X.env :: X.outer) (hfr : X.env.frame = some X.env.locals)
    (hi : X.N[i]? = some acts) (hv : Vis X.env.scope acts) (hd : (acts == ("__debug__" : Str)) = false) (hcd : (acts == ("__classdict__" : Str)) = false) (hline : (apos.endLine == cpos.line) = true) {tr : Addr → Obj → TS} (hr : ∀ f o, PSs (X.pin (f, o)) sts (tr f o)) :
    PSs X (.Expr (.Call (.Attribute (.Name acts pa) "append" apos) [.Lambda params0 body sc lpos] [] cpos) pos :: sts)
      (fun D σ H => ∃ l, σ[i]? = some (some (.ref l)) ∧ tMk X T body sc (fun f c' o H1 => ∃ xs, H1 l = some (.lst xs) ∧ xs.length < sizeLine ∧ tr f o D σ (upd H1 l (.lst (xs ++ [.ref f])))) H ∧ ∃ xs, H l = some (.lst xs)) := by
  refine ⟨fun pins s σ H D I h => ?_⟩
  obtain ⟨l, hl, ⟨hT, h⟩, xs0, hxs0⟩ := h
  refine wpAny_execs_cons (wpAny_Expr_any ?_ I.quiet rfl)
  refine wpAny_Call_method_late (by rfl) (by rfl) hline rfl (thn ((pe_var (pos := pa) (i := i) hi hv hd hcd).run pins s σ H (fun v H1 => v = .ref l ∧ H1 = H) I ⟨.ref l, hl, rfl, rfl⟩) fun u1 s1 ⟨v, H1, I1, r1, ev, eH⟩ => ?_)
  subst ev
  rw [eH] at I1
  cases r1
  obtain ⟨z, its, n, rv, hz, e⟩ := I1.lstM hxs0
  refine ⟨"list", _, F.plainAttrs_list, F.slot_list_append, F.type_list_append, ⟨_, e, rfl⟩, fun a ea => by cases ea; exact ⟨_, e, rfl⟩, ?_⟩
  refine Calls.callWith_builtin (by rfl) (Calls.evalArgs_plain ?_)
  show wpAny _ _ (spliced ((false, eval (.Lambda params0 body sc lpos) X.env) :: backTo cpos (starEach [] X.env))) _ _ s1
  refine Calls.spliced_cons (lam_make2 (params := params0) I1 TB hcode hm hu hT rfl (L.has I1.ok) fun f c' pm ctv H2 s2 I2 eN T1 ho hn hfs hco => ?_)
  obtain ⟨g1, g2⟩ := fs_of hst hfr hfs
  have J2 := I2.pinIn ho hn g1 g2 kla_nocell
  obtain ⟨xs, hx1, hx2, q⟩ := h f c' pm ctv H2 eN T1 hco
  refine Calls.spliced_nil ?_
  refine wpAny_mono (mt_append (X := X.pin (f, lamO X body sc pm c' ctv)) pins s2 σ H2 (.ref l) [.ref f] (.ref l) [.ref f] (fun _ H3 => tr f (lamO X body sc pm c' ctv) D σ H3) J2 rfl (.cons rfl .nil) ⟨l, xs, .ref f, rfl, rfl, hx1, hx2, q⟩) (fun v3 s3 ⟨x3, H3, J3, r3, q3⟩ => ?_) fun _ _ e => e
  exact wpAny_mono ((hr f _).run pins s3 σ H3 D J3 q3) (fun fl s' q => SP.pinOut q) fun _ _ e => e
end
end L2
-- EvY2
set_option Elab.async false
set_option linter.all false
set_option maxRecDepth 100000
set_option maxHeartbeats 4000000
/-! EvY2: the lambdas of a list, all of which raise what is named. -/
namespace Ev
open PySem PySem.Spec PyProof.Rows L2 LamX
section
variable {g : Gx} {S S' : Store} {m m' : Nat → Addr} {H H' H0 : Hp}
/-- no place of the store -/
def Apart (S : Store) (m : Nat → Addr) (p : Addr) : Prop := ∀ k, 0 < k → k < S.length → m k ≠ p
theorem Apart.next {p : Addr} {o : HO} (h : Apart S m p) (x : Ext g S m H S' m' H') (e : H p = some o) (nt : ∀ ps, o ≠ .tbl ps) : Apart S' m' p := fun k h0 hk z => by
  by_cases hs : k < S.length
  · exact h k h0 hs ((x.ag k hs).symm.trans z)
  · have q := x.new k (Nat.le_of_not_lt hs) hk
    rw [z] at q
    exact (q.no e nt).elim
theorem code_apart {X : Cx} {pins : List (Addr × Obj)} {σ : L2.St} {s : Shared} (I : L2.Inv X pins σ H s) (st : StRel g S m H) {c' : Addr} {q : Str} (e : H c' = some (CodeO c' q)) : Apart S m c' := fun k h0 hk z => by
  have e1 := List.getElem?_eq_getElem hk
  have cr := st.cell k _ e1
  have nr := st.notRo h0 e1
  obtain ⟨⟨oc, vs, t, a1, a2, a3⟩, _⟩ := I.hok c' _ e
  cases hc : S[k] with
  | ro xs =>
    rw [hc] at nr
    cases nr
  | lst b xs =>
    rw [hc] at cr
    obtain ⟨us, h1, _⟩ := cr
    rw [z, e] at h1
    cases h1
  | dT b kvs =>
    rw [hc] at cr
    obtain ⟨o, es, ep, h1, h2, h3, _⟩ := cr
    rw [z] at h1
    have h4 : s.heap.get? c' = some o := (I.hok c' _ h1).1
    rw [a1] at h4
    cases h4
    rw [a2] at h3
    cases h3
/-- a list of one's own that stands in no place is put anew -/
theorem own_upd {l : Addr} {vs ys : List V} (st : StRel g S m H) (x : Ext g S m H0 S m H) (h0 : H0 l = none) (hl : H l = some (.lst vs)) (ap : Apart S m l) : Ext g S m H0 S m (upd H l (.lst ys)) ∧ StRel g S m (upd H l (.lst ys)) := by
  have kp : ∀ b o, H b = some o → o ≠ .lst vs → upd H l (.lst ys) b = some o := fun b o e ne => by
    have : b ≠ l := fun z => by
      rw [z, hl] at e
      cases e
      exact ne rfl
    rw [upd_ne this]
    exact e
  have k0 : ∀ b o, H0 b = some o → H b = some o → upd H l (.lst ys) b = some o := fun b o e e2 => by
    have : b ≠ l := fun z => by
      rw [z, h0] at e
      cases e
    rw [upd_ne this]
    exact e2
  refine ⟨⟨Nat.le_refl _, fun _ _ => rfl, fun _ _ => rfl, fun b o e nt hk => k0 b o e (x.keep b o e nt hk), fun b xs e => k0 b _ e (x.tup b xs e), fun b o u e => k0 b _ e (x.frz b o u e), fun b hb => ?_, fun j h1 h2 => absurd (Nat.lt_of_le_of_lt h1 h2) (Nat.lt_irrefl _)⟩, ⟨st.inj, st.zero, st.own, fun k c e => ?_, fun p hp => ?_⟩⟩
  · by_cases z : b = l
    · rw [z]
      exact Fr.of h0
    · refine x.dom b fun o e => hb o ?_
      rw [upd_ne z]
      exact e
  · have cr := st.cell k c e
    have tk : TK g H (upd H l (.lst ys)) := fun a us h => by
      rcases h with ⟨o, h, d⟩ | h
      · exact .inl ⟨o, kp a _ h (fun z => by cases z), d⟩
      · exact .inr h
    have apk : c.isRo = false → m k ≠ l := fun hr z => by
      rcases Nat.eq_zero_or_pos k with z0 | z0
      · obtain ⟨zs, hz⟩ := st.zero
        rw [z0, hz] at e
        cases e
        cases hr
      · exact ap k z0 (List.getElem?_eq_some_iff.mp e).1 z
    cases c with
    | ro xs =>
      obtain ⟨us, h1, h2⟩ := cr
      refine ⟨us, ?_, EncAll.mono tk (Nat.le_refl _) (fun _ _ => rfl) _ _ h2⟩
      rcases h1 with ⟨o, h⟩ | h
      · exact .inl ⟨o, kp _ _ h (fun z => by cases z)⟩
      · exact .inr h
    | lst b xs =>
      refine CellRel.mono tk (Nat.le_refl _) (fun _ _ => rfl) (fun o e2 nt => ?_) cr
      rw [upd_ne (apk rfl)]
      exact e2
    | dT b kvs =>
      refine CellRel.mono tk (Nat.le_refl _) (fun _ _ => rfl) (fun o e2 nt => ?_) cr
      rw [upd_ne (apk rfl)]
      exact e2
  · obtain ⟨ps, h1, h2, h3⟩ := st.tabs p hp
    refine ⟨ps, kp _ _ h1 (fun z => by cases z), h2, fun pos cv e => ?_⟩
    obtain ⟨c, e1, e2⟩ := h3 pos cv e
    exact ⟨c, e1, kp _ _ e2 (fun z => by unfold CodeO at z; cases z)⟩
/-- what a lambda may be called for -/
abbrev tSm (g : Gx) (sm : Sm) : XK → TE := fun E => RdE g (fun c d _ H' => E c d H') sm.E
/-- the lambdas that were made -/
structure Mk (g : Gx) (X : Cx) (k ia : Nat) (sms : List Sm) (S : Store) (m : Nat → Addr) (ρ : Env) (H0 : Hp) (σ : L2.St) (H : Hp) : Prop where
  st : StRel g S m H
  en : EnvRel g H0 m S.length ρ σ
  x : Ext g S m H0 S m H
  ls : ∃ l fs, σ[ia]? = some (some (.ref l)) ∧ H l = some (.lst (fs.map V.ref)) ∧ H0 l = none ∧ Apart S m l ∧ Paired (fun sm f => ∃ c', Clo X k f c' (tSm g sm) ∧ H c' = some (CodeO c' (X.env.qual ++ "<lambda>"))) sms fs
theorem Paired.len {α β : Type} {F : α → β → Prop} : ∀ {l₁ : List α} {l₂ : List β}, Paired F l₁ l₂ → l₁.length = l₂.length
  | _, _, .nil => rfl
  | _, _, .cons _ t => by rw [List.length_cons, List.length_cons, Paired.len t]
theorem Paired.snoc {α β : Type} {F : α → β → Prop} {a : α} {b : β} (h : F a b) : ∀ {l₁ : List α} {l₂ : List β}, Paired F l₁ l₂ → Paired F (l₁ ++ [a]) (l₂ ++ [b])
  | _, _, .nil => .cons h .nil
  | _, _, .cons r t => .cons r (Paired.snoc h t)
theorem Paired.at_ {α β : Type} {F : α → β → Prop} : ∀ {l₁ : List α} {l₂ : List β} {i : Nat} {a : α}, Paired F l₁ l₂ → l₁[i]? = some a → ∃ b, l₂[i]? = some b ∧ F a b
  | _, _, i, a, .nil, e => by simp at e
  | _, _, 0, a, .cons r t, e => by
    cases e
    exact ⟨_, rfl, r⟩
  | _, _, i + 1, a, .cons r t, e => Paired.at_ (i := i) t (by simpa using e)
theorem Clo.pin {X : Cx} {k : Nat} {f c' : Addr} {t : XK → TE} {q : Addr × Obj} (h : Clo X k f c' t) : Clo (X.pin q) k f c' t := by
  obtain ⟨body, sc, pm, ctv, h1, h2, h3⟩ := h.ex
  exact ⟨body, sc, pm, ctv, List.mem_cons_of_mem _ h1, h2, h3⟩
end
end Ev
-- EvY3
set_option Elab.async false
set_option linter.all false
set_option maxRecDepth 100000
set_option maxHeartbeats 4000000
/-! EvY3: if [act for act in acts if not x(act)] != []: .. -/
namespace Ev
open PySem PySem.Spec PyProof.Rows L2 LamX
section
variable {X : Cx} {u : Tb} {W : WX} {n : Nat}
/-- x(act) -/
def ttActs (X : Cx) (k ia : Nat) (CS : Addr) (σ : L2.St) : TE := fun σ' H' Q => ∃ (f c' : Addr) (t : XK → TE), Clo X k f c' t ∧ σ'[ia]? = some (some (.ref f)) ∧ H' c' = some (CodeO c' (X.env.qual ++ "<lambda>")) ∧ TTno X.K CS (fun E H'' Q'' => t E σ H'' Q'') H' Q
theorem acts_sem {k il ia : Nat} {CS : Addr} {e0 : Str} {sms : List Sm} {S : Store} {m : Nat → Addr} {ρ : Env} {H : Hp} {σ : L2.St} {D : Ends} {Q : VK} {l : Addr} {fs : List Addr} (fx : Fax u n (gof u X)) (he : e0 ∈ u.exc) (hCS : X.mg e0 = some (.ref CS))
    (st : StRel (gof u X) S m H) (en : EnvRel (gof u X) H m S.length ρ σ) (hl : σ[il]? = some (some (.ref l))) (hH : H l = some (.lst (fs.map V.ref))) (ap : Apart S m l)
    (hp : Paired (fun sm f => ∃ c', Clo X k f c' (tSm (gof u X) sm) ∧ H c' = some (CodeO c' (X.env.qual ++ "<lambda>")) ∧ Apart S m c') sms fs) (hia : ia < σ.length)
    (p : PostS (gof u X) W S m H D (notsS e0 sms ρ S))
    (hQ : ∀ S' m' Dl H', Ext (gof u X) S m H S' m' H' → StRel (gof u X) S' m' H' → PostS (gof u X) W S' m' H' D (.ok .nx ρ S') → H' Dl = some (.lst []) → Apart S' m' Dl → Q (.ref Dl) H') :
    tLc0 (iList X.K (tVar il)) (gName ia) (tNot (tB (ttActs X k ia CS σ))) [ia] σ H Q := by
  refine ⟨.ref l, hl, l, rfl, ⟨fs.map V.ref, SqL.of hH⟩, fun Dl hD => ?_⟩
  obtain ⟨x0, st0⟩ := alloc_ok (o := .lst []) st hD
  have apD : Apart S m Dl := st.apart hD
  have hlen := Paired.len hp
  refine ⟨fun i meas H' => ∃ S' m', meas = fs.length - i ∧ i ≤ fs.length ∧ Ext (gof u X) S m H S' m' H' ∧ StRel (gof u X) S' m' H' ∧ PostS (gof u X) W S' m' H' D (notsS e0 (sms.drop i) ρ S') ∧ H' Dl = some (.lst []) ∧ Apart S' m' Dl, ⟨fs.length, S, m, rfl, Nat.zero_le _, x0, st0, PostS.rebase x0 p, upd_same, apD⟩, fun i meas H' hV => ?_⟩
  obtain ⟨S', m', rfl, hi, x1, st1, p1, hD1, ap1⟩ := hV
  have hl1 : H' l = some (.lst (fs.map V.ref)) := keep_free x1 st hH (fun ps z => by cases z) ap
  by_cases hlt : i < fs.length
  · refine .inr ⟨⟨fs.map V.ref, .ref fs[i], SqL.of hl1, by rw [List.getElem?_map, List.getElem?_eq_getElem hlt]; rfl⟩, fun H'' => ∃ m0, m0 < fs.length - i ∧ ∃ S' m', m0 = fs.length - (i + 1) ∧ i + 1 ≤ fs.length ∧ Ext (gof u X) S m H S' m' H'' ∧ StRel (gof u X) S' m' H'' ∧ PostS (gof u X) W S' m' H'' D (notsS e0 (sms.drop (i + 1)) ρ S') ∧ H'' Dl = some (.lst []) ∧ Apart S' m' Dl, fun _ h => h, fun x H2 hy => ?_⟩
    obtain ⟨e2, hx⟩ := hy
    subst e2
    have hx2 := hx _ (SqL.of hl1)
    rw [List.getElem?_map, List.getElem?_eq_getElem hlt] at hx2
    have hx3 : V.ref fs[i] = x := by simpa using hx2
    subst hx3
    have hls : i < sms.length := by rw [hlen]; exact hlt
    obtain ⟨f, ef, c', hclo, hco, apc⟩ := Paired.at_ hp (List.getElem?_eq_getElem hls)
    rw [List.getElem?_eq_getElem hlt] at ef
    cases ef
    refine ⟨?_, fs[i], c', _, hclo, ?_, keep_free x1 st hco (fun ps z => by unfold CodeO at z; cases z) apc, ?_⟩
    · show ((σ.set ia none).set ia (some (V.ref fs[i]))).set ia none = σ.set ia none
      rw [List.set_set, List.set_set]
    · show ((σ.set ia none).set ia (some (V.ref fs[i])))[ia]? = _
      rw [List.getElem?_set_self (by rw [List.length_set]; exact hia)]
    · refine ⟨S', m', ρ, st1, x1.env en, ?_⟩
      rw [List.drop_eq_getElem_cons hls] at p1
      have p3 : PostS (gof u X) W S' m' H2 D (match fin S'.length ((sms[i]).E ρ S') with
        | .exc x S1 => if x.cls = e0 then notsS e0 (sms.drop (i + 1)) ρ S1 else .bad
        | _ => .bad) := p1
      revert p3
      generalize (sms[i]).E ρ S' = r
      intro p3
      cases r with
      | bad => exact p3
      | ok t S1 =>
        exfalso
        have p4 : PostS (gof u X) W S' m' H2 D (match finish S'.length t S1 with
          | .exc x S1 => if x.cls = e0 then notsS e0 (sms.drop (i + 1)) ρ S1 else .bad
          | _ => .bad) := p3
        unfold finish at p4
        split at p4
        · rename_i heq
          split at heq <;> cases heq
        · exact p4
      | exc ee S1 =>
        intro m1 H3 cls x2 st2 q4 q5
        have p4 : PostS (gof u X) W S' m' H2 D (match finishX S'.length ee S1 with
          | .exc x S1 => if x.cls = e0 then notsS e0 (sms.drop (i + 1)) ρ S1 else .bad
          | _ => .bad) := p3
        have key : ∃ S3, Ext (gof u X) S' m' H2 S3 m1 H3 ∧ StRel (gof u X) S3 m1 H3 ∧ PostS (gof u X) W S' m' H2 D (if ee.cls = e0 then notsS e0 (sms.drop (i + 1)) ρ S3 else .bad) := by
          by_cases hk : (Ev.D.bnds S'.length ee.args && oldOk S'.length S1) = true
          · have e1 : finishX S'.length ee S1 = .exc ee (S1.take S'.length) := if_pos hk
            rw [e1] at p4
            rw [Bool.and_eq_true] at hk
            obtain ⟨y1, st3, _⟩ := take_ok st1.pos x2 st2 hk.2
            exact ⟨_, y1, st3, p4⟩
          · have e1 : finishX S'.length ee S1 = .exc ee S1 := if_neg hk
            rw [e1] at p4
            exact ⟨_, x2, st2, p4⟩
        obtain ⟨S3, y1, st3, p5⟩ := key
        refine ⟨decide (ee.cls = e0), fx.exm _ q4 _ he _ _ q5 hCS, fun hb => ?_, fun hb => ?_⟩
        · rw [if_pos (of_decide_eq_true hb)] at p5
          exact ⟨true, rfl, rfl, fs.length - (i + 1), by omega, S3, m1, rfl, hlt, x1.trans y1, st3, PostS.rebase y1 p5, keep_free y1 st1 hD1 (fun ps z => by cases z) ap1, ap1.next y1 hD1 (fun ps z => by cases z)⟩
        · rw [if_neg (of_decide_eq_false hb)] at p5
          exact p5
  · have hie : i = fs.length := by omega
    refine .inl ⟨⟨fs.map V.ref, SqL.of hl1, by rw [List.length_map]; omega⟩, hQ S' m' Dl H' x1 st1 ?_ hD1 ap1⟩
    have e1 : sms.drop i = [] := List.drop_eq_nil_of_le (by omega)
    rw [e1] at p1
    exact p1
end
end Ev
-- EvY4
set_option Elab.async false
set_option linter.all false
set_option maxRecDepth 100000
set_option maxHeartbeats 4000000
/-! EvY4: acts = [lambda: ..]; acts.append(lambda: ..) ..; if [act for act in acts if not x(act)] != []: return .. -/
namespace Ev
open PySem PySem.Spec PyProof.Rows L2 LamX
/-- a constant that a suite returns -/
def cK : Expr → Option D
  | .Constant (.int i) _ _ => some (.int i)
  | .Constant (.bool b) _ _ => some (.bl b)
  | .Constant .none _ _ => some .non
  | .Constant (.str s) _ _ => some (.str s)
  | _ => none
theorem cK_ok {e : Expr} {d : D} (h : cK e = some d) : ∃ v, cV d = some v ∧ ∀ X : Cx, PE X e (tC v) := by
  unfold cK at h
  split at h
  · cases h
    exact ⟨_, rfl, fun X => pe_int⟩
  · cases h
    exact ⟨_, rfl, fun X => pe_bl⟩
  · cases h
    exact ⟨_, rfl, fun X => pe_non⟩
  · cases h
    exact ⟨_, rfl, fun X => pe_str⟩
  · cases h
def isLoc (sc : Scope) (x : Str) : Bool := decide (sc.names.lookup x = some .local)
/-- a context of a def's statements -/
structure Cs (u : Tb) (n : Nat) (z : Sc) (X : Cx) (W : WX) : Prop where
  cz : Cz u n z X W
  hs : X.stack = X.env :: X.outer
  hf : X.env.frame = some X.env.locals
section
variable {u : Tb} {n : Nat} {z : Sc}
theorem cs_tr {X : Cx} {W : WX} (c : Cs u n z X W) {W' : WX} {pn : List (Addr × Obj)} {xe : Value → Shared → Prop} (tk : Takes (X.tr pn xe) W') (po : PassesOwn (model X.prog X.w) X.A X.env xe) : Cs u n z (X.tr pn xe) W' where
  cz := ⟨⟨c.cz.c.nd, c.cz.c.fn, c.cz.c.calm, tk, po, c.cz.c.un⟩, c.cz.eN, c.cz.esc, c.cz.rm, c.cz.fx, c.cz.lm⟩
  hs := c.hs
  hf := c.hf
theorem cs_pin {X : Cx} {W : WX} (c : Cs u n z X W) {q : Addr × Obj} : Cs u n z (X.pin q) W where
  cz := ⟨⟨c.cz.c.nd, c.cz.c.fn, c.cz.c.calm, fun v s' ⟨a, B, sI, pins, σ, H, cls, d, e, I, nb, up, sky, na, os, ag, w⟩ => c.cz.c.tk v s' ⟨a, B, sI, pins, σ, H, cls, d, e, I.pinOut, nb, up, sky, na, os, ag, w⟩, c.cz.c.po, c.cz.c.un⟩, c.cz.eN, c.cz.esc, c.cz.rm, c.cz.fx, c.cz.lm⟩
  hs := c.hs
  hf := c.hf
theorem pe_acts {X : Cx} {W : WX} (c : Cs u n z X W) {x0 e0 act acts : Str} {ia il : Nat} {scope : Scope} {elt : Expr} {pt pi p1 p2 p3 p4 lpos : Pos} (hno : u.no = some (x0, e0)) (lm : z.lam = true) (hg : (relS scope X.env.scope).names.lookup x0 = some .globalImplicit)
    (hbk : blkC X.N X.env.scope scope [(act, ia)] = true) (hst : blkSt scope X.env.scope act = true) (hva : Vis (relS scope X.env.scope) act) (hia : X.N[ia]? = some act) (hil : X.N[il]? = some acts) (hvl : Vis X.env.scope acts)
    (d1 : (act == ("__debug__" : Str)) = false) (d2 : (act == ("__classdict__" : Str)) = false) (d3 : (acts == ("__debug__" : Str)) = false) (d4 : (acts == ("__classdict__" : Str)) = false) :
    ∃ CS, X.mg e0 = some (.ref CS) ∧ e0 ∈ u.exc ∧ PE X (.ListComp elt [⟨.Name act pt, .Name acts pi, [.UnaryOp .Not (.Call (.Name x0 p1) [.Name act p2] [] p3) p4], 0⟩] scope lpos) (fun σ H Q => tLc0 (iList X.K (tVar il)) (gName ia) (tNot (tB (ttActs X (3 * n) ia CS σ))) [ia] σ H Q) := by
  obtain ⟨n1, n2, n3, g0, pg, sg, dV, kV, doc, pm, cdv, ct, oc, an, od, osl, a, Ng, bg, m1, m2, m3, m4, m5, m6, m7, m8, m9, m12, m10, m11⟩ := c.cz.fx.no _ _ hno
  obtain ⟨CS, hCS⟩ := c.cz.fx.exc _ n1
  obtain ⟨r2, _⟩ := c.cz.lm lm
  refine ⟨CS, hCS, n1, ⟨fun pins s σ H Q I h => ?_⟩⟩
  have hNe : Ng = a :: Ng.drop 1 := by
    cases Ng with
    | nil => cases m5
    | cons b r =>
      have : b = a := by simpa using m5
      rw [this]
      rfl
  have hG : LamX.GivesTo X Ng x0 sg g0 cdv _ a (X.env.qual ++ "<lambda>") (TTno X.K CS) := no_gv m12 m9 hCS n3 (fun f => by rw [hNe]; rfl)
  refine pe_lc0 (own := [(act, ia)]) c.cz.c.calm c.cz.c.nd I (pi_list (pe_var hil hvl d3 d4)) (blkOk_by hbk) (fun s3 H3 C cl fp I3 f3 => ?_) (fun s3 H3 C cl fp I3 f3 => pts_one (pt_not (pt_val ?_))) (fun _ => rfl) h
  · have cb := blk_ctx c.cz.c s3 H3 scope C cl fp
    exact pg_name (X := X.blk s3 H3 scope (compEnvC scope cl C X.env) fp) c.cz.c.nd hia (cb.fn _ hst).1 (cb.fn _ hst).2
  · exact clo_call (k := 3 * n) (TT := TTno X.K CS) c.hs c.hf hg m1 m2 m10 m3 m11 m4 m5 m6 hG r2 hia hva n2 m7 m8 d1 d2 s3 H3 C cl fp I3 f3
end
end Ev
-- EvY5
set_option Elab.async false
set_option linter.all false
set_option maxRecDepth 100000
set_option maxHeartbeats 4000000
/-! EvY5: the statements that make a list of lambdas, and look whether all raise. -/
namespace Ev
open PySem PySem.Spec PyProof.Rows L2 LamX
section
variable {u : Tb} {n : Nat} {z : Sc}
/-- the if behind the lambdas -/
theorem ps_actsIf {X : Cx} {W : WX} (c : Cs u n z X W) {x0 e0 act acts : Str} {ia il : Nat} {scope : Scope} {elt ce : Expr} {dk : D} {pt pi p1 p2 p3 p4 lpos lp2 cpos rp ipos : Pos} (hno : u.no = some (x0, e0)) (lm : z.lam = true) (hg : (relS scope X.env.scope).names.lookup x0 = some .globalImplicit)
    (hbk : blkC X.N X.env.scope scope [(act, ia)] = true) (hst : blkSt scope X.env.scope act = true) (hva : Vis (relS scope X.env.scope) act) (hia : X.N[ia]? = some act) (hil : X.N[il]? = some acts) (hvl : Vis X.env.scope acts)
    (d1 : (act == ("__debug__" : Str)) = false) (d2 : (act == ("__classdict__" : Str)) = false) (d3 : (acts == ("__debug__" : Str)) = false) (d4 : (acts == ("__classdict__" : Str)) = false) (hk : cK ce = some dk) {sms : List Sm} :
    PS X (.If (.Compare (.ListComp elt [⟨.Name act pt, .Name acts pi, [.UnaryOp .Not (.Call (.Name x0 p1) [.Name act p2] [] p3) p4], 0⟩] scope lpos) [.NotEq] [.List [] lp2] cpos) [.Return (some ce) rp] [] ipos)
      (fun D σ H => ∃ S m ρ H0, Mk (gof u X) X (3 * n) il sms S m ρ H0 σ H ∧ PostS (gof u X) W S m H0 D (notsS e0 sms ρ S)) := by
  obtain ⟨CS, hCS, he, pe⟩ := pe_acts (pt := pt) (pi := pi) (p1 := p1) (p2 := p2) (p3 := p3) (p4 := p4) (lpos := lpos) (elt := elt) c hno lm hg hbk hst hva hia hil hvl d1 d2 d3 d4
  obtain ⟨v, v1, v2⟩ := cK_ok hk
  refine ⟨fun pins s σ H D I h => ?_⟩
  obtain ⟨S, m, ρ, H0, M, p⟩ := h
  obtain ⟨l, fs, h1, h2, h3, h4, h5⟩ := M.ls
  have hp := Paired.imp (fun sm f (q : ∃ c', Clo X (3 * n) f c' (tSm (gof u X) sm) ∧ H c' = some (CodeO c' (X.env.qual ++ "<lambda>"))) => (show ∃ c', Clo X (3 * n) f c' (tSm (gof u X) sm) ∧ H c' = some (CodeO c' (X.env.qual ++ "<lambda>")) ∧ Apart S m c' from let ⟨c', q1, q2⟩ := q; ⟨c', q1, q2, code_apart I M.st q2⟩)) h5
  have hiz : ia < σ.length := by
    rw [I.len]
    exact (List.getElem?_eq_some_iff.mp hia).1
  refine (ps_if (pt_cmpR (op_cmp2 (u := u) c.cz.c.un .ne) pe (pe_lst pa_nil) (nom _ .ne)) (pss_one (ps_ret (v2 X))) pss_nil).run pins s σ H D I ?_
  unfold tIfS tTest tOp
  refine acts_sem c.cz.fx he hCS M.st (M.x.env M.en) h1 h2 h4 hp hiz (PostS.rebase M.x p) fun S' m' Dl H' x1 st1 p1 hD ap => ⟨Nat.zero_le _, fun pl hpl => ?_⟩
  obtain ⟨x2, st2⟩ := alloc_ok (o := .lst []) st1 hpl
  refine ⟨S', m', .l [], .l [], false, st2, ⟨Dl, [], rfl, keep_free x2 st1 hD (fun ps z => by cases z) ap, EncAll.nil, ap⟩, ⟨pl, [], rfl, upd_same, EncAll.nil, st1.apart hpl⟩, by rfl, false, rfl, ?_⟩
  exact p1 m' _ σ x2 st2 (x2.env (x1.env (M.x.env M.en)))
/-- one more lambda -/
theorem mk_more {X : Cx} {k il : Nat} {sms : List Sm} {sm : Sm} {S : Store} {m : Nat → Addr} {ρ : Env} {H0 H H1 : Hp} {σ : L2.St} {l f c' : Addr} {fs : List Addr} {o : Obj} (st : StRel (gof u X) S m H) (en : EnvRel (gof u X) H0 m S.length ρ σ) (x : Ext (gof u X) S m H0 S m H) (h1 : σ[il]? = some (some (.ref l))) (h2 : H l = some (.lst (fs.map V.ref))) (h3 : H0 l = none) (h4 : Apart S m l)
    (h5 : Paired (fun sm f => ∃ c', Clo X k f c' (tSm (gof u X) sm) ∧ H c' = some (CodeO c' (X.env.qual ++ "<lambda>"))) sms fs) (eN : ExtN H H1) (T1 : Tabs u.T H1) (hco : H1 c' = some (CodeO c' (X.env.qual ++ "<lambda>"))) (hc : Clo (X.pin (f, o)) k f c' (tSm (gof u X) sm)) :
    H1 l = some (.lst (fs.map V.ref)) ∧ Mk (gof u X) (X.pin (f, o)) k il (sms ++ [sm]) S m ρ H0 σ (upd H1 l (.lst (fs.map V.ref ++ [.ref f]))) := by
  obtain ⟨x2, st2⟩ := ext_N st eN T1
  have e1 : H1 l = some (.lst (fs.map V.ref)) := eN _ _ h2 (fun ps z => by cases z)
  obtain ⟨x3, st3⟩ := own_upd (ys := fs.map V.ref ++ [.ref f]) st2 (x.trans x2) h3 e1 h4
  have kc : ∀ c', H1 c' = some (CodeO c' (X.env.qual ++ "<lambda>")) → upd H1 l (.lst (fs.map V.ref ++ [.ref f])) c' = some (CodeO c' (X.env.qual ++ "<lambda>")) := fun c' e => by
    have : c' ≠ l := fun z => by
      rw [z, e1] at e
      cases e
    rw [upd_ne this]
    exact e
  refine ⟨e1, st3, en, x3, l, fs ++ [f], h1, by rw [upd_same, List.map_append]; rfl, h3, h4, ?_⟩
  refine Paired.snoc ⟨c', hc, kc _ hco⟩ (Paired.imp (fun a b q => ?_) h5)
  obtain ⟨c2, q1, q2⟩ := q
  exact ⟨c2, Clo.pin q1, kc _ (eN _ _ q2 (fun ps z => by unfold CodeO at z; cases z))⟩
theorem env_gone {g : Gx} {H : Hp} {m : Nat → Addr} {k : Nat} {ρ : Env} {σ : L2.St} (en : EnvRel g H m k ρ σ) (i : Nat) (v : Option V) : EnvRel g H m k (ρ.set i none) (σ.set i v) := by
  refine ⟨by rw [List.length_set, List.length_set]; exact en.len, fun j d e => ?_⟩
  by_cases hj : i = j
  · subst hj
    by_cases hl : i < ρ.length
    · rw [List.getElem?_set_self hl] at e
      cases e
    · rw [List.set_eq_of_length_le (by omega)] at e
      exact absurd (List.getElem?_eq_some_iff.mp e).1 hl
  · rw [List.getElem?_set_ne hj] at e ⊢
    exact en.at_ j d e
end
end Ev
-- EvY6
set_option Elab.async false
set_option linter.all false
set_option maxRecDepth 100000
set_option maxHeartbeats 4000000
/-! EvY6: the same, compiled. -/
namespace Ev
open PySem PySem.Spec PyProof.Rows L2 LamX
def isNe : CmpOp → Bool
  | .NotEq => true
  | _ => false
/-- acts.append(lambda: ..) .., the if, what comes behind -/
def cActs (rE : Rc) (z : Sc) (x0 acts : Str) : List Stmt → Option (List Ex × List Stmt)
  | [] => none
  | st :: r => match st with
    | .Expr (.Call (.Attribute (.Name a pa) m apos) [.Lambda ⟨[], [], none, [], [], none, []⟩ body sc lpos] [] cpos) pos =>
      if a = acts ∧ m = "append" ∧ (apos.endLine == cpos.line) = true ∧ lamSB z.sc sc = true then (match rE (lamSc z sc) body, cActs rE z x0 acts r with
        | some y, some (ys, q) => some (y :: ys, q)
        | _, _ => none) else none
    | .If (.Compare (.ListComp elt [⟨.Name act pt, .Name acts' pi, [.UnaryOp .Not (.Call (.Name x p1) [.Name act2 p2] [] p3) p4], 0⟩] scope lpos) [.NotEq] [.List [] lp2] cpos) [.Return (some ce) rp] [] ipos =>
      if acts' = acts ∧ x = x0 ∧ act2 = act ∧ (cK ce).isSome = true ∧ glB (relS scope z.sc) x = true ∧ blkSt scope z.sc act = true ∧ visB (relS scope z.sc) act = true ∧ dbg act = false ∧ cld act = false then (match z.N.idxOf? act with
        | some ia => if blkC z.N z.sc scope [(act, ia)] then some ([], r) else none
        | none => none) else none
    | _ => none
def cNots (u : Tb) (rE : Rc) (z : Sc) : List Stmt → Option (St × List Stmt)
  | .Assign [.Name acts pa] (.List [.Lambda ⟨[], [], none, [], [], none, []⟩ body sc lpos] lp) pos :: r => (match u.no with
    | some (x0, e0) => if z.lam = true ∧ isLoc z.sc acts = true ∧ lamSB z.sc sc = true ∧ dbg acts = false ∧ cld acts = false then (match z.N.idxOf? acts, rE (lamSc z sc) body, cActs rE z x0 acts r with
      | some il, some y, some (ys, q) => if ys.length ≤ 900 then some (.nots e0 il (y :: ys), q) else none
      | _, _, _ => none) else none
    | none => none)
  | _ => none
section
variable {u : Tb} {n : Nat} {z : Sc}
theorem seq_notsS {e0 : Str} {sms : List Sm} {ρ : Env} {S : Store} {g : Env → Store → SR} : ∃ r, notsS e0 sms ρ S = r ∧ ((∃ S', r = .ok .nx ρ S') ∨ r = .bad) := by
  induction sms generalizing S with
  | nil => exact ⟨_, rfl, .inl ⟨S, rfl⟩⟩
  | cons a r ih =>
    refine ⟨_, rfl, ?_⟩
    unfold notsS
    split
    · split
      · obtain ⟨r', h1, h2⟩ := ih (S := ‹Store›)
        rw [h1]
        exact h2
      · exact .inr rfl
    · exact .inr rfl
theorem pss_acts {rE : Rc} (hE : SE u n rE) {x0 e0 acts : Str} {il : Nat} (hno : u.no = some (x0, e0)) (lm : z.lam = true) (hil : z.N.idxOf? acts = some il) (hl : isLoc z.sc acts = true) (d3 : dbg acts = false) (d4 : cld acts = false) {q : List Stmt} {g' : Env → Store → SR}
    (hq : ∀ (X : Cx) (W : WX), Cs u n z X W → PSs X q (RdS (gof u X) W g')) : ∀ (sts : List Stmt) (ys : List Ex), cActs rE z x0 acts sts = some (ys, q) → ∀ (X : Cx) (W : WX), Cs u n z X W → ∀ done : List Sm, done.length + ys.length ≤ 1000 →
      PSs X sts (fun D σ H => ∃ S m ρ H0, Mk (gof u X) X (3 * n) il done S m ρ H0 σ H ∧ PostS (gof u X) W S m H0 D (seqS (notsS e0 (done ++ evs (callN u.F n) ys) ρ S) g'))
  | [], ys, h, X, W, c, done, hd => by cases h
  | st :: r, ys, h, X, W, c, done, hd => by
    have hv : Vis X.env.scope acts := by
      unfold isLoc at hl
      rw [decide_eq_true_eq, ← c.cz.esc] at hl
      exact .inl hl
    have hN : X.N[il]? = some acts := by rw [c.cz.eN]; exact idx_some hil
    unfold cActs at h
    split at h
    · rename_i a pa m apos body sc lpos cpos pos
      split at h
      · rename_i hc
        obtain ⟨rfl, rfl, q2, q3⟩ := hc
        split at h
        · rename_i y ys' q' h1 h2
          cases h
          obtain ⟨r2, cc, P, tb1, tb2, tb3, tb4⟩ := c.cz.lm lm
          have L : LamX.LamS X.env.scope sc := by
            rw [c.cz.esc]
            exact LamX.lamS_by q3
          have ih := fun (f : Addr) (o : Obj) => pss_acts hE hno lm hil hl d3 d4 hq r ys' h2 (X.pin (f, o)) W (cs_pin c) (done ++ [ev (callN u.F n) y]) (by rw [List.length_append]; simp only [List.length_cons, List.length_nil] at hd ⊢; omega)
          refine PSs.imp (pss_ap (T := u.T) tb1 tb2 tb3 tb4 L c.hs c.hf hN hv d3 d4 q2 ih) ?_
          rintro D σ H ⟨S, m, ρ, H0, M, p⟩
          obtain ⟨l, fs, h1', h2', h3, h4, h5⟩ := M.ls
          refine ⟨l, h1', ⟨M.st.tabs, fun f c' pm ctv H1 eN T1 hco => ?_⟩, _, h2'⟩
          obtain ⟨e1, M'⟩ := mk_more (u := u) (o := lamO X body sc pm c' ctv) M.st M.en M.x h1' h2' h3 h4 h5 eN T1 hco (sm := ev (callN u.F n) y) ⟨body, sc, pm, ctv, List.mem_cons_self, L, fun A outer s H E hr2 => hE _ _ _ h1 _ _ (cz_lam c.cz hr2)⟩
          refine ⟨_, e1, ?_, S, m, ρ, H0, M', ?_⟩
          · have := Paired.len h5
            rw [List.length_map, sizeLine_eq]
            simp only [List.length_cons] at hd
            omega
          · rw [List.append_assoc]
            exact p
        · cases h
      · cases h
    · rename_i elt act pt acts' pi x p1 act2 p2 p3 p4 scope lpos lp2 cpos ce rp ipos
      split at h
      · rename_i hc
        obtain ⟨rfl, rfl, rfl, q4, q5, q6, q7, q8, q9⟩ := hc
        split at h
        · rename_i ia h1
          split at h
          · rename_i hb
            cases h
            cases hk : cK ce with
            | none => rw [hk] at q4; cases q4
            | some dk =>
              rw [← c.cz.esc] at q6
              have hva : Vis (relS scope X.env.scope) act2 := by
                rw [c.cz.esc]
                unfold visB at q7
                rw [Bool.or_eq_true, Bool.or_eq_true, decide_eq_true_eq, decide_eq_true_eq, decide_eq_true_eq] at q7
                rcases q7 with (h | h) | h
                · exact .inl h
                · exact .inr (.inl h)
                · exact .inr (.inr h)
              have hg : (relS scope X.env.scope).names.lookup x = some .globalImplicit := by
                rw [c.cz.esc]
                unfold glB at q5
                exact of_decide_eq_true q5
              refine PSs.imp (pss_cons (ps_actsIf (pt := pt) (pi := pi) (p1 := p1) (p2 := p2) (p3 := p3) (p4 := p4) (lpos := lpos) (elt := elt) (lp2 := lp2) (cpos := cpos) (rp := rp) (ipos := ipos) (sms := done) c hno lm hg (by rw [c.cz.eN, c.cz.esc]; exact hb) q6 hva (by rw [c.cz.eN]; exact idx_some h1) hN hv q8 q9 d3 d4 hk) (hq X W c)) ?_
              rintro D σ H ⟨S, m, ρ, H0, M, p⟩
              refine ⟨S, m, ρ, H0, M, ?_⟩
              rw [show evs (callN u.F n) [] = [] from rfl, List.append_nil] at p
              obtain ⟨r0, e1, e2⟩ := seq_notsS (e0 := e0) (sms := done) (ρ := ρ) (S := S) (g := g')
              rw [e1] at p ⊢
              rcases e2 with ⟨S', rfl⟩ | rfl
              · exact fun m' H' σ' x s e => ⟨S', m', ρ, s, e, PostS.rebase x p⟩
              · exact p
          · cases h
        · cases h
      · cases h
    · cases h
theorem pss_nots {rE : Rc} (hE : SE u n rE) {sts q : List Stmt} {x : St} (h : cNots u rE z sts = some (x, q)) {g' : Env → Store → SR} (hq : ∀ (X : Cx) (W : WX), Cs u n z X W → PSs X q (RdS (gof u X) W g')) {X : Cx} {W : WX} (c : Cs u n z X W) {n' : Nat} :
    PSs X sts (RdS (gof u X) W fun ρ S => seqS (sv n' (callN u.F n) x ρ S) g') := by
  unfold cNots at h
  split at h
  · rename_i acts pa body sc lpos lp pos r
    split at h
    · rename_i x0 e0 hno
      split at h
      · rename_i hc
        obtain ⟨lm, q1, q3, d3, d4⟩ := hc
        split at h
        · rename_i il y ys q' h1 h2 h3
          split at h
          · rename_i hz
            cases h
            obtain ⟨r2, cc, P, tb1, tb2, tb3, tb4⟩ := c.cz.lm lm
            have L : LamX.LamS X.env.scope sc := by
              rw [c.cz.esc]
              exact LamX.lamS_by q3
            have hl : X.env.scope.names.lookup acts = some .local := by
              rw [c.cz.esc]
              unfold isLoc at q1
              exact of_decide_eq_true q1
            have hN : X.N[il]? = some acts := by rw [c.cz.eN]; exact idx_some h1
            have ih := fun (f : Addr) (o : Obj) => pss_acts (e0 := e0) hE hno lm h1 q1 d3 d4 hq r ys h3 (X.pin (f, o)) W (cs_pin c) [ev (callN u.F n) y] (by show 1 + ys.length ≤ 1000; omega)
            refine PSs.imp (pss_mk (T := u.T) tb1 tb2 tb3 tb4 L c.hs c.hf c.cz.c.nd hN (.inl hl) (.inr hl) ih) ?_
            rintro D σ H ⟨S, m, ρ, st, en, p⟩
            have p' : PostS (gof u X) W S m H D (seqS (if il < ρ.length then notsS e0 (evs (callN u.F n) (y :: ys)) (ρ.set il none) S else .bad) g') := p
            by_cases hi : il < ρ.length
            · rw [if_pos hi] at p'
              refine ⟨st.tabs, fun f c' pm ctv H1 eN T1 hco l hnl => ?_⟩
              obtain ⟨x2, st2⟩ := ext_N st eN T1
              obtain ⟨x3, st3⟩ := alloc_ok (o := .lst [.ref f]) st2 hnl
              have hi2 : il < σ.length := by rw [← en.len]; exact hi
              refine ⟨S, m, ρ.set il none, H1, ⟨st3, env_gone (x2.env en) il _, x3, l, [f], by rw [List.getElem?_set_self hi2], upd_same, hnl, st2.apart hnl, .cons ⟨c', ⟨body, sc, pm, ctv, List.mem_cons_self, L, fun A outer s H E hr2 => hE _ _ _ h2 _ _ (cz_lam c.cz hr2)⟩, ?_⟩ .nil⟩, PostS.rebase x2 p'⟩
              have : c' ≠ l := fun z => by
                rw [z, hnl] at hco
                cases hco
              rw [upd_ne this]
              exact hco
            · rw [if_neg hi] at p'
              exact p'.elim
          · cases h
        · cases h
      · cases h
    · cases h
  · cases h
end
end Ev
-- EvS17
set_option Elab.async false
set_option linter.all false
set_option maxRecDepth 100000
set_option maxHeartbeats 4000000
/-! EvS17: the compiler of statements and its soundness. -/
namespace Ev
open PySem PySem.Spec PyProof.Rows L2
theorem sw_par {env : PySem.Env} {x y : Str} {px py pt pt2 : Pos} {kt k2 : Nat} {a b : Expr} (hk : env.scope.kind = .function) (hx : env.scope.names.lookup x = some .local) (hy : env.scope.names.lookup y = some .local) (hl : py.line = px.line) (hxy : x ≠ y) (ha : noStar a = true) (hb : noStar b = true)
    (hf : (foldedForSure 8 a && foldedForSure 8 b) = false) (hc : (constantsAlone 8 a && constantsAlone 8 b) = false) : swappedStores [.Tuple [.Name x px, .Name y py] kt pt] (.Tuple [a, b] k2 pt2) env = pure (some [x, y]) := by
  have kx : env.kindOf x = some .local := hx
  have ky : env.kindOf y = some .local := hy
  have hbk : env.blockKind = .function := by unfold Env.blockKind; rw [hk]; rfl
  have ed : ([x, y] : List Str).eraseDups = [x, y] := by
    have : (y == x) = false := beq_eq_false_iff_ne.mpr (Ne.symm hxy)
    simp [List.eraseDups_cons, this]
  unfold swappedStores
  simp [hbk, kx, ky, hl, ed, hf, hc, Expr.pos]
  intro h
  rcases h with h | h
  · cases a <;> first | (cases h; done) | (cases ha; done)
  · cases b <;> first | (cases h; done) | (cases hb; done)
section
variable (L : LamC) (u : Tb) (k : Nat) (z : Sc)
def cAsg : Stmt → Option St
  | .Assign [.Name y py] (.ListComp elt gs scope pos) spos =>
    if isLoc z.sc y && decide (z.sc.kind = .function) && (py.line == pos.line) && !(scope.names.any fun (n, k) => n == y && (k == .local || k == .cell)) then (match gs, z.N.idxOf? y with
      | [⟨tg, it, ifs, 0⟩], some i => (cComp (cE L u k) (cB L u k) (cI L u k) z (.ListComp elt [⟨tg, it, ifs, 0⟩] scope pos)).map fun e => .asg (.v i) e
      | _, _ => none) else none
  | .Assign [.Subscript o i tpos] e pos => if noComp e && plainI i then (match cE L u k z o, cE L u k z i, cE L u k z e with
      | some x, some y, some w => some (.seti x y w)
      | _, _, _ => none) else none
  | .Assign [.Tuple [.Name x px, .Name y py] kt pt] (.Tuple [a, b] k2 pt2) pos =>
    if isLoc z.sc x && isLoc z.sc y && decide (z.sc.kind = .function) && decide (py.line = px.line) && decide (x ≠ y) && noStar a && noStar b && !(foldedForSure 8 a && foldedForSure 8 b) && !(constantsAlone 8 a && constantsAlone 8 b) then
      (match z.N.idxOf? x, z.N.idxOf? y, cE L u k z a, cE L u k z b with
      | some i, some j, some v, some w => if i ≠ j then some (.par i j v w) else none
      | _, _, _, _ => none) else
    if noComp (.Tuple [a, b] k2 pt2) && someCell z.sc (.Tuple [.Name x px, .Name y py] kt pt) then (match cG z.N z.sn (.Tuple [.Name x px, .Name y py] kt pt), cE L u k z (.Tuple [a, b] k2 pt2) with
      | some t, some x => some (.asg t x)
      | _, _ => none) else none
  | .Assign [tg] e pos => if noComp e && (noTL tg || noTup e) then (match cG z.N z.sn tg, cE L u k z e with
      | some t, some x => some (.asg t x)
      | _, _ => none) else none
  | _ => none
/-- stores to three names, to a place and a name, to many -/
def cAsg2 : Stmt → Option St
  | .Assign [.Tuple [.Name x px, .Name y py, .Name w pw] kt pt] (.Tuple [a, b, c] k2 pt2) pos =>
    if isLoc z.sc x && isLoc z.sc y && isLoc z.sc w && decide (z.sc.kind = .function) && decide (py.line = px.line) && decide (pw.line = px.line) && decide (x ≠ y) && decide (x ≠ w) && decide (y ≠ w) && noStar a && noStar b && noStar c &&
        !(foldedForSure 8 a && (foldedForSure 8 b && foldedForSure 8 c)) && !(constantsAlone 8 a && (constantsAlone 8 b && constantsAlone 8 c)) then
      (match z.N.idxOf? x, z.N.idxOf? y, z.N.idxOf? w, cEs (cE L u k z) [a, b, c] with
      | some i, some j, some l, some [va, vb, vc] => if i ≠ j ∧ i ≠ l ∧ j ≠ l then some (.par3 i j l va vb vc) else none
      | _, _, _, _ => none) else none
  | .Assign [.Tuple [.Subscript o i tpos, .Name y py] kt pt] (.Tuple [a, b] k2 pt2) pos => if plainI i && z.sn y then (match z.N.idxOf? y, cE L u k z o, cE L u k z i, cEs (cE L u k z) [a, b] with
      | some j, some x, some w, some [va, vb] => some (.subn x w j va vb)
      | _, _, _, _ => none) else none
  | .Assign [.Tuple ts kt pt] e pos => if noComp e && (decide (3 < ts.length) || foldT e) then (match cG z.N z.sn (.Tuple ts kt pt), cE L u k z e with
      | some t, some x => some (.asg t x)
      | _, _ => none) else none
  | _ => none
def orS (a b : Option St) : Option St := match a with
  | some x => some x
  | none => b
mutual
def cS : Nat → Stmt → Option St
  | 0, _ => none
  | j + 1, st => match st with
    | .Expr (.Call (.Attribute o m apos) [e1] [] cpos) pos => if m = "append" ∧ (apos.endLine == cpos.line) = true ∧ isCall o = false ∧ noStar e1 = true then (match cE L u k z o, cE L u k z e1 with
        | some x, some y => some (.app x y)
        | _, _ => none) else
        if m = "extend" ∧ (apos.endLine == cpos.line) = true ∧ isCall o = false ∧ noStar e1 = true then (match cE L u k z o, cE L u k z e1 with
        | some x, some y => some (.ext x y)
        | _, _ => none) else none
    | .Expr e pos => if noComp e then (cE L u k z e).map .ex else none
    | .Assign ts e pos => orS (cAsg2 L u k z (.Assign ts e pos)) (cAsg L u k z (.Assign ts e pos))
    | .AugAssign (.Name x pos') op e pos => (match z.N.idxOf? x, opOf op, cE L u k z e with
        | some i, some o, some y => if z.sn x ∧ o ≠ .pow then some (.aug i o y) else none
        | _, _, _ => none)
    | .AugAssign (.Subscript o i tpos) op e pos => if plainI i then (match cE L u k z o, cE L u k z i, opOf op, cE L u k z e with
        | some x, some y, some p, some w => if p ≠ .pow then some (.augi x y p w) else none
        | _, _, _, _ => none) else none
    | .If t a b pos => (match cB L u k z t, cSs j a, cSs j b with
        | some x, some ys, some ws => some (.ite x ys ws)
        | _, _, _ => none)
    | .For tg it body [] pos => if !isSet it then (match cG z.N z.sn tg, cI L u k z it, cSs j body with
        | some t, some (x, weak), some ys => if !weak || t.isTup then some (.for t x ys) else none
        | _, _, _ => none) else none
    | .Return (some e) pos => (cE L u k z e).map .ret
    | .Return none pos => some .retN
    | .Raise (some (.Call (.Name x p) [] [] p2)) none pos => if x ∈ u.exr ∧ glB z.sc x ∧ dbg x = false then some (.raise0 x) else some (.raise x [])
    | .Raise e c pos => some (.raise "" [])
    | .Try body [.ExceptHandler (some (.Name x np)) none [.Return (some ce) p2] p1] [] [] pos => if x ∈ u.exc ∧ glB z.sc x ∧ dbg x = false then (match cSs j body, cK ce with
        | some ys, some d => some (.try1 ys x [.ret (.c d)])
        | _, _ => none) else none
    | .Pass pos => some .pass
    | .Break pos => some .brk
    | .Continue pos => some .cont
    | _ => none
def cSs : Nat → List Stmt → Option (List St)
  | 0, _ => none
  | j + 1, sts => match cNots u (cE L u k) z sts with
    | some (x, q) => (cSs j q).map (x :: ·)
    | none => match sts with
      | [] => some []
      | s :: r => (match cS j s, cSs j r with
        | some x, some xs => some (x :: xs)
        | _, _ => none)
end
end
section
variable {L : LamC} {u : Tb} {n k : Nat} {z : Sc}
theorem cAsg_ok (hL : SL u n L) {st : Stmt} {x : St} (h : cAsg L u k z st = some x) {X : Cx} {W : WX} (c : Cs u n z X W) {n' : Nat} : PS X st (RdS (gof u X) W (sv n' (callN u.F n) x)) := by
  obtain ⟨hE, hB, hI⟩ := c_ok hL k
  have rE' : ∀ e x, cE L u k z e = some x → PE X e (RdE (gof u X) W (ev (callN u.F n) x).E) := fun e x h => hE z e x h X W c.cz
  unfold cAsg at h
  split at h
  · rename_i y py elt gs scope pos spos
    split at h
    · rename_i hg
      rw [Bool.and_eq_true, Bool.and_eq_true, Bool.and_eq_true] at hg
      obtain ⟨⟨⟨g1, g2⟩, g3⟩, g4⟩ := hg
      unfold isLoc at g1
      rw [decide_eq_true_eq, ← c.cz.esc] at g1
      rw [decide_eq_true_eq, ← c.cz.esc] at g2
      have g4' : (scope.names.any fun (n, k) => n == y && (k == .local || k == .cell)) = false := by
        cases hq : (scope.names.any fun (n, k) => n == y && (k == .local || k == .cell)) with
        | false => rfl
        | true => rw [hq] at g4; cases g4
      split at h
      · rename_i tg it ifs i hi
        cases h1 : cComp (cE L u k) (cB L u k) (cI L u k) z (.ListComp elt [⟨tg, it, ifs, 0⟩] scope pos) with
        | none => rw [h1] at h; cases h
        | some e =>
          rw [h1] at h
          cases h
          obtain ⟨own, E, t, I, B, weak, q0, q1, q2, q3, q4, q5, q6, q7⟩ := comp_parts hE hB hI h1 c.cz
          have q := ps_lcE (spos := spos) (py := py) (y := y) (i := i) c.cz.c q1 q2 q3 q4 q5 q6 q7 (by rw [c.cz.eN]; exact idx_some hi) g1 (sw_true g2 g1 g3 g4')
          have eq : sv n' (callN u.F n) (.asg (.v i) e) = fun ρ S => thenS (((ev (callN u.F n) e).E ρ S).bind mat) ρ fun d S1 => (match asg (.v i) d ρ with | some ρ' => .ok .nx ρ' S1 | none => .bad) := by
            funext ρ S
            rfl
          rw [eq, q0]
          exact q
      · cases h
    · cases h
  · split at h
    · rename_i hg
      rw [Bool.and_eq_true] at hg
      split at h
      · rename_i a b w h1 h2 h3
        cases h
        exact ps_se c.cz.c.un hg.1 hg.2 (rE' _ _ h1) (rE' _ _ h2) (rE' _ _ h3)
      · cases h
    · cases h
  · rename_i xn px yn py kt pt a b k2 pt2 pos
    split at h
    · rename_i hg
      rw [Bool.and_eq_true, Bool.and_eq_true, Bool.and_eq_true, Bool.and_eq_true, Bool.and_eq_true, Bool.and_eq_true, Bool.and_eq_true, Bool.and_eq_true] at hg
      obtain ⟨⟨⟨⟨⟨⟨⟨⟨g1, g2⟩, g3⟩, g4⟩, g5⟩, g6⟩, g7⟩, g8⟩, g9⟩ := hg
      unfold isLoc at g1 g2
      rw [decide_eq_true_eq, ← c.cz.esc] at g1 g2 g3
      rw [decide_eq_true_eq] at g4 g5
      split at h
      · rename_i i j v w h1 h2 h3 h4
        split at h
        · rename_i hij
          cases h
          exact ps_pr c.cz.c (by rw [c.cz.eN]; exact idx_some h1) (by rw [c.cz.eN]; exact idx_some h2) hij g1 g2 g6 g7 (rE' _ _ h3) (rE' _ _ h4) (sw_par g3 g1 g2 g4 g5 g6 g7 (by rw [Bool.not_eq_true'] at g8; exact g8) (by rw [Bool.not_eq_true'] at g9; exact g9))
        · cases h
      · cases h
    · split at h
      · rename_i hg
        rw [Bool.and_eq_true] at hg
        split at h
        · rename_i t y h1 h2
          cases h
          exact ps_asT c.cz.c hg.1 (.inr (by rw [c.cz.esc]; exact hg.2)) (by rw [c.cz.eN]; exact h1) (rE' _ _ h2)
        · cases h
      · cases h
  · split at h
    · rename_i hg
      rw [Bool.and_eq_true, Bool.or_eq_true] at hg
      split at h
      · rename_i t y h1 h2
        cases h
        exact ps_asT c.cz.c hg.1 (.inl hg.2) (by rw [c.cz.eN]; exact h1) (rE' _ _ h2)
      · cases h
    · cases h
  · cases h
theorem orS_some {a b : Option St} {x : St} (h : orS a b = some x) : a = some x ∨ b = some x := by
  cases a with
  | none => exact .inr h
  | some y => exact .inl h
theorem cAsg2_ok (hL : SL u n L) {st : Stmt} {x : St} (h : cAsg2 L u k z st = some x) {X : Cx} {W : WX} (c : Cs u n z X W) {n' : Nat} : PS X st (RdS (gof u X) W (sv n' (callN u.F n) x)) := by
  obtain ⟨hE, hB, hI⟩ := c_ok hL k
  have rE' : ∀ e x, cE L u k z e = some x → PE X e (RdE (gof u X) W (ev (callN u.F n) x).E) := fun e x h => hE z e x h X W c.cz
  unfold cAsg2 at h
  split at h
  · rename_i xn px yn py wn pw kt pt a b d k2 pt2 pos
    split at h
    · rename_i hg
      simp only [Bool.and_eq_true, decide_eq_true_eq, Bool.not_eq_true'] at hg
      obtain ⟨⟨⟨⟨⟨⟨⟨⟨⟨⟨⟨⟨⟨g1, g2⟩, g3⟩, g4⟩, g5⟩, g6⟩, g7⟩, g8⟩, g9⟩, g10⟩, g11⟩, g12⟩, g13⟩, g14⟩ := hg
      unfold isLoc at g1 g2 g3
      rw [decide_eq_true_eq, ← c.cz.esc] at g1 g2 g3
      rw [← c.cz.esc] at g4
      split at h
      · rename_i i j l va vb vc h1 h2 h3 h4
        split at h
        · rename_i hij
          cases h
          obtain ⟨y1, ys1, e1, s1, q1, r1⟩ := cEs_cons h4
          obtain ⟨y2, ys2, e2, s2, q2, r2⟩ := cEs_cons r1
          obtain ⟨y3, ys3, e3, s3, q3, r3⟩ := cEs_cons r2
          cases r3
          subst e2 e3
          cases e1
          exact ps_p3 c.cz.c (by rw [c.cz.eN]; exact idx_some h1) (by rw [c.cz.eN]; exact idx_some h2) (by rw [c.cz.eN]; exact idx_some h3) hij.1 hij.2.1 hij.2.2 g1 g2 g3 g10 g11 g12 (rE' _ _ q1) (rE' _ _ q2) (rE' _ _ q3)
            (sw_par3 g4 g1 g2 g3 g5 g6 g7 g8 g9 g10 g11 g12 (Bool.eq_false_iff.mpr fun z => by simp_all) (Bool.eq_false_iff.mpr fun z => by simp_all))
        · cases h
      · cases h
    · cases h
  · rename_i o ix tpos yn py kt pt a b k2 pt2 pos
    split at h
    · rename_i hg
      rw [Bool.and_eq_true] at hg
      split at h
      · rename_i j xo xi va vb h1 h2 h3 h4
        cases h
        obtain ⟨y1, ys1, e1, s1, q1, r1⟩ := cEs_cons h4
        obtain ⟨y2, ys2, e2, s2, q2, r2⟩ := cEs_cons r1
        cases r2
        subst e2
        cases e1
        exact ps_sn c.cz.c (by rw [c.cz.eN]; exact idx_some h1) hg.2 hg.1 s1 s2 (rE' _ _ h2) (rE' _ _ h3) (rE' _ _ q1) (rE' _ _ q2)
      · cases h
    · cases h
  · rename_i ts kt pt e pos _ _
    split at h
    · rename_i hg
      rw [Bool.and_eq_true, Bool.or_eq_true, decide_eq_true_eq] at hg
      split at h
      · rename_i t y h1 h2
        cases h
        exact ps_asL c.cz.c hg.1 (hg.2.elim sw_long sw_fold) (by rw [c.cz.eN]; exact h1) (rE' _ _ h2)
      · cases h
    · cases h
  · cases h
theorem s_ok (hL : SL u n L) : ∀ j, (∀ st x, cS L u k z j st = some x → ∀ (X : Cx) (W : WX), Cs u n z X W → ∀ n', PS X st (RdS (gof u X) W (sv n' (callN u.F n) x))) ∧ (∀ sts xs, cSs L u k z j sts = some xs → ∀ (X : Cx) (W : WX), Cs u n z X W → ∀ n', PSs X sts (RdS (gof u X) W (svs n' (callN u.F n) xs)))
  | 0 => ⟨(fun st x h => by unfold cS at h; cases h), (fun sts xs h => by unfold cSs at h; cases h)⟩
  | j + 1 => by
    obtain ⟨ih1, ih2⟩ := s_ok hL j
    obtain ⟨hE, hB, hI⟩ := c_ok hL k
    refine ⟨fun st x h X W c n' => ?_, fun sts xs h X W c n' => ?_⟩
    · have rE' : ∀ e x, cE L u k z e = some x → PE X e (RdE (gof u X) W (ev (callN u.F n) x).E) := fun e x h => hE z e x h X W c.cz
      unfold cS at h
      split at h
      · rename_i o m apos e1 cpos pos
        split at h
        · rename_i hq
          obtain ⟨rfl, q1, q2, q3⟩ := hq
          split at h
          · rename_i a b h1 h2
            cases h
            exact ps_ap (so := ev (callN u.F n) a) (s1 := ev (callN u.F n) b) (rE' _ _ h1) (rE' _ _ h2) q3 (obase q2) q1
          · cases h
        · split at h
          · rename_i hq
            obtain ⟨rfl, q1, q2, q3⟩ := hq
            split at h
            · rename_i a b h1 h2
              cases h
              exact ps_ext (so := ev (callN u.F n) a) (s1 := ev (callN u.F n) b) (rE' _ _ h1) (rE' _ _ h2) q3 (obase q2) q1
            · cases h
          · cases h
      · rename_i e pos _
        split at h
        · rename_i hn
          cases h1 : cE L u k z e with
          | none => rw [h1] at h; cases h
          | some y =>
            rw [h1] at h
            cases h
            exact ps_ex hn (rE' _ _ h1)
        · cases h
      · exact (orS_some h).elim (fun q => cAsg2_ok hL q c) (fun q => cAsg_ok hL q c)
      · split at h
        · rename_i i o y h1 h2 h3
          split at h
          · rename_i hq
            cases h
            rw [opOf_ok h2]
            exact ps_au c.cz.c hq.2 (by rw [c.cz.eN]; exact idx_some h1) hq.1 (rE' _ _ h3)
          · cases h
        · cases h
      · split at h
        · rename_i hi
          split at h
          · rename_i a b p w h1 h2 h3 h4
            split at h
            · rename_i hq
              cases h
              rw [opOf_ok h3]
              exact ps_aui c.cz.c.un hq hi (rE' _ _ h1) (rE' _ _ h2) (rE' _ _ h4)
            · cases h
          · cases h
        · cases h
      · split at h
        · rename_i y ys ws h1 h2 h3
          cases h
          exact ps_ite (hB z _ _ h1 X W c.cz) (ih2 _ _ h2 X W c n') (ih2 _ _ h3 X W c n')
        · cases h
      · split at h
        · rename_i hset
          split at h
          · rename_i t y weak ys h1 h2 h3
            split at h
            · rename_i hq
              cases h
              have hw : weak = true → t.isTup = true := fun e => by
                rw [e] at hq
                simpa using hq
              exact ps_fo c.cz.c (by rw [c.cz.eN]; exact h1) hw (hI z _ _ _ h2 X W c.cz _ (fun e => tup_of h1 (hw e))) (ih2 _ _ h3 X W c n') (fold_ok (by simpa using hset))
            · cases h
          · cases h
        · cases h
      · rename_i e pos
        cases h1 : cE L u k z e with
        | none => rw [h1] at h; cases h
        | some y =>
          rw [h1] at h
          cases h
          exact ps_rt (rE' _ _ h1)
      · cases h
        exact ps_rn
      · split at h
        · rename_i hq
          cases h
          exact ps_ra c.cz.fx c.cz.c.tk c.cz.c.calm hq.1 (gl_ok c.cz hq.2.1) hq.2.2
        · cases h
          exact ps_nv
      · cases h
        exact ps_nv
      · split at h
        · rename_i hq
          split at h
          · rename_i ys d h1 h2
            cases h
            obtain ⟨v, v1, v2⟩ := cK_ok h2
            exact ps_tr c.cz.fx c.cz.c.tk c.hs c.hf hq.1 (gl_ok c.cz hq.2.1) hq.2.2 v1 v2 fun W' pn xe tk po => ih2 _ _ h1 _ W' (cs_tr c tk po) n'
          · cases h
        · cases h
      · cases h
        exact ps_pa
      · cases h
        exact ps_bk
      · cases h
        exact ps_ct
      · cases h
    · unfold cSs at h
      split at h
      · rename_i y q h0
        cases h1 : cSs L u k z j q with
        | none => rw [h1] at h; cases h
        | some ys =>
          rw [h1] at h
          cases h
          exact pss_nots hE h0 (fun X W c => ih2 _ _ h1 X W c n') c
      · split at h
        · cases h
          exact pss_n
        · split at h
          · rename_i y ys h1 h2
            cases h
            exact pss_c (ih1 _ _ h1 X W c n') (ih2 _ _ h2 X W c n')
          · cases h
end
end Ev
-- EvS18
set_option Elab.async false
set_option linter.all false
set_option maxRecDepth 100000
set_option maxHeartbeats 4000000
/-! EvS18: lambdas handed to a def. -/
namespace Ev
open PySem PySem.Spec PyProof.Rows L2
section
variable {u : Tb} {n : Nat}
def cNo (u : Tb) (rE : Rc) (z : Sc) : Expr → Option Ex
  | .Call (.Name x p) [.Lambda ⟨[], [], none, [], [], none, []⟩ body scope lpos] [] pos => (match u.no with
    | some (x0, e0) => if x = x0 ∧ z.lam = true ∧ glB z.sc x = true ∧ LamX.lamSB z.sc scope = true then (rE (lamSc z scope) body).map (.isNo e0) else none
    | none => none)
  | _ => none
theorem cNo_ok {rE : Rc} (hE : SE u n rE) : SE u n (cNo u rE) := by
  intro z e x h X W c
  unfold cNo at h
  split at h
  · rename_i xn p body scope lpos pos
    split at h
    · rename_i x0 e0 hno
      split at h
      · rename_i hq
        obtain ⟨rfl, q1, q2, q3⟩ := hq
        cases h1 : rE (lamSc z scope) body with
        | none => rw [h1] at h; cases h
        | some y =>
          rw [h1] at h
          cases h
          obtain ⟨n1, n2, n3, g0, pg, sg, dV, kV, doc, pm, cdv, ct, oc, an, od, osl, a, Ng, bg, m1, m2, m3, m4, m5, m6, m7, m8, m9, m12, m10, m11⟩ := c.fx.no _ _ hno
          obtain ⟨CS, hCS⟩ := c.fx.exc _ n1
          obtain ⟨r2, cc, P, tb1, tb2, tb3, tb4⟩ := c.lm q1
          have L : LamX.LamS X.env.scope scope := by
            rw [c.esc]
            exact LamX.lamS_by q3
          have hNe : Ng = a :: Ng.drop 1 := by
            cases Ng with
            | nil => cases m5
            | cons b r =>
              have : b = a := by simpa using m5
              rw [this]
              rfl
          have hG : LamX.GivesTo X Ng xn sg g0 cdv _ a (X.env.qual ++ "<lambda>") (TTno X.K CS) := no_gv m12 m9 hCS n3 (fun f => by rw [hNe]; rfl)
          refine PE.imp (LamX.pe_lamcall (T := u.T) (TT := TTno X.K CS) (t := fun E => RdE (gof u X) (fun c d _ H' => E c d H') (ev (callN u.F n) y).E) (gl_ok c q2) m1 m2 m10 m3 m11 m4 m5 m6 hG tb1 tb2 tb3 tb4 r2 L rfl (fun _ _ _ _ _ => rfl)
            (fun A outer s H E f c' hr => hE _ _ _ h1 _ _ (cz_lam c hr)) n2 m7 m8) ?_
          rintro σ H Q ⟨S, m, ρ, st, en, p⟩
          refine ⟨st.tabs, fun H1 eN T1 => ?_⟩
          obtain ⟨xN, stN⟩ := ext_N st eN T1
          refine ⟨S, m, ρ, stN, xN.env en, ?_⟩
          have p' : Post (gof u X) W S m H σ (KE (gof u X) H Q) (R.bind (match fin S.length ((ev (callN u.F n) y).E ρ S) with
              | .ok _ S1 => .ok false S1
              | .exc x S1 => if x.cls = e0 then .ok true S1 else .bad
              | .bad => .bad) fun k S1 => .ok (.v (.bl k)) S1) := p
          revert p'
          generalize (ev (callN u.F n) y).E ρ S = r
          intro p'
          cases r with
          | bad => exact p'
          | ok t S1 =>
            intro m1 H2 x1 st1 v fv ev
            have x2 := xN.trans x1
            have p2 : Post (gof u X) W S m H σ (KE (gof u X) H Q) (R.bind (match finish S.length t S1 with
              | .ok _ S1 => R.ok false S1
              | .exc x S1 => if x.cls = e0 then .ok true S1 else .bad
              | .bad => .bad) fun k S1 => .ok (.v (.bl k)) S1) := p'
            by_cases hk : ((fresh S.length t S1).bnd S.length && oldOk S.length S1) = true
            · have e1 : finish S.length t S1 = .ok (fresh S.length t S1) (S1.take S.length) := if_pos hk
              rw [e1] at p2
              rw [Bool.and_eq_true] at hk
              obtain ⟨y1, st2, _⟩ := take_ok st.pos x2 st1 hk.2
              exact p2 m1 H2 y1 st2 _ trivial rfl
            · have e1 : finish S.length t S1 = .ok t S1 := if_neg hk
              rw [e1] at p2
              exact p2 m1 H2 x2 st1 _ trivial rfl
          | exc ee S1 =>
            intro m1 H2 cls x1 st1 q4 q5
            have x2 := xN.trans x1
            refine ⟨decide (ee.cls = e0), c.fx.exm _ q4 _ n1 _ _ q5 hCS, fun hb => ?_, fun hb => ?_⟩
            · have he := of_decide_eq_true hb
              have p2 : Post (gof u X) W S m H σ (KE (gof u X) H Q) (R.bind (match finishX S.length ee S1 with
                | .ok _ S1 => R.ok false S1
                | .exc x S1 => if x.cls = e0 then .ok true S1 else .bad
                | .bad => .bad) fun k S1 => .ok (.v (.bl k)) S1) := p'
              by_cases hk : (D.bnds S.length ee.args && oldOk S.length S1) = true
              · have e1 : finishX S.length ee S1 = .exc ee (S1.take S.length) := if_pos hk
                rw [e1] at p2
                rw [Bool.and_eq_true] at hk
                obtain ⟨y1, st2, _⟩ := take_ok st.pos x2 st1 hk.2
                dsimp only at p2
                rw [if_pos he] at p2
                exact p2 m1 H2 y1 st2 _ trivial rfl
              · have e1 : finishX S.length ee S1 = .exc ee S1 := if_neg hk
                rw [e1] at p2
                dsimp only at p2
                rw [if_pos he] at p2
                exact p2 m1 H2 x2 st1 _ trivial rfl
            · have he := of_decide_eq_false hb
              have p2 : Post (gof u X) W S m H σ (KE (gof u X) H Q) (R.bind (match finishX S.length ee S1 with
                | .ok _ S1 => R.ok false S1
                | .exc x S1 => if x.cls = e0 then .ok true S1 else .bad
                | .bad => .bad) fun k S1 => .ok (.v (.bl k)) S1) := p'
              by_cases hk : (D.bnds S.length ee.args && oldOk S.length S1) = true
              · have e1 : finishX S.length ee S1 = .exc ee (S1.take S.length) := if_pos hk
                rw [e1] at p2
                dsimp only at p2
                rw [if_neg he] at p2
                exact p2
              · have e1 : finishX S.length ee S1 = .exc ee S1 := if_neg hk
                rw [e1] at p2
                dsimp only at p2
                rw [if_neg he] at p2
                exact p2
      · cases h
    · cases h
  · cases h
end
end Ev
-- EvS19
set_option Elab.async false
set_option linter.all false
set_option maxRecDepth 100000
set_option maxHeartbeats 4000000
/-! EvS19: max(xs, key=lambda x: ..). -/
namespace Ev
open PySem PySem.Spec PyProof.Rows L2
theorem cloFrom_nf {cells : List (Str × Addr)} : ∀ {ns : List (Str × NameKind)} {acc : List (Str × Addr)}, (∀ y ∈ ns, y.2 ≠ .free) → cloFrom cells ns acc = acc
  | [], _, _ => rfl
  | (x, k) :: r, acc, h => by
    unfold cloFrom
    rw [if_neg (by have z := h _ List.mem_cons_self; cases k <;> first | (exact absurd rfl z) | decide)]
    exact cloFrom_nf fun y hy => h y (List.mem_cons_of_mem _ hy)
def fsB (a : Str) (sc : Scope) : Bool :=
  decide (sc.kind = .function) && !sc.isCoroutine && !sc.isGenerator && (decide (sc.names.lookup a = some .local) || decide (sc.names.lookup a = some .cell)) && sc.names.all fun y => !decide (y.2 = .free)
theorem fs_by {a : Str} {sc : Scope} (h : fsB a sc = true) : FnScope [a] [a] sc := by
  unfold fsB at h
  simp only [Bool.and_eq_true, Bool.or_eq_true, Bool.not_eq_true', decide_eq_true_eq, decide_eq_false_iff_not, List.all_eq_true] at h
  obtain ⟨⟨⟨⟨h1, h2⟩, h3⟩, h4⟩, h5⟩ := h
  refine ⟨h1, h2, h3, by simp, rfl, fun x hx => ?_, h5⟩
  have e : x = a := by simpa using hx
  rw [e]
  exact h4
/-- a lambda of one parameter, called -/
theorem run_lam1 {CX : CXT} {P : Program} {w : World} {K : PySem.W.Frag} {mg : Str → Option Value} {base : Heap} {k : Nat} {f c' : Addr} {qual : Str} {params : Arguments} {body : Expr} {scope : Scope} {pm ctv : Value} {a : Str} {A : Around} {outer : List PySem.Env} {s : Shared} {H : Hp} {v : V} {x : Value} {Q : VK} {E : XK}
    (S : FnScope [a] [a] scope) (hr : Room (k + 1) A) (e0 : Env0 P w K mg base A outer s H) (of : s.heap.get? f = some (PySem.W.kla_obj "<lambda>" qual params body scope [] pm c' ctv)) (hco : H c' = some (LamX.CodeO c' qual)) (rv : RelV v x)
    (hbind : bindArgs (PySem.W.kla_fn "<lambda>" qual params body scope [] pm (.ref c') ctv) ⟨[x], []⟩ = pure [(a, x)])
    (hbody : Room k (A.deeper (envOfC qual scope s.heap.objs.size f (.ref c'))) → ∃ t, PE (cxOf CX P w K mg base [a] qual scope f (.ref c') A outer s H E) body t ∧ t (L2.start [a] [v]) H Q) :
    codeAny (model P w) A (.call (.ref f) ⟨[x], []⟩) (CR CX outer P w H s Q E) s := by
  have lim : s.heap.NoLimit := e0.mod.nolimit.keeps fun b o e => (e0.bs b o e).1
  obtain ⟨⟨oc, vs, t, hoc, hdc, hvc⟩, _, _⟩ := e0.hok c' _ hco
  refine PySem.W.kla_callFunE hr.depth of rfl S.co S.gen rfl ⟨c', oc, vs, t, rfl, hoc, hdc, hvc⟩ ?_
  rw [hbind]
  have hkind : ∀ y ∈ [a].zip [x], scope.names.lookup y.1 = some .local ∨ (scope.names.lookup y.1 = some .cell ∧ ((cellsFrom (s.heap.objs.size + 1) scope.names []).lookup y.1).isSome = true) := fun y hy => by
    have e : y = (a, x) := by simpa using hy
    subst e
    rcases S.par a (by simp) with q | q
    · exact .inl q
    · exact .inr ⟨q, PySem.W.cellsFrom_some _ _ _ (.inl q)⟩
  refine wpAny_pure (wpAny_newFunctionEnv_cells S.kind hkind fun env he s1 x1 => ?_)
  subst he
  refine ⟨lim.keeps x1.toInCall.keep, ?_⟩
  obtain ⟨t, ht, hq⟩ := hbody (hr.deeper _)
  have I : L2.Inv (cxOf CX P w K mg base [a] qual scope f (.ref c') A outer s H E) [] (L2.start [a] [v]) H s1 := inv_start S hr.hd e0 rfl (.cons rv .nil) x1
  refine PySem.W.kla_codeExpr (wpAny_mono (ht.run [] s1 _ H _ I hq) (fun u s' hs => ?_) fun e s' hs => hs)
  obtain ⟨v', H', J, rv', q⟩ := hs
  exact ⟨v', H', J.os, J.bare, J.base, J.hok, rv', q⟩
/-- code objects stay -/
theorem Ext.code {g : Gx} {S S' : Store} {m m' : Nat → Addr} {H H' : Hp} {P : Program} {w : World} {hp : Heap} (ok : HOk P w H hp) (x : Ext g S m H S' m' H') (st : StRel g S m H) {c : Addr} {q : Str} (h : H c = some (LamX.CodeO c q)) : H' c = some (LamX.CodeO c q) :=
  x.keep _ _ h LamX.codeO_ne fun k hk e => by
    obtain ⟨cl, hc⟩ : ∃ cl, S[k]? = some cl := ⟨S[k], List.getElem?_eq_getElem hk⟩
    have z := st.cell k cl hc
    rw [e] at z
    cases cl with
    | lst b xs =>
      obtain ⟨vs, z, _⟩ := z
      rw [h] at z
      unfold LamX.CodeO at z
      cases z
    | ro xs =>
      unfold lockAt
      rw [hc]
    | dT b kvs =>
      obtain ⟨o, es, ep, z, d, hd, _⟩ := z
      obtain ⟨q1, _⟩ := ok c _ z
      obtain ⟨⟨oc, us, t, e1, e2, _⟩, _⟩ := ok c _ h
      rw [show hp.get? c = some o from q1] at e1
      cases e1
      rw [hd] at e2
      cases e2
def keyEx : Ex := .tup [.bi .sum [.ix (.v 0) (.c (.int 0))], .ix (.v 0) (.c (.int 0))]
theorem key_ev (C : Calls) {d kd : D} (S : Store) (h : keyOf d = some kd) : (ev C keyEx).E [some d] S = .ok (.v kd) S := by
  unfold keyOf at h
  split at h
  · rename_i ps r
    cases e : intL ps with
    | none =>
      rw [e] at h
      cases h
    | some ns =>
      rw [e] at h
      cases h
      have e1 : (ev C (.ix (.v 0) (.c (.int 0)))).E [some (.tup (.tup ps :: r))] S = .ok (.v (.tup ps)) S := by
        show opt ((ixAt (.tup ps :: r) 0).map T.v) S = _
        rw [show ixAt (.tup ps :: r) 0 = some (.tup ps) from by simp [ixAt, L2.atI, L2.ixN]]
        rfl
      have e2 : (ev C (.bi .sum [.ix (.v 0) (.c (.int 0))])).E [some (.tup (.tup ps :: r))] S = .ok (.v (.int ns.sum)) S := by
        show (((ev C (.ix (.v 0) (.c (.int 0)))).E [some (.tup (.tup ps :: r))] S).bind fun t S1 => (R.ok [] S1).bind fun ts S2 => R.ok (t :: ts) S2).bind (fun ts S1 => opt (biF .sum ts S1) S1) = _
        rw [e1]
        show opt (((some ps).bind fun xs => (intL xs).map fun ns => T.v (.int ns.sum))) S = _
        show opt ((intL ps).map fun ns => T.v (.int ns.sum)) S = _
        rw [e]
        rfl
      have e3 : (evM [ev C (.bi .sum [.ix (.v 0) (.c (.int 0))]), ev C (.ix (.v 0) (.c (.int 0)))] [some (.tup (.tup ps :: r))] S) = .ok [.int ns.sum, .tup ps] S := by
        unfold evM
        rw [e2]
        show ((evM [ev C (.ix (.v 0) (.c (.int 0)))] [some (.tup (.tup ps :: r))] S).bind fun ds S3 => R.ok (D.int ns.sum :: ds) S3) = _
        unfold evM
        rw [e1]
        rfl
      show ((evM [ev C (.bi .sum [.ix (.v 0) (.c (.int 0))]), ev C (.ix (.v 0) (.c (.int 0)))] [some (.tup (.tup ps :: r))] S).bind fun ds S1 => if ds.length ≤ lim then R.ok (T.v (.tup ds)) S1 else .bad) = _
      rw [e3]
      rfl
  · cases h
section
variable {X : Cx} {u : Tb} {n : Nat}
/-- what the lambda f promises -/
def KeyF (X : Cx) (u : Tb) (S0 : Store) (σ : L2.St) (f c' : Addr) (obj : Obj) : Prop :=
  ∀ (pins : List (Addr × Obj)) (s : Shared) (H : Hp) (m : Nat → Addr) (d kd : D) (v : V) (x : Value) (Q : Value → Shared → Prop) (E : Value → Shared → Prop), L2.Inv X pins σ H s → s.heap.get? f = some obj → H f = none → H c' = some (LamX.CodeO c' (X.env.qual ++ "<lambda>")) →
    StRel (gof u X) S0 m H → Enc (gof u X) H m S0.length d v → RelV v x → keyOf d = some kd →
    (∀ m' H' kv ku s', L2.Inv X pins σ H' s' → s'.heap.get? f = some obj → H' f = none → H' c' = some (LamX.CodeO c' (X.env.qual ++ "<lambda>")) → Ext (gof u X) S0 m H S0 m' H' → StRel (gof u X) S0 m' H' → RelV kv ku → Enc (gof u X) H' m' S0.length kd kv → Q ku s') →
    wpAny (model X.prog X.w) X.A.in1 (call (.ref f) [x]) Q E s
theorem key_ok {rE : Rc} (hE : SE u n rE) (fx : Fax u n (gof u X)) (hr : Room (3 * n + 2) X.A) {a : Str} {params : Arguments} {body : Expr} {scope : Scope} {pm ctv : Value} {f c' : Addr} {S0 : Store} {σ : L2.St}
    (Sf : FnScope [a] [a] scope) (hfr : f ∉ frs X.stack) (hb : rE ⟨[a], scope, fun _ => false, false⟩ body = some keyEx)
    (hbind : ∀ x, bindArgs (PySem.W.kla_fn "<lambda>" (X.env.qual ++ "<lambda>") params body scope [] pm (.ref c') ctv) ⟨[x], []⟩ = pure [(a, x)]) :
    KeyF X u S0 σ f c' (PySem.W.kla_obj "<lambda>" (X.env.qual ++ "<lambda>") params body scope [] pm c' ctv) := by
  intro pins s H m d kd v x Q E I of hfn hco st ed rv hk h
  have hr1 : Room (3 * n + 1) X.A.in1 := hr.in1
  refine wpAny_call (codeAny_mono (run_lam1 (CX := C8.CX0) (E := C8.E0) (Q := fun v' H' => ∃ m', Ext (gof u X) S0 m H S0 m' H' ∧ StRel (gof u X) S0 m' H' ∧ Enc (gof u X) H' m' S0.length kd v') Sf hr1 I.env0.in1 of hco rv (hbind x) fun hr' => ?_) fun r s' hq => ?_)
  · refine ⟨_, hE _ _ _ hb _ (fun _ _ _ _ => False) ⟨⟨by simp [cxOf], (fun x h => by cases h), rfl, LamX.takes0, passes_of rfl, hr'.units⟩, rfl, rfl, hr', fx, fun h => by cases h⟩, ?_⟩
    refine ⟨S0, m, [some d], st, ⟨rfl, fun i d' e => ?_⟩, ?_⟩
    · cases i with
      | zero =>
        cases e
        exact ⟨v, rfl, ed⟩
      | succ i => cases e
    · rw [key_ev _ S0 hk]
      exact fun m' H' x' st' v' _ ev' => ⟨m', x', st', ev'⟩
  · cases r with
    | error e => exact (show False from hq).elim
    | ok fl =>
      cases fl with
      | ret ku =>
        have hq' : CE X.stack X.prog X.w H s _ ku s' := hq
        obtain ⟨kv, H', os, bare, un, hok, rk, m', x', st', ek⟩ := hq'
        have J : L2.Inv X pins σ H' s' := I.call' os un hok bare (fun b z => absurd z (by simp))
        exact h m' H' kv ku s' J (un.keep f _ of hfn hfr (by simp)) (un.free f _ of hfn (by simp)) (x'.code I.hok st hco) x' st' rk ek
      | next => exact False.elim hq
      | brk => exact False.elim hq
      | cont => exact False.elim hq
theorem pin2 {pins : List (Addr × Obj)} {σ : L2.St} {H : Hp} {s : Shared} (I : L2.Inv X pins σ H s) {S It : Addr} {oS oI : Obj} (fS : FpOk X pins H S) (fI : FpOk X pins H It) (hS : s.heap.get? S = some oS) (dS : ∀ v, oS.data ≠ .cell v) (hI : s.heap.get? It = some oI) (dI : ∀ v, oI.data ≠ .cell v) :
    L2.Inv X ((S, oS) :: (It, oI) :: pins) σ H s := I.pins_of fun p hp => by
  rcases List.mem_cons.mp hp with z | hp
  · subst z
    exact ⟨hS, fS.1, fS.2.1, fS.2.2.1, dS⟩
  rcases List.mem_cons.mp hp with z | hp
  · subst z
    exact ⟨hI, fI.1, fI.2.1, fI.2.2.1, dI⟩
  · exact I.pin p (List.mem_append_right _ hp)
theorem unpin2 {pins : List (Addr × Obj)} {σ : L2.St} {H : Hp} {s : Shared} {p q : Addr × Obj} (I : L2.Inv X (p :: q :: pins) σ H s) : L2.Inv X pins σ H s ∧ (s.heap.get? p.1 = some p.2 ∧ H p.1 = none) ∧ (s.heap.get? q.1 = some q.2 ∧ H q.1 = none) :=
  ⟨I.pins_of fun p hp => I.pin p (List.mem_append_right _ (List.mem_cons_of_mem _ (List.mem_cons_of_mem _ hp))),
    ⟨(I.pin p (List.mem_append_right _ List.mem_cons_self)).1, (I.pin p (List.mem_append_right _ List.mem_cons_self)).2.1⟩,
    ⟨(I.pin q (List.mem_append_right _ (List.mem_cons_of_mem _ List.mem_cons_self))).1, (I.pin q (List.mem_append_right _ (List.mem_cons_of_mem _ List.mem_cons_self))).2.1⟩⟩
theorem keyOf_tup {d k : D} (h : keyOf d = some k) : k.py ≠ .none := by
  unfold keyOf at h
  split at h
  · rename_i ps r
    cases e : intL ps with
    | none =>
      rw [e] at h
      cases h
    | some ns =>
      rw [e] at h
      cases h
      intro z
      cases z
  · cases h
theorem keysOf_cons {x : D} {xs ks : List D} (h : keysOf (x :: xs) = some ks) : ∃ k r, ks = k :: r ∧ keyOf x = some k ∧ keysOf xs = some r := by
  unfold keysOf at h
  split at h
  · rename_i k r e1 e2
    cases h
    exact ⟨k, r, rfl, e1, e2⟩
  · cases h
def KOk (ks : List D) : Prop := (∀ a ∈ ks, ∀ b ∈ ks, PySem.W.alike a.py b.py = true) ∧ (∀ a ∈ ks, a.dep ≤ 50) ∧ ∀ a ∈ ks, a.pure = true
theorem KOk.sub {ks ls : List D} (h : KOk ks) (hs : ∀ a ∈ ls, a ∈ ks) : KOk ls := ⟨fun a ha b hb => h.1 a (hs a ha) b (hs b hb), fun a ha => h.2.1 a (hs a ha), fun a ha => h.2.2 a (hs a ha)⟩
theorem KOk.by {ks : List D} (h : keysOk ks = true) : KOk ks := by
  unfold keysOk at h
  rw [Bool.and_eq_true, Bool.and_eq_true, decide_eq_true_eq, pures_all, List.all_eq_true, List.all_eq_true] at h
  refine ⟨fun a ha b hb => ?_, fun a ha => Nat.le_trans (deps_mem ha) h.1.2, fun a ha => h.2 a ha⟩
  have z := h.1.1 a ha
  rw [List.all_eq_true] at z
  exact z b hb
abbrev lobj (xs : Array Value) (c : Nat) : Obj := { cls := .type "list", dict := none, data := .seq xs c, slots := #[] }
theorem max_loop {S0 : Store} {σ : L2.St} {f c' : Addr} {obj : Obj} (kf : KeyF X u S0 σ f c' obj) (hc : X.calm = true) (hu : X.A.units + 64 < cLine) {S It a : Addr} {vs : List V} (hSI : S ≠ It) (hSf : S ≠ f) (hIf : It ≠ f) {kw : List (Str × Value)} {R : Result → Shared → Prop} {m0 : Nat → Addr} {H0 : Hp} {pins : List (Addr × Obj)} :
    ∀ (rest ks : List D) (j : Nat) (s : Shared) (H : Hp) (m : Nat → Addr) (xb kb : D) (xv kv : V) (xu ku : Value) (c : Nat), keysOf rest = some ks → KOk (kb :: ks) →
      L2.Inv X pins σ H s → FpOk X pins H S → FpOk X pins H It → s.heap.get? S = some (lobj #[xu, ku] c) → s.heap.IsTupleIter It a j → PlT (gof u X).K H a vs → EncAll (gof u X) H m S0.length rest (vs.drop j) →
      Enc (gof u X) H m S0.length xb xv → Enc (gof u X) H m S0.length kb kv → RelV xv xu → RelV kv ku → StRel (gof u X) S0 m H → Ext (gof u X) S0 m0 H0 S0 m H →
      s.heap.get? f = some obj → H f = none → H c' = some (LamX.CodeO c' (X.env.qual ++ "<lambda>")) →
      (∀ s' H' m' v u', L2.Inv X pins σ H' s' → Ext (gof u X) S0 m0 H0 S0 m' H' → StRel (gof u X) S0 m' H' → RelV v u' → Enc (gof u X) H' m' S0.length (maxFrom xb kb rest ks) v → R (.ok (.ret u')) s') →
      codeAny (model X.prog X.w) X.A (.builtin "max.loop" ⟨[.ref It, .ref f, .ref S], kw⟩) R s
  | [], ks, j, s, H, m, xb, kb, xv, kv, xu, ku, c, hks, hko, I, fS, fI, hS, hit, ht, ea, exb, ekb, rx, rk, st, x0, of, hfn, hco, hR => by
    cases hks
    obtain ⟨its, rv, p, hz⟩ := I.tuple ht.sq
    have hd : X.A.in1.handled = none := I.ok.hd hc
    have hl := rv.length
    have hj : vs.length ≤ j := by
      have z : vs.drop j = [] := ea
      exact List.drop_eq_nil_iff.mp z
    refine codeAny_builtin F.entry_max_loop ?_
    rw [Around.under_plainId F.plain_max_loop _]
    show wpAny _ X.A.in1 (seqItems? (.ref S) >>= _) _ _ s
    refine wpAny_bind (wpAny_seqItems hS rfl ?_)
    show wpAny _ X.A.in1 (tryCatch (pyNext (.ref It)) _ >>= _) _ _ s
    refine wpAny_bind (wpAny_tryCatch (wpAny_pyNext_tuple_end hd hit (show s.heap.IsTuple a its.toArray from p) (by simp; omega) fun h' eb => ?_))
    obtain ⟨f0, f1, f2, f3, f4, f5⟩ := fI
    have I1 : L2.Inv X pins σ H { s with heap := h' } := I.turned (t' := s.toks) (fun b o hb e => eb b o hb e) f0 f1 f3 f4 f5
    have hS' : h'.get? S = some (lobj #[xu, ku] c) := eb S _ hSI hS
    show wpAny _ X.A.in1 (updateSeq S (fun _ => #[]) >>= _) _ _ _
    refine wpAny_bind ?_
    refine wpAny_updateSeq hS' rfl (wpAny_bind (wpAny_letGo (wpAny_pure ?_)))
    obtain ⟨g0, g1, g2, g3, g4, g5⟩ := fS
    exact hR _ H m xv xu (I1.turned (t' := s.toks) (fun b o hb e => (Heap.get?_update_other _ _ (Ne.symm hb)).trans e) g0 g1 g3 g4 g5) x0 st rx exb
  | y :: rest, ks, j, s, H, m, xb, kb, xv, kv, xu, ku, c, hks, hko, I, fS, fI, hS, hit, ht, ea, exb, ekb, rx, rk, st, x0, of, hfn, hco, hR => by
    obtain ⟨ky, kr, rfl, hky, hkr⟩ := keysOf_cons hks
    obtain ⟨its, rv, p, hz⟩ := I.tuple ht.sq
    have hd : X.A.in1.handled = none := I.ok.hd hc
    have hl := rv.length
    obtain ⟨yv, r, er, ey, ea'⟩ := ea
    have hjy : vs[j]? = some yv := by
      have z : (vs.drop j)[0]? = some yv := by rw [er]; rfl
      rw [List.getElem?_drop] at z
      simpa using z
    have hdr : vs.drop (j + 1) = r := by
      have z : (vs.drop j).drop 1 = r := by rw [er]; rfl
      rw [List.drop_drop] at z
      exact z
    obtain ⟨yu, hyu, ry⟩ := rv.get hjy
    refine codeAny_builtin F.entry_max_loop ?_
    rw [Around.under_plainId F.plain_max_loop _]
    show wpAny _ X.A.in1 (seqItems? (.ref S) >>= _) _ _ s
    refine wpAny_bind (wpAny_seqItems hS rfl ?_)
    show wpAny _ X.A.in1 (tryCatch (pyNext (.ref It)) _ >>= _) _ _ s
    refine wpAny_bind (wpAny_tryCatch (wpAny_pyNext_tuple_item hit (show s.heap.IsTuple a its.toArray from p) (x := yu) (by simpa using hyu) fun h' hit' sb => ?_))
    obtain ⟨f0, f1, f2, f3, f4, f5⟩ := id fI
    have I1 : L2.Inv X pins σ H { s with heap := h' } := I.turned (t' := s.toks) (fun b o hb e => (sb.2 b hb).trans e) f0 f1 f3 f4 f5
    have hS' : h'.get? S = some (lobj #[xu, ku] c) := (sb.2 S hSI).trans hS
    obtain ⟨oI, oI1, oI2, oI3⟩ := id hit'
    have I2 := pin2 I1 fS fI hS' (fun v z => by cases z) oI1 (fun v z => by rw [oI3] at z; cases z)
    show wpAny _ X.A.in1 (tryCatch (holding [yu] (call (.ref f) [yu])) _ >>= _) _ _ _
    refine wpAny_bind (wpAny_tryCatch (wpAny_holding (kf _ _ H m y ky yv yu _ _ I2 ((sb.2 f (Ne.symm hIf)).trans of) hfn hco st ey ry hky fun m2 H2 kyv kyu s2 I3 of2 hfn2 hco2 x2 st2 rky eky => ?_)))
    obtain ⟨I4, ⟨hS2, nS2⟩, ⟨hI2, nI2⟩⟩ := unpin2 I3
    have fS2 : FpOk X pins H2 S := ⟨nS2, fS.2⟩
    have fI2 : FpOk X pins H2 It := ⟨nI2, fI.2⟩
    have hit2 : s2.heap.IsTupleIter It a (j + 1) := ⟨oI, hI2, oI2, oI3⟩
    have ht2 := x2.tk a vs ht
    have ekb2 : Enc (gof u X) H2 m2 S0.length kb kv := x2.enc ekb
    have exb2 : Enc (gof u X) H2 m2 S0.length xb xv := x2.enc exb
    have ey2 : Enc (gof u X) H2 m2 S0.length y yv := x2.enc ey
    have ea2 : EncAll (gof u X) H2 m2 S0.length rest (vs.drop (j + 1)) := by
      rw [hdr]
      exact x2.encAll ea'
    have mky : ky ∈ kb :: ky :: kr := by simp
    obtain ⟨as, ra⟩ := Dp.reads I4 ky.py kyv _ (Enc.dp ky kyv (hko.2.2 ky mky) eky) rky
    obtain ⟨bs, rb⟩ := Dp.reads I4 kb.py kv _ (Enc.dp kb kv (hko.2.2 kb (by simp)) ekb2) rk
    have hdep := hko.2.1 ky mky
    show wpAny _ X.A.in1 (tryCatch (holding [yu, kyu] (richCompare .Gt kyu ku >>= _)) _ >>= _) _ _ _
    refine wpAny_bind (wpAny_tryCatch (wpAny_holding (wpAny_bind (PySem.W.rcGt_alike ky.py kb.py X.A.in1 s2 kyu ku as bs ra rb (hko.1 ky mky kb (by simp)) (keyOf_tup hky) (by rw [py_dep]; show X.A.units + 1 + _ < _; omega) _ _ _ _ ?_))))
    refine wpAny_bind (wpAny_holding (wpAny_truthy_bool ?_))
    refine wpAny_bind (wpAny_letGo (wpAny_pure ?_))
    have hname : (toString "max" ++ toString ".loop" : String) = "max.loop" := by decide
    cases hb : PySem.W.dataLt kb.py ky.py with
    | true =>
      simp only [if_true]
      refine wpAny_bind ?_
      refine wpAny_updateSeq hS2 rfl (wpAny_bind (wpAny_letGo ?_))
      rw [hname]
      obtain ⟨g0, g1, g2, g3, g4, g5⟩ := id fS2
      have I5 : L2.Inv X pins σ H2 { s2 with heap := s2.heap.update S (Obj.mapSeq fun _ => #[yu, kyu]) } := I4.turned (t' := s2.toks) (fun b o hb e => (Heap.get?_update_other _ _ (Ne.symm hb)).trans e) g0 g1 g3 g4 g5
      refine wpAny_pure ⟨plainId_quiet F.plain_max_loop _, max_loop kf hc hu hSI hSf hIf rest kr (j + 1) _ H2 m2 y ky yv kyv yu kyu _ hkr (hko.sub (fun a ha => List.mem_cons_of_mem _ ha)) I5 fS2 fI2 (Heap.get?_update_self _ hS2 rfl) ⟨oI, (Heap.get?_update_other _ _ hSI).trans hI2, oI2, oI3⟩ ht2 ea2 ey2 eky ry rky st2 (x0.trans x2) ((Heap.get?_update_other _ _ hSf).trans of2) hfn2 hco2 fun s' H' m' v u' q1 q2 q3 q4 q5 => hR s' H' m' v u' q1 q2 q3 q4 ?_⟩
      have e : maxFrom xb kb (y :: rest) (ky :: kr) = maxFrom y ky rest kr := by
        show (if PySem.W.dataLt kb.py ky.py then _ else _) = _
        rw [hb]
        rfl
      rw [e]
      exact q5
    | false =>
      simp only [Bool.false_eq_true, if_false]
      refine wpAny_bind (wpAny_letGo ?_)
      rw [hname]
      refine wpAny_pure ⟨plainId_quiet F.plain_max_loop _, max_loop kf hc hu hSI hSf hIf rest kr (j + 1) _ H2 m2 xb kb xv kv xu ku c hkr (hko.sub (fun a ha => (List.mem_cons.mp ha).elim (fun z => by rw [z]; exact List.mem_cons_self) (fun z => List.mem_cons_of_mem _ (List.mem_cons_of_mem _ z)))) I4 fS2 fI2 hS2 hit2 ht2 ea2 exb2 ekb2 rx rk st2 (x0.trans x2) of2 hfn2 hco2 fun s' H' m' v u' q1 q2 q3 q4 q5 => hR s' H' m' v u' q1 q2 q3 q4 ?_⟩
      have e : maxFrom xb kb (y :: rest) (ky :: kr) = maxFrom xb kb rest kr := by
        show (if PySem.W.dataLt kb.py ky.py then _ else _) = _
        rw [hb]
        rfl
      rw [e]
      exact q5
end
end Ev
-- EvS20
set_option Elab.async false
set_option linter.all false
set_option maxRecDepth 100000
set_option maxHeartbeats 4000000
/-! EvS20: max(xs, key=lambda x: ..), the expression. -/
namespace Ev
open PySem PySem.Spec PyProof.Rows L2
theorem bind1 {q : Str} {body : Expr} {scope : Scope} {pm ctv : Value} {c' : Addr} {ar : Arg} (x : Value) : bindArgs (PySem.W.kla_fn "<lambda>" q ⟨[], [ar], none, [], [], none, []⟩ body scope [] pm (.ref c') ctv) ⟨[x], []⟩ = pure [(ar.arg, x)] := by
  have e : ar.arg == ar.arg := beq_self_eq_true _
  unfold bindArgs
  simp [PySem.W.kla_fn, List.lookup]
  rw [show seqItems? Value.none = (pure none : Sem _) from rfl]
  simp [List.lookup]
section
variable {X : Cx} {u : Tb} {n : Nat} {W : WX}
theorem max_first {S0 : Store} {σ : L2.St} {f c' : Addr} {obj : Obj} (kf : KeyF X u S0 σ f c' obj) (hc : X.calm = true) (hu : X.A.units + 64 < cLine) {S It a : Addr} {vs : List V} (hSI : S ≠ It) (hSf : S ≠ f) (hIf : It ≠ f) {kw : List (Str × Value)} {R : Result → Shared → Prop} {pins : List (Addr × Obj)}
    {y ky : D} {rest kr : List D} {s : Shared} {H : Hp} {m : Nat → Addr} (hky : keyOf y = some ky) (hkr : keysOf rest = some kr) (hko : KOk (ky :: kr))
      (I : L2.Inv X pins σ H s) (fS : FpOk X pins H S) (fI : FpOk X pins H It) (hS : s.heap.get? S = some (lobj #[] 0)) (hit : s.heap.IsTupleIter It a 0) (ht : PlT (gof u X).K H a vs) (ea : EncAll (gof u X) H m S0.length (y :: rest) vs)
      (st : StRel (gof u X) S0 m H) (of : s.heap.get? f = some obj) (hfn : H f = none) (hco : H c' = some (LamX.CodeO c' (X.env.qual ++ "<lambda>")))
      (hR : ∀ s' H' m' v u', L2.Inv X pins σ H' s' → Ext (gof u X) S0 m H S0 m' H' → StRel (gof u X) S0 m' H' → RelV v u' → Enc (gof u X) H' m' S0.length (maxFrom y ky rest kr) v → R (.ok (.ret u')) s') :
      codeAny (model X.prog X.w) X.A (.builtin "max.loop" ⟨[.ref It, .ref f, .ref S], kw⟩) R s := by
  obtain ⟨its, rv, p, hz⟩ := I.tuple ht.sq
  have hd : X.A.in1.handled = none := I.ok.hd hc
  have hl := rv.length
  obtain ⟨yv, r, er, ey, ea'⟩ := ea
  have hjy : vs[0]? = some yv := by rw [er]; rfl
  obtain ⟨yu, hyu, ry⟩ := rv.get hjy
  refine codeAny_builtin F.entry_max_loop ?_
  rw [Around.under_plainId F.plain_max_loop _]
  show wpAny _ X.A.in1 (seqItems? (.ref S) >>= _) _ _ s
  refine wpAny_bind (wpAny_seqItems hS rfl ?_)
  show wpAny _ X.A.in1 (tryCatch (pyNext (.ref It)) _ >>= _) _ _ s
  refine wpAny_bind (wpAny_tryCatch (wpAny_pyNext_tuple_item hit (show s.heap.IsTuple a its.toArray from p) (x := yu) (by simpa using hyu) fun h' hit' sb => ?_))
  obtain ⟨f0, f1, f2, f3, f4, f5⟩ := id fI
  have I1 : L2.Inv X pins σ H { s with heap := h' } := I.turned (t' := s.toks) (fun b o hb e => (sb.2 b hb).trans e) f0 f1 f3 f4 f5
  have hS' : h'.get? S = some (lobj #[] 0) := (sb.2 S hSI).trans hS
  obtain ⟨oI, oI1, oI2, oI3⟩ := id hit'
  have I2 := pin2 I1 fS fI hS' (fun v z => by cases z) oI1 (fun v z => by rw [oI3] at z; cases z)
  show wpAny _ X.A.in1 (tryCatch (holding [yu] (call (.ref f) [yu])) _ >>= _) _ _ _
  refine wpAny_bind (wpAny_tryCatch (wpAny_holding (kf _ _ H m y ky yv yu _ _ I2 ((sb.2 f (Ne.symm hIf)).trans of) hfn hco st ey ry hky fun m2 H2 kyv kyu s2 I3 of2 hfn2 hco2 x2 st2 rky eky => ?_)))
  obtain ⟨I4, ⟨hS2, nS2⟩, ⟨hI2, nI2⟩⟩ := unpin2 I3
  have fS2 : FpOk X pins H2 S := ⟨nS2, fS.2⟩
  have fI2 : FpOk X pins H2 It := ⟨nI2, fI.2⟩
  have ea2 : EncAll (gof u X) H2 m2 S0.length rest (vs.drop 1) := by
    rw [er]
    exact x2.encAll ea'
  have hname : (toString "max" ++ toString ".loop" : String) = "max.loop" := by decide
  show wpAny _ X.A.in1 (updateSeq S (fun _ => #[yu, kyu]) >>= _) _ _ _
  refine wpAny_bind ?_
  refine wpAny_updateSeq hS2 rfl ?_
  rw [hname]
  obtain ⟨g0, g1, g2, g3, g4, g5⟩ := id fS2
  have I5 : L2.Inv X pins σ H2 { s2 with heap := s2.heap.update S (Obj.mapSeq fun _ => #[yu, kyu]) } := I4.turned (t' := s2.toks) (fun b o hb e => (Heap.get?_update_other _ _ (Ne.symm hb)).trans e) g0 g1 g3 g4 g5
  exact wpAny_pure ⟨plainId_quiet F.plain_max_loop _, max_loop kf hc hu hSI hSf hIf rest kr 1 _ H2 m2 y ky yv kyv yu kyu _ hkr hko I5 fS2 fI2 (Heap.get?_update_self _ hS2 rfl) ⟨oI, (Heap.get?_update_other _ _ hSI).trans hI2, oI2, oI3⟩ (x2.tk a vs ht) ea2 (x2.enc ey) eky ry rky st2 x2 ((Heap.get?_update_other _ _ hSf).trans of2) hfn2 hco2 hR⟩
theorem max_run {S0 : Store} {σ : L2.St} {f c' : Addr} {obj : Obj} (kf : KeyF X u S0 σ f c' obj) (hc : X.calm = true) (hu : X.A.units + 64 < cLine) {a : Addr} {vs : List V} {pins : List (Addr × Obj)} {E : Value → Shared → Prop} {Q : Value → Shared → Prop}
    {y ky : D} {rest kr : List D} {s : Shared} {H : Hp} {m : Nat → Addr} (hky : keyOf y = some ky) (hkr : keysOf rest = some kr) (hko : KOk (ky :: kr))
      (I : L2.Inv X pins σ H s) (ht : PlT (gof u X).K H a vs) (ea : EncAll (gof u X) H m S0.length (y :: rest) vs)
      (st : StRel (gof u X) S0 m H) (of : s.heap.get? f = some obj) (hfn : H f = none) (hco : H c' = some (LamX.CodeO c' (X.env.qual ++ "<lambda>")))
      (hR : ∀ s' H' m' v u', L2.Inv X pins σ H' s' → Ext (gof u X) S0 m H S0 m' H' → StRel (gof u X) S0 m' H' → RelV v u' → Enc (gof u X) H' m' S0.length (maxFrom y ky rest kr) v → Q u' s') :
      wpAny (model X.prog X.w) X.A (call (.builtin "max") [.ref a] [(Str.ofString "key", .ref f)]) Q E s := by
  have hname : (toString "max" ++ toString ".loop" : String) = "max.loop" := by decide
  obtain ⟨its, rv, p, hz⟩ := I.tuple ht.sq
  refine PyProof.Rows.kmk_tree F.kind_max F.plain_max F.entry_max (PyProof.Rows.kmk_max_key _ _) ?_
  show wpAny _ X.A.in1 (Builtin.Builtins.bindParams "max" ["key", "default"] 0 ⟨[], [(Str.ofString "key", .ref f)]⟩ >>= _) _ _ s
  refine wpAny_bind (wpAny_of_eq (show Builtin.Builtins.bindParams "max" ["key", "default"] 0 ⟨[], [(Str.ofString "key", .ref f)]⟩ = pure [some (.ref f), none] from rfl) ?_)
  refine wpAny_bind (wpAny_pure ?_)
  refine wpAny_bind (wpAny_pyIter_tuple (show s.heap.IsTuple a its.toArray from p) ?_)
  refine wpAny_bind (wpAny_newObj_type ?_)
  rw [hname]
  have hfl : f < s.heap.objs.size := Heap.lt_size of
  have I1 : L2.Inv X pins σ H { s with heap := s.heap.push { cls := .type "tuple_iterator", data := .fields #[.ref a, .int 0 0] } } := I.kept (t' := s.toks) fun b o e => Heap.get?_push_of_some _ e
  have hsz : (s.heap.push { cls := .type "tuple_iterator", data := .fields #[.ref a, .int 0 0] }).objs.size = s.heap.objs.size + 1 := Heap.size_push ..
  have fI := I.fpOk (b := s.heap.objs.size) (Nat.le_refl _) (I.hok.fresh (Nat.le_refl _))
  have fS := I.fpOk (b := s.heap.objs.size + 1) (Nat.le_succ _) (I.hok.fresh (Nat.le_succ _))
  have h2 : ∀ b o, s.heap.get? b = some o → ((s.heap.push { cls := .type "tuple_iterator", data := .fields #[.ref a, .int 0 0] }).push (lobj #[] 0)).get? b = some o := fun b o e => Heap.get?_push_of_some _ (Heap.get?_push_of_some _ e)
  have hSo : ((s.heap.push { cls := .type "tuple_iterator", data := .fields #[.ref a, .int 0 0] }).push (lobj #[] 0)).get? (s.heap.objs.size + 1) = some (lobj #[] 0) := by
    have z := Heap.get?_push_size (s.heap.push { cls := .type "tuple_iterator", data := .fields #[.ref a, .int 0 0] }) (o := lobj #[] 0) rfl
    rw [hsz] at z
    exact z
  refine wpAny_pure ⟨plainId_quiet F.plain_max_loop _, ?_⟩
  show codeAny _ _ (.builtin "max.loop" ⟨[.ref s.heap.objs.size, .ref f, .ref (s.heap.push { cls := .type "tuple_iterator", data := .fields #[.ref a, .int 0 0] }).objs.size], []⟩) _ _
  rw [hsz]
  exact max_first kf hc hu (Nat.succ_ne_self _) (Nat.ne_of_gt (Nat.lt_succ_of_lt hfl)) (Nat.ne_of_gt hfl) hky hkr hko (I.kept (t' := s.toks) h2) fS fI hSo ⟨_, Heap.get?_push_of_some _ (Heap.get?_push_size _ rfl), rfl, rfl⟩ ht ea st (h2 _ _ of) hfn hco hR
theorem pe_max {rE : Rc} (hE : SE u n rE) {z : Sc} (c : Cz u n z X W) (hl : z.lam = true) {o body : Expr} {E : Env → Store → R T} {ar : Arg} {scope : Scope} {p pos lpos kp : Pos} (ho : PE X o (RdE (gof u X) W E)) (hn : noStar o = true) (hg : Gl X "max") (hm : X.mg "max" = none) (hf : fsB ar.arg scope = true)
    (hb : rE ⟨[ar.arg], scope, fun _ => false, false⟩ body = some keyEx) :
    PE X (.Call (.Name "max" p) [o] [⟨some "key", .Lambda ⟨[], [ar], none, [], [], none, []⟩ body scope lpos, kp⟩] pos) (RdE (gof u X) W fun ρ S => (E ρ S).bind fun t S1 => opt (maxK t) S1) := by
  refine ⟨fun pins s σ H Q I h => ?_⟩
  obtain ⟨S, m, ρ, st, en, p'⟩ := h
  obtain ⟨r2, cc, P, tb1, tb2, tb3, tb4⟩ := c.lm hl
  have Sf := fs_by hf
  refine wpAny_Call_Name_kw (ld_blt I hg hm boot_max ?_ (by decide) (by decide))
  refine PyProof.Rows.callWith_kw ?_ (by rw [star_ok hn]; rfl) (by rw [star_ok hn]; rfl) (by rfl) (by rfl)
  rw [star_ok hn]
  show wpAny _ _ (spliced ((false, eval o X.env) :: backTo pos (starEach [] X.env))) _ _ s
  refine Calls.spliced_cons (thn (ho.run pins s σ H (fun v H1 => ∃ t S1 m1, Ext (gof u X) S m H S1 m1 H1 ∧ StRel (gof u X) S1 m1 H1 ∧ EncT (gof u X) H1 m1 S1.length t v ∧ Post (gof u X) W S1 m1 H1 σ (KE (gof u X) H Q) (opt (maxK t) S1)) I ⟨S, m, ρ, st, en, p'.bind.mono fun t S1 m1 H1 x1 st1 p1 v fv ev => ⟨t, S1, m1, x1, st1, ev, p1⟩⟩) fun x s1 ⟨v, H1, I1, rv, t, S1, m1, x1, st1, et, p1⟩ => ?_)
  refine Calls.spliced_nil ?_
  obtain ⟨res, e1, k1⟩ := Post.opt p1
  unfold maxK at e1
  split at e1
  · rename_i y rest
    split at e1
    · rename_i ky kr e2
      split at e1
      · rename_i hko
        cases e1
        obtain ⟨ky', kr', e3, hky, hkr⟩ := keysOf_cons e2
        cases e3
        obtain ⟨a, vs, rfl, ht, ea⟩ := et
        obtain rfl : x = Value.ref a := rv
        refine PyProof.Rows.kwAll_cons (LamX.lam_make2 I1 tb1 tb2 tb3 tb4 st1.tabs rfl (fun y hy e => absurd e (Sf.nofree y hy)) fun f c' pm ctv H2 s2 I2 eN T2 hf hfn hfr hco => PyProof.Rows.kwAll_nil ?_)
        rw [cloFrom_nf Sf.nofree] at hf
        obtain ⟨xN, stN⟩ := ext_N st1 eN T2
        refine max_run (key_ok (σ := σ) (S0 := S1) hE c.fx r2 Sf hfr hb (fun x => bind1 x)) c.c.calm c.c.un hky hkr (KOk.by hko) I2 (xN.tk a vs ht) (xN.encAll ea) stN hf hfn hco fun s' H' m' v u' q1 q2 q3 q4 q5 => ?_
        exact ⟨v, H', q1, q4, k1 m' H' (xN.trans q2) q3 v trivial q5⟩
      · cases e1
    · cases e1
  · cases e1
def cMax (u : Tb) (rE : Rc) (z : Sc) : Expr → Option Ex
  | .Call (.Name x p) [o] [⟨some kn, .Lambda ⟨[], [ar], none, [], [], none, []⟩ body scope lpos, kp⟩] pos =>
    if x = "max" ∧ kn = "key" ∧ z.lam = true ∧ glB z.sc x = true ∧ x ∈ u.blt ∧ fsB ar.arg scope = true ∧ noStar o = true then
      (match rE z o, rE ⟨[ar.arg], scope, fun _ => false, false⟩ body with
      | some y, some (.tup [.bi .sum [.ix (.v 0) (.c (.int 0))], .ix (.v 0) (.c (.int 0))]) => some (.maxk y)
      | _, _ => none) else none
  | _ => none
theorem cMax_ok {rE : Rc} (hE : SE u n rE) : SE u n (cMax u rE) := by
  intro z e x h X W c
  unfold cMax at h
  split at h
  · rename_i xn p o kn ar body scope lpos kp pos
    split at h
    · rename_i hq
      obtain ⟨rfl, rfl, q1, q2, q3, q4, q5⟩ := hq
      split at h
      · rename_i y e1 e2
        cases h
        exact pe_max hE c q1 (hE _ _ _ e1 _ _ c) q5 (gl_ok c q2) (c.fx.blt _ q3) q4 e2
      · cases h
    · cases h
  · cases h
/-- lambdas of this program -/
def Lall1 : LamC := fun u rE z e => orE (cNo u rE z e) (cMax u rE z e)
theorem Lall1_ok : SL u n Lall1 := fun rE hE z e x h X W c => by
  rcases orE_some h with h | h
  · exact cNo_ok hE _ _ _ h _ _ c
  · exact cMax_ok hE _ _ _ h _ _ c
end
end Ev
-- EvX4
set_option Elab.async false
set_option linter.all false
set_option maxRecDepth 100000
set_option maxHeartbeats 4000000
/-! EvX4: the compiler's further expressions. -/
namespace Ev
open PySem PySem.Spec PyProof.Rows L2
section
variable {u : Tb} {n : Nat}
/-- rows some of which are put in item by item -/
def cStars (r : Expr → Option Ex) : List Expr → Option (List Bool × List Ex)
  | [] => some ([], [])
  | .Starred e _ :: es => (match r e, cStars r es with
    | some x, some (bs, xs) => some (true :: bs, x :: xs)
    | _, _ => none)
  | e :: es => (match r e, cStars r es with
    | some x, some (bs, xs) => some (false :: bs, x :: xs)
    | _, _ => none)
theorem noStar_cases (e : Expr) : noStar e = true ∨ ∃ e' p, e = .Starred e' p := by
  cases e <;> first | exact .inl rfl | exact .inr ⟨_, _, rfl⟩
theorem cStars_ok {X : Cx} {W : WX} {C : Calls} {r : Expr → Option Ex} (hr : ∀ e x, r e = some x → PE X e (RdE (gof u X) W (ev C x).E)) : ∀ {es : List Expr} {bs : List Bool} {xs : List Ex}, cStars r es = some (bs, xs) → PA X es (RdM (gof u X) W (evMS bs (evs C xs)))
  | [], bs, xs, h => by
    cases h
    exact pa_s0
  | e :: es, bs, xs, h => by
    rcases noStar_cases e with hn | ⟨e', p, rfl⟩
    · have h' : (match r e, cStars r es with | some x, some (bs, xs) => some (false :: bs, x :: xs) | _, _ => none) = some (bs, xs) := by
        cases e <;> first | exact h | cases hn
      split at h'
      · rename_i x b1 x1 h1 h2
        cases h'
        exact pa_sF hn (hr _ _ h1) (cStars_ok hr h2)
      · cases h'
    · have h' : (match r e', cStars r es with | some x, some (bs, xs) => some (true :: bs, x :: xs) | _, _ => none) = some (bs, xs) := h
      split at h'
      · rename_i x b1 x1 h1 h2
        cases h'
        exact pa_sT (hr _ _ h1) (cStars_ok hr h2)
      · cases h'
def cX (u : Tb) (rE : Rc) (z : Sc) : Expr → Option Ex
  | .Name x _ => if glB z.sc x && !dbg x then (u.fnm.idxOf? x).map .gf else none
  | .Call (.Name x _) (e :: es) [] _ => if visB z.sc x && !dbg x && !cld x then (match z.N.idxOf? x, cEs (rE z) (e :: es) with
    | some i, some ys => some (.callv i ys)
    | _, _ => none) else none
  | .Tuple es _ _ => (cStars (rE z) es).map fun q => .tupS q.1 q.2
  | .Subscript (.Dict keys values _) k _ => if plainI k && decide (keys.length = values.length) && decide (keys.length ≤ 15) && !keys.isEmpty then (match strKs keys, cEs (rE z) values, rE z k with
    | some ks, some xs, some yk => if ks.Nodup ∧ ks.length ≤ 15 then some (.sel ks xs false yk (.c .non)) else none
    | _, _, _ => none) else none
  | .Call (.Attribute (.Dict keys values _) m apos) [k, d] [] cpos => if decide (m = "get") && (apos.endLine == cpos.line) && noStar k && noStar d && decide (keys.length = values.length) && !keys.isEmpty then (match strKs keys, cEs (rE z) values, rE z k, rE z d with
    | some ks, some xs, some yk, some yd => if ks.Nodup ∧ ks.length ≤ 15 then some (.sel ks xs true yk yd) else none
    | _, _, _, _ => none) else none
  | _ => none
theorem plainI_sl {k : Expr} (h : plainI k = true) : NoSl k := by
  cases k <;> first | (intro ov iv; rfl) | cases h
theorem cX_ok {rE : Rc} (hE : SE u n rE) : SE u n (cX u rE) := by
  intro z e x h X W c
  have rE' : ∀ e x, rE z e = some x → PE X e (RdE (gof u X) W (ev (callN u.F n) x).E) := fun e x h => hE z e x h X W c
  unfold cX at h
  split at h
  · rename_i y pos
    split at h
    · rename_i hg
      rw [Bool.and_eq_true] at hg
      cases h1 : u.fnm.idxOf? y with
      | none => rw [h1] at h; cases h
      | some f =>
        rw [h1] at h
        cases h
        exact pe_gf c.fx (idx_some h1) (gl_ok c hg.1) (by simpa [dbg] using hg.2)
    · cases h
  · rename_i y p e es pos
    split at h
    · rename_i hg
      rw [Bool.and_eq_true, Bool.and_eq_true] at hg
      split at h
      · rename_i i ys h1 h2
        cases h
        exact pe_clv c.fx c.c.tk c.rm (by rw [c.eN]; exact idx_some h1) (vis_ok c hg.1.1) (by simpa [dbg] using hg.1.2) (by simpa [cld] using hg.2) (cEs_star h2) (cEs_M rE' h2)
      · cases h
    · cases h
  · rename_i es k pos
    cases h1 : cStars (rE z) es with
    | none => rw [h1] at h; cases h
    | some q =>
      rw [h1] at h
      cases h
      exact pe_tupM (cStars_ok rE' (bs := q.1) (xs := q.2) h1)
  · rename_i keys values dpos k pos
    split at h
    · rename_i hg
      rw [Bool.and_eq_true, Bool.and_eq_true, Bool.and_eq_true, decide_eq_true_eq, decide_eq_true_eq] at hg
      obtain ⟨⟨⟨g1, g2⟩, g3⟩, g4⟩ := hg
      split at h
      · rename_i ks xs yk h1 h2 h3
        split at h
        · rename_i hq
          cases h
          exact pe_sel0 c.c.un rE' h1 h2 g2 hq.1 hq.2 (fun e => by rw [e] at g4; cases g4) (rE' _ _ h3) (plainI_sl g1)
        · cases h
      · cases h
    · cases h
  · rename_i keys values dpos m apos k d cpos
    split at h
    · rename_i hg
      rw [Bool.and_eq_true, Bool.and_eq_true, Bool.and_eq_true, Bool.and_eq_true, Bool.and_eq_true, decide_eq_true_eq, decide_eq_true_eq] at hg
      obtain ⟨⟨⟨⟨⟨g1, g2⟩, g3⟩, g4⟩, g5⟩, g6⟩ := hg
      subst g1
      split at h
      · rename_i ks xs yk yd h1 h2 h3 h4
        split at h
        · rename_i hq
          cases h
          exact pe_sel1 c.c.un rE' h1 h2 g5 hq.1 hq.2 (fun e => by rw [e] at g6; cases g6) (rE' _ _ h3) (rE' _ _ h4) g3 g4 g2
        · cases h
      · cases h
    · cases h
  · cases h
/-- all that is beyond the first -/
def Lall : LamC := fun u rE z e => orE (Lall1 u rE z e) (cX u rE z e)
theorem Lall_ok : SL u n Lall := fun rE hE z e x h X W c => by
  rcases orE_some h with h | h
  · exact Lall1_ok rE hE _ _ _ h _ _ c
  · exact cX_ok hE _ _ _ h _ _ c
end
end Ev
-- EvS21
set_option Elab.async false
set_option linter.all false
set_option maxRecDepth 100000
set_option maxHeartbeats 4000000
/-! EvS21: all defs of a text. -/
namespace Ev
open PySem PySem.Spec PyProof.Rows L2
def locB (sc : Scope) (x : Str) : Bool := decide (sc.names.lookup x = some .local) || decide (sc.names.lookup x = some .cell)
abbrev lamQ (x : Str) : Str := (x ++ ".<locals>.") ++ "<lambda>"
/-- one def of the text, as compiled -/
structure DefK (u : Tb) (g : Gx) (i : Nat) (x : Str) : Prop where
  ex : ∃ (a : Addr) (params : Arguments) (body : List Stmt) (scope : Scope) (fd : FuncData) (N ps : List Str) (f : Fd) (k j : Nat) (lam : Bool), g.mg x = some (.ref a) ∧ FunD g.K x x params body scope [] [] a fd ∧ L2.Binds g.K fd ps [] ∧ FnScope N ps scope ∧ u.F[i]? = some f ∧ f.np = ps.length ∧ f.nn = N.length ∧
    cSs Lall u k ⟨N, scope, locB scope, lam⟩ j body = some f.body ∧ (lam = true → ∃ c P, fd.code = .ref c ∧ LamX.TabB g.base g.mg c P ∧ (P, lamQ x) ∈ u.T ∧ ∀ p ∈ u.T, p.1 = P → p.2 = lamQ x)
/-- what is known of the module's names -/
structure Stat (u : Tb) (g : Gx) : Prop where
  con : ∀ x d, (x, d) ∈ u.con → ∃ v w, cV d = some v ∧ g.mg x = some w ∧ L2.RelV v w
  blt : ∀ x ∈ u.blt, g.mg x = none
  exc : ∀ x ∈ u.exc, ∃ C, g.mg x = some (.ref C)
  exm : ∀ x ∈ u.exc, ∀ y ∈ u.exc, ∀ cx cy, g.mg x = some cx → g.mg y = some cy → PySem.W.exmOne g.K cx cy = some (decide (x = y))
  exr : ∀ x ∈ u.exr, x ∈ u.exc ∧ ∃ C, g.mg x = some (.ref C) ∧ PySem.W.excIn g.K C [.type "ValueError", .type "Exception", .type "BaseException", .type "object"] "ValueError.__new__" = true ∧ PySem.W.keepIn g.K (.ref C) = true ∧
    PySem.W.subIn g.K (.ref C) (.type "BaseException") = some true ∧ PySem.W.typeIn g.K (.ref C) = some (.type "type")
  no : ∀ x e, u.no = some (x, e) → e ∈ u.exc ∧ (x == ("__debug__" : Str)) = false ∧ (e == ("__debug__" : Str)) = false ∧ ∃ (g0 : Addr) (pg : Arguments) (sg : Scope) (dV kV doc pm cdv ct oc : Value) (an od : Option Addr) (osl : Array (Option Value)) (a : Str) (Ng : List Str) (bg : List Stmt),
    g.mg x = some (.ref g0) ∧ PySem.W.keepIn g.K (.ref g0) = true ∧ PySem.W.codeIn g.K cdv x = true ∧ FnScope Ng [a] sg ∧ Ng[0]? = some a ∧ Vis sg a ∧ (a == ("__debug__" : Str)) = false ∧ (a == ("__classdict__" : Str)) = false ∧ sg.names.lookup e = some .globalImplicit ∧ NoB a e bg ∧
    g.K.lookup g0 = some ⟨oc, od, .func (PySem.W.fnOf x x pg bg sg dV kV doc pm an cdv ct), osl⟩ ∧ L2.Binds g.K (PySem.W.fnOf x x pg bg sg dV kV doc pm an cdv ct) [a] []
section
variable {u : Tb} {P : Program} {w : World} {K : PySem.W.Frag} {mg : Str → Option Value} {base : Heap}
abbrev gxOf (u : Tb) (P : Program) (w : World) (K : PySem.W.Frag) (mg : Str → Option Value) (base : Heap) : Gx := ⟨P, w, K, mg, base, u.fnm, u.T, u.exc⟩
theorem fax_all (st : Stat u (gxOf u P w K mg base)) (D : ∀ i x, u.fnm[i]? = some x → DefK u (gxOf u P w K mg base) i x) : ∀ n, Fax u n (gxOf u P w K mg base)
  | 0 => ⟨fun i x h => by
      obtain ⟨a, params, body, scope, fd, N, ps, f, k, j, lam, h1, F, hb, S, hF, hp, hn, hc, hl⟩ := (D i x h).ex
      refine ⟨a, fd, ps, h1, F.kp, hb, ⟨fun vs H Q E q => (spF_len hF q).trans hp, fun A outer s H args us vs Q E hr e0 hb r hs => ?_⟩⟩
      obtain ⟨S0, m, ds, _, _, p⟩ := hs
      exact p.elim, st.con, st.blt, st.exc, st.exm, st.exr, st.no⟩
  | n + 1 => ⟨fun i x h => by
      have fx := fax_all st D n
      obtain ⟨a, params, body, scope, fd, N, ps, f, k, j, lam, h1, F, hb, S, hF, hp, hn, hc, hl⟩ := (D i x h).ex
      obtain ⟨oc, od, dV, kV, doc, pm, an, cdv, ct, osl, rfl, lk, hcd, _, _⟩ := F.ex
      refine ⟨a, _, ps, h1, F.kp, hb, ?_⟩
      show FnOk P w K mg base (CX P w) (3 * n + 2 + 1) a _ ps (spF (gxOf u P w K mg base) u.F i (n + 1))
      refine fn_of lk hcd S (fun vs H Q E q => (spF_len hF q).trans hp) fun A outer s H vs Q E hr hs => ?_
      have hr1 : Room (3 * n) (A.deeper (envOfC x scope s.heap.objs.size a cdv)) := hr.mono (by omega)
      refine ⟨_, ((s_ok (Lall_ok) j).2 _ _ hc (cxOf (CX P w) P w K mg base N x scope a cdv A outer s H E) (fun cls d _ H' => E cls d H') ⟨⟨⟨S.nd, (fun y hy => ?_), rfl, takes_of rfl rfl rfl rfl, passes_of rfl, hr1.units⟩, rfl, rfl, hr1, fx, fun hl1 => ?_⟩, rfl, rfl⟩ n), body_run (fun _ _ _ _ q => q) hF hn hs⟩
      · refine ⟨?_, .inl rfl⟩
        have hy' : locB scope y = true := hy
        unfold locB at hy'
        rw [Bool.or_eq_true, decide_eq_true_eq, decide_eq_true_eq] at hy'
        exact hy'
      · obtain ⟨c, P', q1, q2, q3, q4⟩ := hl hl1
        exact ⟨hr, c, P', q2, q1, q3, q4⟩, st.con, st.blt, st.exc, st.exm, st.exr, st.no⟩
end
end Ev
-- EvS22
set_option Elab.async false
set_option linter.all false
set_option maxRecDepth 100000
set_option maxHeartbeats 4000000
/-! EvS22: the end of a law, by what the evaluator gives. -/
namespace Ev
open PySem PySem.Spec PyProof.Rows L2
section
variable {u : Tb} {P : Program} {w : World} {K : PySem.W.Frag} {mg : Str → Option Value} {base : Heap}
theorem encInts {g : Gx} {H : Hp} {m : Nat → Addr} {n : Nat} : ∀ ns : List Int, EncAll g H m n (ns.map D.int) (ns.map V.int)
  | [] => EncAll.nil
  | i :: r => EncAll.cons rfl (encInts r)
/-- what the evaluator gives of a law at a script -/
def LawEv (F : List Fd) (n i : Nat) : Prop := ∀ ns : List Int, ns.length ≤ 63 → (∀ z ∈ ns, Builtin.Int.intBits z ≤ 1048576) → ∃ S', callN F n i [.ref 0] [.ro (ns.map D.int)] = .ok (.v (.bl true)) S'
def spX (K : PySem.W.Frag) (cs : List (Addr × Addr)) : Sp := fun vs H Q E => ∃ (a : Addr) (ns : List Int), vs = [V.ref a] ∧ ns.length ≤ 63 ∧ (∀ z ∈ ns, Builtin.Int.intBits z ≤ 1048576) ∧ SqL K H a (ns.map V.int) ∧ (∀ p ∈ cs, H p.2 = some (.tbl #[])) ∧ ∀ H', Q (.bl true) H'
theorem spF_law {n i : Nat} (hL : LawEv u.F n i) {cs : List (Addr × Addr)} (hc : ∀ q ∈ u.T, ∃ p ∈ cs, p.2 = q.1) {a : Addr} {ns : List Int} {H : Hp} (h1 : ns.length ≤ 63) (h2 : ∀ z ∈ ns, Builtin.Int.intBits z ≤ 1048576)
    (hS : (∃ o, H a = some (.frz o (.lst (ns.map V.int)))) ∨ SqL K (fun _ => none) a (ns.map V.int)) (hT : ∀ p ∈ cs, H p.2 = some (.tbl #[])) :
    spF (gxOf u P w K mg base) u.F i n [.ref a] H (fun v _ => v = .bl true) (fun _ _ _ => False) := by
  obtain ⟨S', e⟩ := hL ns h1 h2
  refine ⟨[.ro (ns.map D.int)], fun _ => a, [.ref 0], ⟨fun i j hi hj li lj _ => ?_, ⟨_, rfl⟩, fun k xs e => ?_, fun k c e => ?_, fun q hq => ?_⟩, EncAll.cons ⟨Nat.one_pos, rfl⟩ EncAll.nil, ?_⟩
  · have : i < 1 := li
    omega
  · cases k with
    | zero => rfl
    | succ k => cases e
  · cases k with
    | zero =>
      cases e
      exact ⟨_, hS, encInts ns⟩
    | succ k => cases e
  · obtain ⟨p, hp, e1⟩ := hc q hq
    have z := hT p hp
    rw [e1] at z
    exact LamX.TabS.nil z
  · rw [e]
    exact fun m' H' x st v fv ev => ev
theorem law_run {n i k : Nat} {fa : Addr} {fd : FuncData} {x : Str} (hL : LawEv u.F n i) {cs : List (Addr × Addr)} (hc : ∀ q ∈ u.T, ∃ p ∈ cs, p.2 = q.1) (Fn : FnOk P w K mg base (L2.CX P w) k fa fd [x] (spF (gxOf u P w K mg base) u.F i n)) :
    FnOk P w K mg base (L2.CX P w) k fa fd [x] (spX K cs) := by
  refine ⟨fun vs H Q E ⟨a, ns, e, _⟩ => by rw [e]; rfl, fun A outer s H args us vs Q E hr e0 hb r ⟨a, ns, e, h1, h2, hS, hT, hQ⟩ => ?_⟩
  subst e
  have core : ∀ H2 : Hp, Env0 P w K mg base A outer s H2 → ((∃ o, H2 a = some (.frz o (.lst (ns.map V.int)))) ∨ SqL K (fun _ => none) a (ns.map V.int)) → (∀ p ∈ cs, H2 p.2 = some (.tbl #[])) →
      codeAny (model P w) A (.call (.ref fa) args) (CR (L2.CX P w) outer P w H2 s (fun v _ => v = .bl true) (fun _ _ _ => False)) s := fun H2 e2 q1 q2 => Fn.run A outer s H2 args us [.ref a] _ _ hr e2 hb r (spF_law hL hc h1 h2 q1 q2)
  have fin : ∀ H2 : Hp, (∀ H' s', Un (frs outer) [] H2 H' s.heap s' → Un (frs outer) [] H H' s.heap s') → ∀ r s', CR (L2.CX P w) outer P w H2 s (fun v _ => v = .bl true) (fun _ _ _ => False) r s' → CR (L2.CX P w) outer P w H s Q E r s' := fun H2 hu r s' h => by
    cases r with
    | error e =>
      obtain ⟨_, _, _, _, _, _, _, _, _, _, _, _, z⟩ := (show L2.CX P w outer H2 s (fun _ _ _ => False) e s' from h)
      exact z.elim
    | ok fl =>
      cases fl with
      | ret u =>
        obtain ⟨v, H', os, bare, un, hok, rv, q⟩ := (show CE outer P w H2 s (fun v _ => v = .bl true) u s' from h)
        subst q
        exact ⟨_, H', os, bare, hu H' s'.heap un, hok, rv, hQ H'⟩
      | next => exact False.elim h
      | brk => exact False.elim h
      | cont => exact False.elim h
  rcases hS with (hl | hl) | hl
  · obtain ⟨z, its, c0, rv, ho⟩ : ObjOk P w H s.heap a (.lst (ns.map V.int)) := e0.hok a _ hl
    have ne : ∀ {b u}, H b = some u → u ≠ .lst (ns.map V.int) → b ≠ a := fun {b u} e hn z => by
      rw [z, hl] at e
      exact hn (Option.some.inj e).symm
    have nn : ∀ {b}, H b = none → b ≠ a := fun {b} e z => by
      rw [z, hl] at e
      cases e
    have he : Env0 P w K mg base A outer s (upd H a (.frz { cls := .type "list", data := .seq its.toArray c0 } (.lst (ns.map V.int)))) := by
      refine ⟨e0.frames, e0.mod, fun b o e => ?_, e0.bsz, e0.funs, fun b hb => ?_, fun b u e => ?_, e0.bare⟩
      · obtain ⟨q1, q2⟩ := e0.bs b o e
        exact ⟨q1, by rw [upd_ne (nn q2)]; exact q2⟩
      · have q := e0.frf b hb
        rw [upd_ne (nn q)]
        exact q
      · have ow : ∀ c d, H c = some (.own d) → upd H a (.frz { cls := .type "list", data := .seq its.toArray c0 } (.lst (ns.map V.int))) c = some (.own d) := fun c d q => by
          rw [upd_ne (ne q (fun z => by cases z))]
          exact q
        have tp : ∀ c xs, H c = some (.tup xs) → upd H a (.frz { cls := .type "list", data := .seq its.toArray c0 } (.lst (ns.map V.int))) c = some (.tup xs) := fun c d q => by
          rw [upd_ne (ne q (fun z => by cases z))]
          exact q
        by_cases hb : b = a
        · rw [hb, upd_same] at e
          cases e
          rw [hb]
          exact ⟨ho, z, its, c0, rv, ho⟩
        · rw [upd_ne hb] at e
          exact (e0.hok b u e).stay (fun _ _ _ q => q) (fun c q => ow c b q) tp
    refine codeAny_mono (core _ he (.inl ⟨_, upd_same⟩) fun p hp => ?_) (fin _ fun H' s' un => ?_)
    · rw [upd_ne (ne (hT p hp) (fun z => by cases z))]
      exact hT p hp
    · have k0 : ∀ {b}, H b = none → upd H a (.frz { cls := .type "list", data := .seq its.toArray c0 } (.lst (ns.map V.int))) b = none := fun {b} q => by
        rw [upd_ne (nn q)]
        exact q
      refine ⟨fun b o e n => un.keep b o e (k0 n), fun b o e n => un.slot b o e (k0 n), fun b o e n => un.free b o e (k0 n), un.there, fun b xs e => un.tups b xs ?_, fun b o u e => un.frzs b o u ?_, fun b ps e => un.tbls b ps ?_⟩
      · rw [upd_ne (ne e (fun z => by cases z))]
        exact e
      · rw [upd_ne (ne e (fun z => by cases z))]
        exact e
      · rw [upd_ne (ne e (fun z => by cases z))]
        exact e
  · exact codeAny_mono (core H e0 (.inl hl) hT) (fin H fun _ _ q => q)
  · exact codeAny_mono (core H e0 (.inr (.inr hl)) hT) (fin H fun _ _ q => q)
end
end Ev
-- EvS23
set_option Elab.async false
set_option linter.all false
set_option maxRecDepth 100000
set_option maxHeartbeats 4000000
/-! EvS23: one def, by its own function object. -/
namespace Ev
open PySem PySem.Spec PyProof.Rows L2
theorem def_fn {u : Tb} {P : Program} {w : World} {K : PySem.W.Frag} {mg : Str → Option Value} {base : Heap} {n i : Nat} {x : Str} (fx : Fax u n (gxOf u P w K mg base)) {a : Addr} {params : Arguments} {body : List Stmt} {scope : Scope} {fd : FuncData} {N ps : List Str} {f : Fd} {k j : Nat} {lam : Bool}
    (F : FunD K x x params body scope [] [] a fd) (S : FnScope N ps scope) (hF : u.F[i]? = some f) (hp : f.np = ps.length) (hn : f.nn = N.length) (hc : cSs Lall u k ⟨N, scope, locB scope, lam⟩ j body = some f.body)
    (hl : lam = true → ∃ c P, fd.code = .ref c ∧ LamX.TabB base mg c P ∧ (P, lamQ x) ∈ u.T ∧ ∀ p ∈ u.T, p.1 = P → p.2 = lamQ x) : FnOk P w K mg base (L2.CX P w) (3 * n + 2 + 1) a fd ps (spF (gxOf u P w K mg base) u.F i (n + 1)) := by
  obtain ⟨oc, od, dV, kV, doc, pm, an, cdv, ct, osl, rfl, lk, hcd, _, _⟩ := F.ex
  refine fn_of lk hcd S (fun vs H Q E q => (spF_len hF q).trans hp) fun A outer s H vs Q E hr hs => ?_
  have hr1 : Room (3 * n) (A.deeper (envOfC x scope s.heap.objs.size a cdv)) := hr.mono (by omega)
  refine ⟨_, ((s_ok (Lall_ok) j).2 _ _ hc (cxOf (L2.CX P w) P w K mg base N x scope a cdv A outer s H E) (fun cls d _ H' => E cls d H') ⟨⟨⟨S.nd, (fun y hy => ?_), rfl, takes_of rfl rfl rfl rfl, passes_of rfl, hr1.units⟩, rfl, rfl, hr1, fx, fun hl1 => ?_⟩, rfl, rfl⟩ n), body_run (fun _ _ _ _ q => q) hF hn hs⟩
  · refine ⟨?_, .inl rfl⟩
    have hy' : locB scope y = true := hy
    unfold locB at hy'
    rw [Bool.or_eq_true, decide_eq_true_eq, decide_eq_true_eq] at hy'
    exact hy'
  · obtain ⟨c, P', q1, q2, q3, q4⟩ := hl hl1
    exact ⟨hr, c, P', q2, q1, q3, q4⟩
end Ev
-- F02
set_option Elab.async false
set_option linter.all false
set_option maxRecDepth 100000
set_option maxHeartbeats 4000000
/-! F02: the defs of law k02, as compiled. -/
namespace K02
open PySem Ev
def f_is_integer : Fd := ⟨1, 1,
  [St.ret (Ex.and [Ex.bi Bi.isInt [Ex.v 0], (Ex.bi Bi.isBool [Ex.v 0]).not])]⟩
def f_is_count : Fd := ⟨1, 1,
  [St.ret (Ex.and [Ex.call 0 [Ex.v 0], Ex.cmp Cm.ge (Ex.v 0) (Ex.c (D.int 0))])]⟩
def f_is_tuple_of : Fd := ⟨2, 3,
  [St.ret (Ex.and [Ex.bi Bi.isTup [Ex.v 0], Ex.bi Bi.all [Ex.lc [2] (Ex.callv 1 [Ex.v 2]) (Tg.v 2) (Ex.v 0) []]])]⟩
def f_is_small : Fd := ⟨1, 3,
  [St.asg (Tg.v 1) (Ex.bin Op2.pow (Ex.c (D.int 10)) (Ex.c (D.int 50))),
    St.for (Tg.v 2) (Ex.bi Bi.range [Ex.c (D.int 3)]) [St.asg (Tg.v 1) (Ex.bin Op2.mul (Ex.v 1) (Ex.v 1))],
    St.ret (Ex.chn Cm.lt Cm.lt (Ex.bin Op2.sub (Ex.c (D.int 0)) (Ex.v 1)) (Ex.v 0) (Ex.v 1))]⟩
def f_disk_of : Fd := ⟨1, 1,
  [St.ret
      (Ex.tup
        [Ex.c (D.int 0),
          Ex.tup [Ex.v 0, Ex.bin Op2.mul (Ex.tup [Ex.c (D.int 0)]) (Ex.bi Bi.len [Ex.v 0])], Ex.c D.non])]⟩
def f_counts_on : Fd := ⟨1, 1,
  [St.ret (((Ex.v 0).ix (Ex.c (D.int 1))).ix ((Ex.v 0).ix (Ex.c (D.int 0))))]⟩
def f_is_bank : Fd := ⟨2, 2,
  [St.ret (Ex.and [Ex.call 2 [Ex.v 0, Ex.gf 1], Ex.cmp Cm.eq (Ex.bi Bi.len [Ex.v 0]) (Ex.v 1)])]⟩
def f_is_disk : Fd := ⟨2, 3,
  [St.ite
      (Ex.or
        [(Ex.bi Bi.isTup [Ex.v 0]).not, Ex.cmp Cm.ne (Ex.bi Bi.len [Ex.v 0]) (Ex.c (D.int 3)),
          (Ex.call 1 [(Ex.v 0).ix (Ex.c (D.int 0))]).not,
          Ex.cmp Cm.gt ((Ex.v 0).ix (Ex.c (D.int 0))) (Ex.c (D.int 1))])
      [St.ret (Ex.c (D.bl false))] [],
    St.ite
      (Ex.or
        [(Ex.bi Bi.isTup [(Ex.v 0).ix (Ex.c (D.int 1))]).not,
          Ex.cmp Cm.ne (Ex.bi Bi.len [(Ex.v 0).ix (Ex.c (D.int 1))]) (Ex.c (D.int 2)),
          (Ex.bi Bi.all
              [Ex.lc [2] (Ex.call 6 [Ex.v 2, Ex.v 1]) (Tg.v 2) ((Ex.v 0).ix (Ex.c (D.int 1))) []]).not])
      [St.ret (Ex.c (D.bl false))] [],
    St.ret
      (Ex.or
        [Ex.cmp Cm.isN ((Ex.v 0).ix (Ex.c (D.int 2))) (Ex.c D.non),
          Ex.call 1 [(Ex.v 0).ix (Ex.c (D.int 2))]])]⟩
def f_begin : Fd := ⟨2, 2,
  [St.ret
      (Ex.tup
        [Ex.bin Op2.mul (Ex.tup [Ex.c (D.int 0)])
            (Ex.gc "MANY_REGISTERS"
              (D.int 16)),
          Ex.c (D.int 0), Ex.v 0, Ex.v 1])]⟩
def f_registers_in : Fd := ⟨1, 1,
  [St.ret ((Ex.v 0).ix (Ex.c (D.int 0)))]⟩
def f_place_in : Fd := ⟨1, 1,
  [St.ret ((Ex.v 0).ix (Ex.c (D.int 1)))]⟩
def f_disk_in : Fd := ⟨1, 1,
  [St.ret ((Ex.v 0).ix (Ex.c (D.int 2)))]⟩
def f_left_in : Fd := ⟨1, 1,
  [St.ret ((Ex.v 0).ix (Ex.c (D.int 3)))]⟩
def f_instruction_at : Fd := ⟨2, 2,
  [St.ite
      (Ex.or
        [(Ex.call 1 [Ex.v 1]).not, Ex.cmp Cm.ge (Ex.v 1) (Ex.bi Bi.len [(Ex.v 0).ix (Ex.c (D.int 2))])])
      [St.raise0 "Nothing"] [],
    St.ret (((Ex.v 0).ix (Ex.c (D.int 2))).ix (Ex.v 1))]⟩
def f_with_register : Fd := ⟨3, 3,
  [St.ret
      (Ex.tupS [true, false, true]
        [Ex.sl false true (Ex.v 0) (Ex.c D.non) (Ex.v 1), Ex.v 2,
          Ex.sl true false (Ex.v 0) (Ex.bin Op2.add (Ex.v 1) (Ex.c (D.int 1))) (Ex.c D.non)])]⟩
def f_in_figures : Fd := ⟨1, 1,
  [St.ite
      (Ex.and
        [(Ex.chn Cm.lt Cm.lt
              (Ex.bin Op2.sub (Ex.c (D.int 0))
                (Ex.gc "MOST_PLAIN"
                  (D.int 1000000000000000000000000000000000000000000000000000000000000)))
              (Ex.v 0)
              (Ex.gc "MOST_PLAIN"
                (D.int 1000000000000000000000000000000000000000000000000000000000000))).not,
          (Ex.call 3 [Ex.v 0]).not])
      [St.raise "" []] [],
    St.ret (Ex.v 0)]⟩
def f_reckoned : Fd := ⟨3, 5,
  [St.ite
      (Ex.cmp Cm.eq ((Ex.v 0).ix (Ex.c (D.int 0))) (Ex.c (D.str "pot")))
      [St.ret ((Ex.call 5 [Ex.v 2]).ix ((Ex.v 0).ix (Ex.c (D.int 2))))] [],
    St.ite
      (Ex.cmp Cm.eq ((Ex.v 0).ix (Ex.c (D.int 0))) (Ex.c (D.str "num")))
      [St.ret ((Ex.v 0).ix (Ex.c (D.int 2)))] [],
    St.par 3 4 ((Ex.v 1).ix ((Ex.v 0).ix (Ex.c (D.int 2))))
      ((Ex.v 1).ix ((Ex.v 0).ix (Ex.c (D.int 3)))),
    St.ite
      (Ex.cmp Cm.eq ((Ex.v 0).ix (Ex.c (D.int 0)))
        (Ex.c (D.str "plus")))
      [St.ret (Ex.call 15 [Ex.bin Op2.add (Ex.v 3) (Ex.v 4)])] [],
    St.ret
      (Ex.call 15
        [(Ex.cmp Cm.eq ((Ex.v 0).ix (Ex.c (D.int 0)))
                (Ex.c (D.str "minus"))).ife
            (Ex.bin Op2.sub (Ex.v 3) (Ex.v 4)) (Ex.bin Op2.mul (Ex.v 3) (Ex.v 4))])]⟩
def f_put_on : Fd := ⟨3, 5,
  [St.ite (Ex.cmp Cm.lt (Ex.v 2) (Ex.c (D.int 0)))
      [St.raise0 "Nothing"] [],
    St.asg (Tg.v 3) (Ex.bin Op2.sub (Ex.c (D.int 1)) ((Ex.v 0).ix (Ex.c (D.int 0)))),
    St.asg (Tg.v 4)
      (Ex.tupS [true, false, true]
        [Ex.sl false true (((Ex.v 0).ix (Ex.c (D.int 1))).ix (Ex.v 3)) (Ex.c D.non) (Ex.v 1), Ex.v 2,
          Ex.sl true false (((Ex.v 0).ix (Ex.c (D.int 1))).ix (Ex.v 3))
            (Ex.bin Op2.add (Ex.v 1) (Ex.c (D.int 1))) (Ex.c D.non)]),
    St.ret
      (Ex.tup
        [(Ex.v 0).ix (Ex.c (D.int 0)),
          (Ex.cmp Cm.eq (Ex.v 3) (Ex.c (D.int 0))).ife
            (Ex.tup [Ex.v 4, ((Ex.v 0).ix (Ex.c (D.int 1))).ix (Ex.c (D.int 1))])
            (Ex.tup [((Ex.v 0).ix (Ex.c (D.int 1))).ix (Ex.c (D.int 0)), Ex.v 4]),
          (Ex.v 0).ix (Ex.c (D.int 2))])]⟩
def f_kept_on : Fd := ⟨2, 2,
  [St.ite (Ex.cmp Cm.lt (Ex.v 1) (Ex.c (D.int 0)))
      [St.raise0 "Nothing"] [],
    St.ret (Ex.tupS [true, false] [Ex.sl false true (Ex.v 0) (Ex.c D.non) (Ex.c (D.int 2)), Ex.v 1])]⟩
def f_turned : Fd := ⟨1, 1,
  [St.ret
      (Ex.tup
        [Ex.bin Op2.sub (Ex.c (D.int 1)) ((Ex.v 0).ix (Ex.c (D.int 0))),
          (Ex.v 0).ix (Ex.c (D.int 1)), Ex.c D.non])]⟩
def f_written_step : Fd := ⟨2, 7,
  [St.asg (Tg.tup [Tg.v 2, Tg.v 3, Tg.v 4, Tg.v 5]) (Ex.v 1),
    St.ite
      (Ex.cmp Cm.eq ((Ex.v 0).ix (Ex.c (D.int 0)))
        (Ex.c (D.str "keep")))
      [St.ret
          (Ex.tup
            [Ex.tup
                [Ex.v 2, Ex.bin Op2.add (Ex.v 3) (Ex.c (D.int 1)),
                  Ex.call 18 [Ex.v 4, (Ex.v 2).ix ((Ex.v 0).ix (Ex.c (D.int 1)))], Ex.v 5],
              Ex.tup
                [Ex.c (D.str "keep"),
                  (Ex.v 2).ix ((Ex.v 0).ix (Ex.c (D.int 1)))]])]
      [],
    St.ite
      (Ex.cmp Cm.eq ((Ex.v 0).ix (Ex.c (D.int 0))) (Ex.c (D.str "put")))
      [St.asg (Tg.v 6)
          (Ex.tup
            [Ex.v 2, Ex.bin Op2.add (Ex.v 3) (Ex.c (D.int 1)),
              Ex.call 17
                [Ex.v 4, (Ex.v 0).ix (Ex.c (D.int 1)),
                  (Ex.v 2).ix ((Ex.v 0).ix (Ex.c (D.int 2)))],
              Ex.v 5]),
        St.ret
          (Ex.tup
            [Ex.v 6,
              Ex.tup
                [Ex.c (D.str "put"), (Ex.v 0).ix (Ex.c (D.int 1)),
                  (Ex.v 2).ix ((Ex.v 0).ix (Ex.c (D.int 2)))]])]
      [],
    St.ite
      (Ex.cmp Cm.eq ((Ex.v 0).ix (Ex.c (D.int 0)))
        (Ex.c (D.str "turn")))
      [St.ret
          (Ex.tup
            [Ex.tup [Ex.v 2, Ex.bin Op2.add (Ex.v 3) (Ex.c (D.int 1)), Ex.call 19 [Ex.v 4], Ex.v 5],
              Ex.tup [Ex.c (D.str "turn")]])]
      [],
    St.ret
      (Ex.tup
        [Ex.tup [Ex.v 2, Ex.c D.non, Ex.v 4, Ex.v 5],
          Ex.tup [Ex.c (D.str "rest")]])]⟩
def f_step : Fd := ⟨2, 8,
  [St.asg (Tg.tup [Tg.v 2, Tg.v 3, Tg.v 4, Tg.v 5]) (Ex.v 1), St.asg (Tg.v 6) (Ex.call 13 [Ex.v 0, Ex.v 3]),
    St.ite
      (Ex.isin false ((Ex.v 6).ix (Ex.c (D.int 0)))
        (Ex.tup
          [Ex.c (D.str "keep"),
            Ex.c (D.str "put"),
            Ex.c (D.str "turn"),
            Ex.c (D.str "rest")]))
      [St.ret (Ex.call 20 [Ex.v 6, Ex.v 1])] [],
    St.ite
      (Ex.cmp Cm.eq ((Ex.v 6).ix (Ex.c (D.int 0)))
        (Ex.c (D.str "jump")))
      [St.ret (Ex.tup [Ex.tup [Ex.v 2, (Ex.v 6).ix (Ex.c (D.int 1)), Ex.v 4, Ex.v 5], Ex.c D.non])] [],
    St.ite
      (Ex.cmp Cm.eq ((Ex.v 6).ix (Ex.c (D.int 0)))
        (Ex.c (D.str "under")))
      [St.ret
          (Ex.tup
            [Ex.tup
                [Ex.v 2,
                  (Ex.cmp Cm.lt ((Ex.v 2).ix ((Ex.v 6).ix (Ex.c (D.int 1))))
                        ((Ex.v 2).ix ((Ex.v 6).ix (Ex.c (D.int 2))))).ife
                    ((Ex.v 6).ix (Ex.c (D.int 3))) (Ex.bin Op2.add (Ex.v 3) (Ex.c (D.int 1))),
                  Ex.v 4, Ex.v 5],
              Ex.c D.non])]
      [],
    St.ite
      (Ex.cmp Cm.eq ((Ex.v 6).ix (Ex.c (D.int 0)))
        (Ex.c (D.str "kept")))
      [St.ite (Ex.cmp Cm.isN ((Ex.v 4).ix (Ex.c (D.int 2))) (Ex.c D.non))
          [St.ret (Ex.tup [Ex.tup [Ex.v 2, (Ex.v 6).ix (Ex.c (D.int 2)), Ex.v 4, Ex.v 5], Ex.c D.non])] [],
        St.ret
          (Ex.tup
            [Ex.tup
                [Ex.call 14
                    [Ex.v 2, (Ex.v 6).ix (Ex.c (D.int 1)), (Ex.v 4).ix (Ex.c (D.int 2))],
                  Ex.bin Op2.add (Ex.v 3) (Ex.c (D.int 1)), Ex.v 4, Ex.v 5],
              Ex.c D.non])]
      [],
    St.ite
      (Ex.cmp Cm.eq ((Ex.v 6).ix (Ex.c (D.int 0)))
        (Ex.c (D.str "toss")))
      [St.ite (Ex.cmp Cm.eq (Ex.v 5) (Ex.tup []))
          [St.ret (Ex.tup [Ex.v 1, Ex.tup [Ex.c (D.str "empty")]])] [],
        St.asg (Tg.v 7)
          (Ex.call 14
            [Ex.v 2, (Ex.v 6).ix (Ex.c (D.int 1)),
              Ex.call 15
                [Ex.bin Op2.add
                    (Ex.bin Op2.mul (Ex.c (D.int 2))
                      ((Ex.v 2).ix ((Ex.v 6).ix (Ex.c (D.int 1)))))
                    ((Ex.v 5).ix (Ex.c (D.int 0)))]]),
        St.ret
          (Ex.tup
            [Ex.tup
                [Ex.v 7, Ex.bin Op2.add (Ex.v 3) (Ex.c (D.int 1)), Ex.v 4,
                  Ex.sl true false (Ex.v 5) (Ex.c (D.int 1)) (Ex.c D.non)],
              Ex.c D.non])]
      [],
    St.ret
      (Ex.tup
        [Ex.tup
            [Ex.call 14 [Ex.v 2, (Ex.v 6).ix (Ex.c (D.int 1)), Ex.call 16 [Ex.v 6, Ex.v 2, Ex.v 4]],
              Ex.bin Op2.add (Ex.v 3) (Ex.c (D.int 1)), Ex.v 4, Ex.v 5],
          Ex.c D.non])]⟩
def f_check_most : Fd := ⟨1, 1,
  [St.ite
      (Ex.or
        [(Ex.call 1 [Ex.v 0]).not,
          Ex.cmp Cm.gt (Ex.v 0)
            (Ex.gc "MOST_GONE" (D.int 1000000))])
      [St.raise0 "Nothing"] []]⟩
def f_gone : Fd := ⟨3, 7,
  [St.ex (Ex.call 22 [Ex.v 2]), St.par 3 4 (Ex.v 1) (Ex.lst []),
    St.for (Tg.v 5) (Ex.bi Bi.range [Ex.v 2])
      [St.ite (Ex.cmp Cm.isN ((Ex.v 3).ix (Ex.c (D.int 1))) (Ex.c D.non)) [St.brk] [],
        St.asg (Tg.tup [Tg.v 3, Tg.v 6]) (Ex.call 21 [Ex.v 0, Ex.v 3]),
        St.ext (Ex.v 4) ((Ex.cmp Cm.isN (Ex.v 6) (Ex.c D.non)).ife (Ex.lst []) (Ex.lst [Ex.v 6])),
        St.ite (Ex.cmp Cm.eq (Ex.v 6) (Ex.tup [Ex.c (D.str "empty")]))
          [St.brk] []],
    St.ret (Ex.tup [Ex.v 3, Ex.bi Bi.tuple [Ex.v 4]])]⟩
def f__law_bag : Fd := ⟨1, 2,
  [St.ret
      (Ex.lst
        [Ex.c (D.int 0), Ex.c (D.int 1234567891), Ex.c (D.int 0),
          Ex.lc [1] (Ex.bi Bi.abs [Ex.v 1]) (Tg.v 1)
            (Ex.sl false true (Ex.v 0) (Ex.c D.non) (Ex.c (D.int 63))) []])]⟩
def f__law_take : Fd := ⟨2, 7,
  [St.ite (Ex.cmp Cm.eq ((Ex.v 0).ix (Ex.c (D.int 0))) (Ex.c (D.int 0)))
      [St.asg (Tg.v 2)
          ((Ex.bin Op2.add
                (Ex.sl true false ((Ex.v 0).ix (Ex.c (D.int 3))) ((Ex.v 0).ix (Ex.c (D.int 2)))
                  (Ex.c D.non))
                (Ex.lst [Ex.c (D.int 0)])).ix
            (Ex.c (D.int 0))),
        St.augi (Ex.v 0) (Ex.c (D.int 2)) Op2.add (Ex.c (D.int 1)),
        St.ite (Ex.cmp Cm.ge (Ex.v 2) (Ex.bin Op2.pow (Ex.c (D.int 10)) (Ex.c (D.int 18))))
          [St.seti (Ex.v 0) (Ex.c (D.int 0)) (Ex.v 2)] [],
        St.asg (Tg.v 3)
          (Ex.bin Op2.add
            (Ex.bin Op2.add (Ex.bin Op2.mul ((Ex.v 0).ix (Ex.c (D.int 1))) (Ex.c (D.int 48271)))
              (Ex.bin Op2.mod (Ex.bi Bi.int [Ex.v 2]) (Ex.c (D.int 2147483647))))
            (Ex.bin Op2.mul (Ex.c (D.int 7919)) ((Ex.v 0).ix (Ex.c (D.int 2))))),
        St.seti (Ex.v 0) (Ex.c (D.int 1))
          (Ex.bin Op2.mod (Ex.bi Bi.int [Ex.v 3]) (Ex.c (D.int 2147483647)))]
      [],
    St.ite (Ex.cmp Cm.gt ((Ex.v 0).ix (Ex.c (D.int 0))) (Ex.c (D.int 0)))
      [St.asg (Tg.v 4) (Ex.bin Op2.mod (Ex.bi Bi.int [(Ex.v 0).ix (Ex.c (D.int 0))]) (Ex.v 1)),
        St.seti (Ex.v 0) (Ex.c (D.int 0))
          (Ex.bin Op2.fdiv (Ex.bi Bi.int [(Ex.v 0).ix (Ex.c (D.int 0))]) (Ex.v 1)),
        St.ret (Ex.v 4)]
      [],
    St.asg (Tg.v 5)
      (Ex.bin Op2.mod
        (Ex.bi Bi.int
          [Ex.bin Op2.mul (Ex.bin Op2.add ((Ex.v 0).ix (Ex.c (D.int 1))) (Ex.c (D.int 1)))
              (Ex.c (D.int 39373))])
        (Ex.c (D.int 1000000007))),
    St.asg (Tg.v 6)
      (Ex.bin Op2.mod
        (Ex.bi Bi.int
          [Ex.bin Op2.mul
              (Ex.bin Op2.mod (Ex.bi Bi.int [Ex.bin Op2.mul (Ex.v 5) (Ex.v 5)]) (Ex.c (D.int 998244353)))
              (Ex.c (D.int 30011))])
        (Ex.c (D.int 998244353))),
    St.ret (Ex.bin Op2.mod (Ex.bi Bi.int [Ex.bin Op2.fdiv (Ex.v 6) (Ex.c (D.int 7))]) (Ex.v 1))]⟩
def f__law_some : Fd := ⟨2, 2,
  [St.ret ((Ex.v 1).ix (Ex.call 25 [Ex.v 0, Ex.bi Bi.len [Ex.v 1]]))]⟩
def f__law_instruction : Fd := ⟨3, 9,
  [St.asg (Tg.v 3)
      (Ex.lst
        [Ex.c (D.str "pot"), Ex.c (D.str "num"),
          Ex.c (D.str "plus"),
          Ex.c (D.str "minus"),
          Ex.c (D.str "times"),
          Ex.c (D.str "toss"),
          Ex.c (D.str "toss"),
          Ex.c (D.str "under"),
          Ex.c (D.str "jump"),
          Ex.c (D.str "kept"),
          Ex.c (D.str "keep"),
          Ex.c (D.str "put"),
          Ex.c (D.str "turn")]),
    St.asg (Tg.v 4) (Ex.call 26 [Ex.v 0, Ex.v 3]),
    St.asg (Tg.tup [Tg.v 5, Tg.v 6, Tg.v 7, Tg.v 8])
      (Ex.tup
        [Ex.call 25 [Ex.v 0, Ex.c (D.int 4)], Ex.call 25 [Ex.v 0, Ex.c (D.int 4)],
          Ex.call 25 [Ex.v 0, Ex.c (D.int 4)], Ex.call 25 [Ex.v 0, Ex.v 2]]),
    St.ite (Ex.cmp Cm.eq (Ex.v 4) (Ex.c (D.str "pot")))
      [St.ret (Ex.tup [Ex.v 4, Ex.v 5, Ex.call 25 [Ex.v 0, Ex.v 1]])] [],
    St.ite (Ex.cmp Cm.eq (Ex.v 4) (Ex.c (D.str "num")))
      [St.ret (Ex.tup [Ex.v 4, Ex.v 5, Ex.call 25 [Ex.v 0, Ex.c (D.int 5)]])] [],
    St.ite
      (Ex.isin false (Ex.v 4)
        (Ex.tup
          [Ex.c (D.str "plus"),
            Ex.c (D.str "minus"),
            Ex.c (D.str "times")]))
      [St.ret (Ex.tup [Ex.v 4, Ex.v 5, Ex.v 6, Ex.v 7])] [],
    St.ite (Ex.cmp Cm.eq (Ex.v 4) (Ex.c (D.str "under")))
      [St.ret (Ex.tup [Ex.v 4, Ex.v 5, Ex.v 6, Ex.v 8])] [],
    St.ite
      (Ex.isin false (Ex.v 4)
        (Ex.tup
          [Ex.c (D.str "toss"),
            Ex.c (D.str "keep")]))
      [St.ret (Ex.tup [Ex.v 4, Ex.v 5])] [],
    St.ite (Ex.cmp Cm.eq (Ex.v 4) (Ex.c (D.str "put")))
      [St.ret (Ex.tup [Ex.v 4, Ex.call 25 [Ex.v 0, Ex.v 1], Ex.v 5])] [],
    St.ret
      (Ex.sel ["jump", "kept"]
        [Ex.tup [Ex.v 4, Ex.v 8], Ex.tup [Ex.v 4, Ex.v 5, Ex.v 8]] true (Ex.v 4) (Ex.tup [Ex.v 4]))]⟩
def f__law_own_step : Fd := ⟨2, 17,
  [St.asg (Tg.tup [Tg.v 2, Tg.v 3, Tg.v 4, Tg.v 5]) (Ex.v 1),
    St.par 6 7 (((Ex.v 0).ix (Ex.c (D.int 2))).ix (Ex.v 3)) (Ex.bi Bi.list [Ex.v 2]),
    St.asg (Tg.tup [Tg.v 8, Tg.v 9, Tg.v 10, Tg.v 11])
      (Ex.tup
        [(Ex.v 6).ix (Ex.c (D.int 0)), (Ex.v 4).ix (Ex.c (D.int 0)),
          Ex.bi Bi.list [(Ex.v 4).ix (Ex.c (D.int 1))], (Ex.v 4).ix (Ex.c (D.int 2))]),
    St.par 12 13 (Ex.bin Op2.add (Ex.v 3) (Ex.c (D.int 1))) (Ex.c D.non),
    St.ite (Ex.cmp Cm.eq (Ex.v 8) (Ex.c (D.str "pot")))
      [St.seti (Ex.v 7) ((Ex.v 6).ix (Ex.c (D.int 1)))
          (((Ex.v 10).ix (Ex.v 9)).ix ((Ex.v 6).ix (Ex.c (D.int 2))))]
      [St.ite (Ex.cmp Cm.eq (Ex.v 8) (Ex.c (D.str "num")))
          [St.seti (Ex.v 7) ((Ex.v 6).ix (Ex.c (D.int 1))) ((Ex.v 6).ix (Ex.c (D.int 2)))]
          [St.ite
              (Ex.isin false (Ex.v 8)
                (Ex.tup
                  [Ex.c (D.str "plus"),
                    Ex.c (D.str "minus"),
                    Ex.c (D.str "times")]))
              [St.par 14 15 ((Ex.v 2).ix ((Ex.v 6).ix (Ex.c (D.int 2))))
                  ((Ex.v 2).ix ((Ex.v 6).ix (Ex.c (D.int 3)))),
                St.seti (Ex.v 7) ((Ex.v 6).ix (Ex.c (D.int 1)))
                  (Ex.sel
                    ["plus", "minus",
                      "times"]
                    [Ex.bin Op2.add (Ex.v 14) (Ex.v 15), Ex.bin Op2.sub (Ex.v 14) (Ex.v 15),
                      Ex.bin Op2.mul (Ex.v 14) (Ex.v 15)]
                    false (Ex.v 8) (Ex.c D.non))]
              [St.ite (Ex.cmp Cm.eq (Ex.v 8) (Ex.c (D.str "toss")))
                  [St.ite (Ex.cmp Cm.eq (Ex.v 5) (Ex.tup []))
                      [St.ret
                          (Ex.tup [Ex.v 1, Ex.tup [Ex.c (D.str "empty")]])]
                      [],
                    St.subn (Ex.v 7) ((Ex.v 6).ix (Ex.c (D.int 1))) 5
                      (Ex.bin Op2.add
                        (Ex.bin Op2.mul (Ex.c (D.int 2))
                          ((Ex.v 2).ix ((Ex.v 6).ix (Ex.c (D.int 1)))))
                        ((Ex.v 5).ix (Ex.c (D.int 0))))
                      (Ex.sl true false (Ex.v 5) (Ex.c (D.int 1)) (Ex.c D.non))]
                  [St.ite (Ex.cmp Cm.eq (Ex.v 8) (Ex.c (D.str "under")))
                      [St.asg (Tg.v 12)
                          ((Ex.cmp Cm.lt ((Ex.v 2).ix ((Ex.v 6).ix (Ex.c (D.int 1))))
                                ((Ex.v 2).ix ((Ex.v 6).ix (Ex.c (D.int 2))))).ife
                            ((Ex.v 6).ix (Ex.c (D.int 3))) (Ex.v 12))]
                      [St.ite (Ex.cmp Cm.eq (Ex.v 8) (Ex.c (D.str "jump")))
                          [St.asg (Tg.v 12) ((Ex.v 6).ix (Ex.c (D.int 1)))]
                          [St.ite (Ex.cmp Cm.eq (Ex.v 8) (Ex.c (D.str "kept")))
                              [St.asg (Tg.v 12)
                                  ((Ex.cmp Cm.isN (Ex.v 11) (Ex.c D.non)).ife ((Ex.v 6).ix (Ex.c (D.int 2)))
                                    (Ex.v 12)),
                                St.seti (Ex.v 7) ((Ex.v 6).ix (Ex.c (D.int 1)))
                                  ((Ex.cmp Cm.isN (Ex.v 11) (Ex.c D.non)).ife
                                    ((Ex.v 2).ix ((Ex.v 6).ix (Ex.c (D.int 1)))) (Ex.v 11))]
                              [St.ite
                                  (Ex.cmp Cm.eq (Ex.v 8) (Ex.c (D.str "keep")))
                                  [St.par 11 13 ((Ex.v 2).ix ((Ex.v 6).ix (Ex.c (D.int 1))))
                                      (Ex.tup
                                        [Ex.c (D.str "keep"),
                                          (Ex.v 2).ix ((Ex.v 6).ix (Ex.c (D.int 1)))])]
                                  [St.ite
                                      (Ex.cmp Cm.eq (Ex.v 8) (Ex.c (D.str "put")))
                                      [St.asg (Tg.v 16)
                                          (Ex.bi Bi.list
                                            [(Ex.v 10).ix (Ex.bin Op2.sub (Ex.c (D.int 1)) (Ex.v 9))]),
                                        St.seti (Ex.v 16) ((Ex.v 6).ix (Ex.c (D.int 1)))
                                          ((Ex.v 2).ix ((Ex.v 6).ix (Ex.c (D.int 2)))),
                                        St.subn (Ex.v 10) (Ex.bin Op2.sub (Ex.c (D.int 1)) (Ex.v 9)) 13
                                          (Ex.bi Bi.tuple [Ex.v 16])
                                          (Ex.tup
                                            [Ex.c (D.str "put"),
                                              (Ex.v 6).ix (Ex.c (D.int 1)),
                                              (Ex.v 2).ix ((Ex.v 6).ix (Ex.c (D.int 2)))])]
                                      [St.ite
                                          (Ex.cmp Cm.eq (Ex.v 8)
                                            (Ex.c (D.str "turn")))
                                          [St.par3 9 11 13 (Ex.bin Op2.sub (Ex.c (D.int 1)) (Ex.v 9))
                                              (Ex.c D.non)
                                              (Ex.tup [Ex.c (D.str "turn")])]
                                          [St.asg (Tg.tup [Tg.v 12, Tg.v 13])
                                              (Ex.tup
                                                [Ex.c D.non,
                                                  Ex.tup
                                                    [Ex.c
                                                        (D.str
                                                          "rest")]])]]]]]]]]]],
    St.ite
      (Ex.and
        [Ex.cmp Cm.noN (Ex.v 13) (Ex.c D.non), Ex.cmp Cm.gt (Ex.bi Bi.len [Ex.v 13]) (Ex.c (D.int 1)),
          Ex.cmp Cm.lt ((Ex.v 13).ix (Ex.c (D.int 1)).neg) (Ex.c (D.int 0))])
      [St.ret (Ex.c D.non)] [],
    St.ret
      (Ex.tup
        [Ex.tup [Ex.bi Bi.tuple [Ex.v 7], Ex.v 12, Ex.tup [Ex.v 9, Ex.bi Bi.tuple [Ex.v 10], Ex.v 11], Ex.v 5],
          Ex.v 13])]⟩
def f_law : Fd := ⟨1, 21,
  [St.asg (Tg.v 1) (Ex.call 24 [Ex.v 0]),
    St.for (Tg.v 2) (Ex.bi Bi.range [Ex.c (D.int 5)])
      [St.asg (Tg.tup [Tg.v 3, Tg.v 4])
          (Ex.tup
            [Ex.bin Op2.add (Ex.c (D.int 1)) (Ex.call 25 [Ex.v 1, Ex.c (D.int 2)]),
              Ex.bin Op2.add (Ex.c (D.int 4)) (Ex.call 25 [Ex.v 1, Ex.c (D.int 8)])]),
        St.asg (Tg.v 5)
          (Ex.bin Op2.add
            (Ex.lc [6] (Ex.call 27 [Ex.v 1, Ex.v 3, Ex.v 4]) (Tg.v 6)
              (Ex.bi Bi.range [Ex.bin Op2.sub (Ex.v 4) (Ex.c (D.int 1))]) [])
            (Ex.lst [Ex.tup [Ex.c (D.str "rest")]])),
        St.asg (Tg.tup [Tg.v 7, Tg.v 8])
          (Ex.tup
            [Ex.tup [Ex.c (D.str "w"), Ex.v 3, Ex.bi Bi.tuple [Ex.v 5]],
              Ex.bi Bi.tuple
                [Ex.lc [6] (Ex.call 25 [Ex.v 1, Ex.c (D.int 2)]) (Tg.v 6)
                    (Ex.bi Bi.range [Ex.call 25 [Ex.v 1, Ex.c (D.int 7)]]) []]]),
        St.asg (Tg.v 9)
          (Ex.bi Bi.tuple
            [Ex.lc [6] (Ex.call 25 [Ex.v 1, Ex.c (D.int 4)]) (Tg.v 6) (Ex.bi Bi.range [Ex.v 3]) []]),
        St.asg (Tg.v 10)
          (Ex.bi Bi.tuple
            [Ex.lc [6] (Ex.call 25 [Ex.v 1, Ex.c (D.int 4)]) (Tg.v 6) (Ex.bi Bi.range [Ex.v 3]) []]),
        St.asg (Tg.v 11)
          (Ex.call 26
            [Ex.v 1,
              Ex.lst
                [Ex.call 4 [Ex.v 9],
                  Ex.tup [Ex.c (D.int 1), Ex.tup [Ex.v 10, Ex.v 9], Ex.c (D.int 2)],
                  Ex.tup [Ex.c (D.int 0), Ex.tup [Ex.v 9, Ex.v 10], Ex.c D.non]]]),
        St.ite
          (Ex.or
            [Ex.cmp Cm.ne (Ex.call 5 [Ex.v 11]) (Ex.v 9), (Ex.call 7 [Ex.v 11, Ex.v 3]).not,
              Ex.cmp Cm.ne (Ex.call 4 [Ex.v 9])
                (Ex.tup
                  [Ex.c (D.int 0),
                    Ex.tup [Ex.v 9, Ex.bin Op2.mul (Ex.tup [Ex.c (D.int 0)]) (Ex.v 3)], Ex.c D.non])])
          [St.ret (Ex.c (D.bl false))] [],
        St.asg (Tg.tup [Tg.v 12, Tg.v 13]) (Ex.tup [Ex.call 8 [Ex.v 11, Ex.v 8], Ex.lst []]),
        St.ite
          (Ex.cmp Cm.ne (Ex.v 12)
            (Ex.tup
              [Ex.bin Op2.mul (Ex.tup [Ex.c (D.int 0)]) (Ex.c (D.int 16)),
                Ex.c (D.int 0), Ex.v 11, Ex.v 8]))
          [St.ret (Ex.c (D.bl false))] [],
        St.for (Tg.v 14) (Ex.bi Bi.range [Ex.c (D.int 30)])
          [St.ite
              (Ex.cmp Cm.ne
                (Ex.tup [Ex.call 9 [Ex.v 12], Ex.call 10 [Ex.v 12], Ex.call 11 [Ex.v 12], Ex.call 12 [Ex.v 12]])
                (Ex.v 12))
              [St.ret (Ex.c (D.bl false))] [],
            St.ite
              (Ex.or
                [Ex.cmp Cm.isN ((Ex.v 12).ix (Ex.c (D.int 1))) (Ex.c D.non),
                  Ex.cmp Cm.gt
                    (Ex.bi Bi.max1
                      [Ex.lc [15] (Ex.bi Bi.abs [Ex.v 15]) (Tg.v 15) ((Ex.v 12).ix (Ex.c (D.int 0))) []])
                    (Ex.bin Op2.pow (Ex.c (D.int 10)) (Ex.c (D.int 60)))])
              [St.brk] [],
            St.asg (Tg.v 16) (Ex.call 28 [Ex.v 7, Ex.v 12]),
            St.ite
              (Ex.cmp Cm.ne (Ex.call 13 [Ex.v 7, (Ex.v 12).ix (Ex.c (D.int 1))])
                ((Ex.v 5).ix ((Ex.v 12).ix (Ex.c (D.int 1)))))
              [St.ret (Ex.c (D.bl false))] [],
            St.ite (Ex.cmp Cm.isN (Ex.v 16) (Ex.c D.non))
              [St.ite
                  (Ex.isNo "Nothing"
                      (Ex.call 21 [Ex.v 7, Ex.v 12])).not
                  [St.ret (Ex.c (D.bl false))] [],
                St.brk]
              [],
            St.ite (Ex.cmp Cm.ne (Ex.call 21 [Ex.v 7, Ex.v 12]) (Ex.v 16)) [St.ret (Ex.c (D.bl false))] [],
            St.asg (Tg.v 12) ((Ex.v 16).ix (Ex.c (D.int 0))),
            St.ext (Ex.v 13)
              ((Ex.cmp Cm.isN ((Ex.v 16).ix (Ex.c (D.int 1))) (Ex.c D.non)).ife (Ex.lst [])
                (Ex.lst [(Ex.v 16).ix (Ex.c (D.int 1))])),
            St.ite
              (Ex.cmp Cm.eq ((Ex.v 16).ix (Ex.c (D.int 1)))
                (Ex.tup [Ex.c (D.str "empty")]))
              [St.brk] [],
            St.ite
              (Ex.cmp Cm.ne
                (Ex.call 23
                  [Ex.v 7, Ex.call 8 [Ex.v 11, Ex.v 8], Ex.bin Op2.add (Ex.v 14) (Ex.c (D.int 1))])
                (Ex.tup [Ex.v 12, Ex.bi Bi.tuple [Ex.v 13]]))
              [St.ret (Ex.c (D.bl false))] []],
        St.asg (Tg.v 17)
          (Ex.lst
            [Ex.c D.non,
              Ex.tup
                [Ex.c (D.int 2),
                  Ex.tup [Ex.tup [Ex.c (D.int 0)], Ex.tup [Ex.c (D.int 0)]], Ex.c D.non],
              Ex.tup [Ex.c (D.int 0), Ex.tup [Ex.tup [Ex.c (D.int 0)]], Ex.c D.non],
              Ex.tup
                [Ex.c (D.int 0),
                  Ex.tup [Ex.tup [Ex.c (D.int 0)], Ex.tup [Ex.c (D.int 0)]],
                  (Ex.c (D.int 1)).neg],
              Ex.tup
                [Ex.c (D.int 0),
                  Ex.tup [Ex.tup [(Ex.c (D.int 1)).neg], Ex.tup [Ex.c (D.int 0)]],
                  Ex.c D.non]]),
        St.ite
          (Ex.cmp Cm.ne (Ex.lc [18] (Ex.v 18) (Tg.v 18) (Ex.v 17) [Ex.call 7 [Ex.v 18, Ex.c (D.int 1)]])
            (Ex.lst []))
          [St.ret (Ex.c (D.bl false))] [],
        St.nots "Nothing" 19
          [Ex.call 13 [Ex.v 7, Ex.v 4],
            Ex.call 21
              [Ex.v 7,
                Ex.tup
                  [Ex.bin Op2.mul (Ex.tup [Ex.c (D.int 0)]) (Ex.c (D.int 16)), Ex.c D.non,
                    Ex.v 11, Ex.tup []]]]],
    St.ret (Ex.c (D.bl true))]⟩
def F : List Fd := [f_is_integer, f_is_count, f_is_tuple_of, f_is_small, f_disk_of, f_counts_on, f_is_bank, f_is_disk, f_begin, f_registers_in, f_place_in, f_disk_in, f_left_in, f_instruction_at, f_with_register, f_in_figures, f_reckoned, f_put_on, f_kept_on, f_turned, f_written_step, f_step, f_check_most, f_gone, f__law_bag, f__law_take, f__law_some, f__law_instruction, f__law_own_step, f_law]
end K02
-- G1
set_option Elab.async false
set_option linter.all false
set_option maxRecDepth 100000
set_option maxHeartbeats 4000000
/-! G1: the evaluator's equations and rules for proofs about one law; they name no law. -/
namespace Ev
open PySem PySem.Spec PyProof.Rows L2
section
variable {n : Nat} {C : Calls} {ρ : Env} {S : Store}
@[simp] theorem bind_ok {α β : Type} (a : α) (f : α → Store → R β) : (R.ok a S).bind f = f a S := rfl
@[simp] theorem bind_exc {α β : Type} (x : Xc) (f : α → Store → R β) : (R.exc x S).bind f = .exc x S := rfl
@[simp] theorem thenS_ok {α : Type} (a : α) (f : α → Store → SR) : thenS (.ok a S) ρ f = f a S := rfl
@[simp] theorem thenS_exc {α : Type} (x : Xc) (f : α → Store → SR) : thenS (.exc x S) ρ f = .exc x ρ S := rfl
@[simp] theorem seqS_nx (f : Env → Store → SR) : seqS (.ok .nx ρ S) f = f ρ S := rfl
@[simp] theorem seqS_rt (t : T) (f : Env → Store → SR) : seqS (.ok (.rt t) ρ S) f = .ok (.rt t) ρ S := rfl
@[simp] theorem seqS_exc (x : Xc) (f : Env → Store → SR) : seqS (.exc x ρ S) f = .exc x ρ S := rfl
@[simp] theorem opt_some {α : Type} (a : α) : opt (some a) S = .ok a S := rfl
@[simp] theorem svs_nil : svs n C [] ρ S = .ok .nx ρ S := rfl
@[simp] theorem svs_cons (s : St) (r : List St) : svs n C (s :: r) ρ S = seqS (sv n C s ρ S) (fun ρ1 S1 => svs n C r ρ1 S1) := rfl
@[simp] theorem sv_ret (e : Ex) : sv n C (.ret e) ρ S = thenS ((ev C e).E ρ S) ρ fun t S1 => .ok (.rt t) ρ S1 := rfl
@[simp] theorem sv_asg (tg : Tg) (e : Ex) : sv n C (.asg tg e) ρ S = thenS (((ev C e).E ρ S).bind mat) ρ fun d S1 => (match asg tg d ρ with
    | some ρ' => .ok .nx ρ' S1
    | none => .bad) := rfl
@[simp] theorem sv_ite (t : Ex) (a b : List St) : sv n C (.ite t a b) ρ S = thenS ((ev C t).B ρ S) ρ fun k S1 => if k then svs n C a ρ S1 else svs n C b ρ S1 := rfl
@[simp] theorem sv_for (tg : Tg) (it : Ex) (body : List St) : sv n C (.for tg it body) ρ S = thenS ((ev C it).I ρ S) ρ fun w S1 => unlockS w.2 (loopS (fun x ρ1 S2 => match asg tg x ρ1 with
        | some ρ2 => svs n C body ρ2 S2
        | none => .bad) w.1 ρ (lockO S1 w.2 true)) := rfl
@[simp] theorem sv_seti (o i e : Ex) : sv n C (.seti o i e) ρ S = thenS (((ev C e).E ρ S).bind mat) ρ fun d S1 => thenS (((ev C o).E ρ S1).bind fun to S2 => ((ev C i).E ρ S2).bind fun ti S3 => optS (setF to ti d S3)) ρ fun _ S4 => .ok .nx ρ S4 := rfl
@[simp] theorem sv_aug (i : Nat) (o : Op2) (e : Ex) : sv n C (.aug i o e) ρ S = (match ρ[i]? with
    | some (some d) => thenS (((ev C e).E ρ S).bind fun t S1 => opt (aug2 o (.v d) t) S1) ρ fun d' S1 => .ok .nx (ρ.set i (some d')) S1
    | _ => .bad) := rfl
@[simp] theorem sv_raise0 (x : Str) : sv n C (.raise0 x) ρ S = .exc ⟨x, []⟩ ρ S := rfl
@[simp] theorem sv_par (i j : Nat) (a b : Ex) : sv n C (.par i j a b) ρ S = thenS (evM [ev C a, ev C b] ρ S) ρ fun ds S1 => (match ds with
    | [x, y] => if i < ρ.length ∧ j < ρ.length then .ok .nx ((ρ.set i (some x)).set j (some y)) S1 else .bad
    | _ => .bad) := rfl
@[simp] theorem ev_c (d : D) : (ev C (.c d)).E ρ S = .ok (.v d) S := rfl
@[simp] theorem ev_gc (x : Str) (d : D) : (ev C (.gc x d)).E ρ S = .ok (.v d) S := rfl
@[simp] theorem ev_v (i : Nat) : (ev C (.v i)).E ρ S = (match ρ[i]? with
    | some (some d) => .ok (.v d) S
    | _ => .bad) := rfl
@[simp] theorem ev_tup (es : List Ex) : (ev C (.tup es)).E ρ S = (evM (evs C es) ρ S).bind fun ds S1 => if ds.length ≤ lim then .ok (.v (.tup ds)) S1 else .bad := rfl
@[simp] theorem ev_lst (es : List Ex) : (ev C (.lst es)).E ρ S = (evM (evs C es) ρ S).bind fun ds S1 => if ds.length ≤ lim then .ok (.l ds) S1 else .bad := rfl
@[simp] theorem ev_dT0 : (ev C .dT0).E ρ S = .ok (.t []) S := rfl
@[simp] theorem ev_dT1 (k v : Ex) : (ev C (.dT1 k v)).E ρ S = ((ev C k).E ρ S).bind fun tk S1 => (mat tk S1).bind fun dk S2 => ((ev C v).E ρ S2).bind fun tv S3 => (mat tv S3).bind fun dv S4 => if dk.isKey then .ok (.t [(dk, dv)]) S4 else .bad := rfl
@[simp] theorem ev_bin (o : Op2) (a b : Ex) : (ev C (.bin o a b)).E ρ S = ((ev C a).E ρ S).bind fun ta S1 => ((ev C b).E ρ S1).bind fun tb S2 => opt (bin2 o ta tb S2) S2 := rfl
@[simp] theorem ev_neg (a : Ex) : (ev C (.neg a)).E ρ S = ((ev C a).E ρ S).bind fun ta S1 => (match ta with
    | .v (.int i) => .ok (.v (.int (-i))) S1
    | _ => .bad) := rfl
@[simp] theorem ev_notB (a : Ex) : (ev C (.not a)).B ρ S = ((ev C a).B ρ S).bind fun k S1 => .ok (!k) S1 := rfl
@[simp] theorem ev_not (a : Ex) : (ev C (.not a)).E ρ S = (((ev C a).B ρ S).bind fun k S1 => .ok (!k) S1).bind fun k S1 => .ok (.v (.bl k)) S1 := rfl
@[simp] theorem ev_and (es : List Ex) : (ev C (.and es)).E ρ S = evAnd (evs C es) ρ S := rfl
@[simp] theorem ev_andB (es : List Ex) : (ev C (.and es)).B ρ S = evC (evs C es) ρ S := rfl
@[simp] theorem ev_or (es : List Ex) : (ev C (.or es)).E ρ S = evOr (evs C es) ρ S := rfl
@[simp] theorem ev_orB (es : List Ex) : (ev C (.or es)).B ρ S = evO (evs C es) ρ S := rfl
@[simp] theorem ev_cmpB (o : Cm) (a b : Ex) : (ev C (.cmp o a b)).B ρ S = ((ev C a).E ρ S).bind fun ta S1 => ((ev C b).E ρ S1).bind fun tb S2 => opt (cmp2 o ta tb S2) S2 := rfl
@[simp] theorem ev_cmp (o : Cm) (a b : Ex) : (ev C (.cmp o a b)).E ρ S = (((ev C a).E ρ S).bind fun ta S1 => ((ev C b).E ρ S1).bind fun tb S2 => opt (cmp2 o ta tb S2) S2).bind fun k S1 => .ok (.v (.bl k)) S1 := rfl
@[simp] theorem ev_chn (o o' : Cm) (a b c : Ex) : (ev C (.chn o o' a b c)).E ρ S = (((ev C a).E ρ S).bind fun ta S1 => ((ev C b).E ρ S1).bind fun tb S2 => (opt (cmp2 o ta tb S2) S2).bind fun k S3 =>
      if k then ((ev C c).E ρ S3).bind fun tc S4 => opt (cmp2 o' tb tc S4) S4 else .ok false S3).bind fun k S1 => .ok (.v (.bl k)) S1 := rfl
@[simp] theorem ev_ife (t a b : Ex) : (ev C (.ife t a b)).E ρ S = ((ev C t).B ρ S).bind fun k S1 => if k then (ev C a).E ρ S1 else (ev C b).E ρ S1 := rfl
@[simp] theorem ev_ix (a i : Ex) : (ev C (.ix a i)).E ρ S = ((ev C a).E ρ S).bind fun ta S1 => ((ev C i).E ρ S1).bind fun ti S2 => opt (getF ta ti S2) S2 := rfl
@[simp] theorem ev_sl (bl bh : Bool) (a lo hi : Ex) : (ev C (.sl bl bh a lo hi)).E ρ S = ((ev C a).E ρ S).bind fun ta S1 => (evP bl (ev C lo).E ρ S1).bind fun l S2 => (evP bh (ev C hi).E ρ S2).bind fun h S3 => opt (slice ta l h S3) S3 := rfl
@[simp] theorem ev_call (f : Nat) (es : List Ex) : (ev C (.call f es)).E ρ S = fin S.length ((evM (evs C es) ρ S).bind fun ds S1 => C f ds S1) := rfl
@[simp] theorem ev_bi (b : Bi) (es : List Ex) : (ev C (.bi b es)).E ρ S = (evTs (evs C es) ρ S).bind fun ts S1 => opt (biF b ts S1) S1 := rfl
@[simp] theorem ev_biI (b : Bi) (es : List Ex) : (ev C (.bi b es)).I ρ S = (evTs (evs C es) ρ S).bind fun ts S1 => if isIt b then opt (itF b ts S1) S1 else (opt (biF b ts S1) S1).bind fun t S2 => opt (itQ t S2) S2 := rfl
@[simp] theorem ev_me (m : Me) (o : Ex) (es : List Ex) : (ev C (.me m o es)).E ρ S = ((ev C o).E ρ S).bind fun t S1 => if rcv m t S1 then (evTs (evs C es) ρ S1).bind fun ts S2 => meF m t ts S2 else .bad := rfl
@[simp] theorem ev_lc (own : List Nat) (elt : Ex) (tg : Tg) (it : Ex) (conds : List Ex) : (ev C (.lc own elt tg it conds)).E ρ S = evL own (ev C elt) tg (ev C it) (evs C conds) ρ S := rfl
@[simp] theorem ev_maxk (o : Ex) : (ev C (.maxk o)).E ρ S = ((ev C o).E ρ S).bind fun t S1 => opt (maxK t) S1 := rfl
@[simp] theorem ev_gf (f : Nat) : (ev C (.gf f)).E ρ S = .ok (.v (.fn f)) S := rfl
@[simp] theorem ev_callv (i : Nat) (es : List Ex) : (ev C (.callv i es)).E ρ S = (match ρ[i]? with
    | some (some (.fn f)) => fin S.length ((evM (evs C es) ρ S).bind fun ds S1 => C f ds S1)
    | _ => .bad) := rfl
@[simp] theorem ev_tupS (bs : List Bool) (es : List Ex) : (ev C (.tupS bs es)).E ρ S = (evMS bs (evs C es) ρ S).bind fun ds S1 => if ds.length ≤ lim then .ok (.v (.tup ds)) S1 else .bad := rfl
@[simp] theorem ev_isinB (neg : Bool) (a b : Ex) : (ev C (.isin neg a b)).B ρ S = ((ev C a).E ρ S).bind fun ta S1 => ((ev C b).E ρ S1).bind fun tb S2 => (opt (inF ta tb S2) S2).bind fun k S3 => .ok (if neg then !k else k) S3 := rfl
@[simp] theorem sv_ex (e : Ex) : sv n C (.ex e) ρ S = thenS ((ev C e).E ρ S) ρ fun _ S1 => .ok .nx ρ S1 := rfl
@[simp] theorem sv_brk : sv n C .brk ρ S = .ok .bk ρ S := rfl
@[simp] theorem sv_ext (o e : Ex) : sv n C (.ext o e) ρ S = thenS (((ev C o).E ρ S).bind fun to S1 => if rcv .append to S1 then ((ev C e).E ρ S1).bind fun t S2 => optS (extF to t S2) else .bad) ρ fun _ S3 => .ok .nx ρ S3 := rfl
@[simp] theorem sv_par3 (i j k : Nat) (a b c : Ex) : sv n C (.par3 i j k a b c) ρ S = thenS (evM [ev C a, ev C b, ev C c] ρ S) ρ fun ds S1 => (match ds with
    | [x, y, w] => if i < ρ.length ∧ j < ρ.length ∧ k < ρ.length then .ok .nx (((ρ.set i (some x)).set j (some y)).set k (some w)) S1 else .bad
    | _ => .bad) := rfl
@[simp] theorem sv_subn (o i : Ex) (j : Nat) (a b : Ex) : sv n C (.subn o i j a b) ρ S = thenS (evM [ev C a, ev C b] ρ S) ρ fun ds S1 => (match ds with
    | [x, y] => thenS (((ev C o).E ρ S1).bind fun to S2 => ((ev C i).E ρ S2).bind fun ti S3 => optS (setF to ti x S3)) ρ fun _ S4 => if j < ρ.length then .ok .nx (ρ.set j (some y)) S4 else .bad
    | _ => .bad) := rfl
@[simp] theorem evs_nil : evs C [] = [] := rfl
@[simp] theorem evs_cons (e : Ex) (es : List Ex) : evs C (e :: es) = ev C e :: evs C es := rfl
@[simp] theorem evM_nil : evM [] ρ S = .ok [] S := rfl
@[simp] theorem evM_cons' (e : Sm) (es : List Sm) : evM (e :: es) ρ S = (e.E ρ S).bind fun t S1 => (mat t S1).bind fun d S2 => (evM es ρ S2).bind fun ds S3 => .ok (d :: ds) S3 := rfl
@[simp] theorem evTs_nil : evTs [] ρ S = .ok [] S := rfl
@[simp] theorem evTs_cons (e : Sm) (es : List Sm) : evTs (e :: es) ρ S = (e.E ρ S).bind fun t S1 => (evTs es ρ S1).bind fun ts S2 => .ok (t :: ts) S2 := rfl
@[simp] theorem evC_nil : evC [] ρ S = .ok true S := rfl
@[simp] theorem evC_cons (e : Sm) (es : List Sm) : evC (e :: es) ρ S = (e.B ρ S).bind fun k S1 => if k then evC es ρ S1 else .ok false S1 := rfl
@[simp] theorem evO_nil : evO [] ρ S = .ok false S := rfl
@[simp] theorem evO_cons (e : Sm) (es : List Sm) : evO (e :: es) ρ S = (e.B ρ S).bind fun k S1 => if k then .ok true S1 else evO es ρ S1 := rfl
@[simp] theorem mat_v (d : D) : mat (.v d) S = .ok d S := rfl
@[simp] theorem mat_l (xs : List D) : mat (.l xs) S = .ok (.ref S.length) (S ++ [.lst false xs]) := rfl
@[simp] theorem mat_t (kvs : List (D × D)) : mat (.t kvs) S = .ok (.ref S.length) (S ++ [.dT false kvs]) := rfl
end
/-- the end of a def's body -/
def fin0 : SR → R T
  | .ok .nx _ S1 => .ok (.v .non) S1
  | .ok (.rt t) _ S1 => .ok t S1
  | .exc x _ S1 => .exc x S1
  | _ => .bad
@[simp] theorem fin0_nx (ρ : Env) (S : Store) : fin0 (.ok .nx ρ S) = .ok (.v .non) S := rfl
@[simp] theorem fin0_rt (t : T) (ρ : Env) (S : Store) : fin0 (.ok (.rt t) ρ S) = .ok t S := rfl
@[simp] theorem fin0_exc (x : Xc) (ρ : Env) (S : Store) : fin0 (.exc x ρ S) = .exc x S := rfl
theorem callN_at {F : List Fd} {n i : Nat} {fd : Fd} {ds : List D} {S : Store} (hf : F[i]? = some fd) (hl : ds.length = fd.np) : callN F (n + 1) i ds S = fin0 (svs n (callN F n) fd.body (startE fd.nn ds) S) := by
  show (match F[i]? with | some fd => runF n (callN F n) fd ds S | none => .bad) = _
  rw [hf]
  show runF n (callN F n) fd ds S = _
  unfold runF
  rw [if_pos hl]
  cases svs n (callN F n) fd.body (startE fd.nn ds) S with
  | ok f r s => cases f <;> rfl
  | exc => rfl
  | bad => rfl
/-- a well-formed store -/
def WS (S : Store) : Prop := (S.all fun c => c.bnd S.length) = true
mutual
theorem bnd_pure (n : Nat) : ∀ d : D, d.pure = true → d.bnd n = true
  | .non, _ => rfl
  | .bl _, _ => rfl
  | .int _, _ => rfl
  | .str _, _ => rfl
  | .tup xs, h => bnds_pure n xs h
  | .ref _, h => by cases h
  | .fn _, h => by cases h
theorem bnds_pure (n : Nat) : ∀ ds : List D, D.pures ds = true → D.bnds n ds = true
  | [], _ => rfl
  | x :: xs, h => by
    have h' : (x.pure && D.pures xs) = true := h
    rw [Bool.and_eq_true] at h'
    show (x.bnd n && D.bnds n xs) = true
    rw [bnd_pure n x h'.1, bnds_pure n xs h'.2]
    rfl
end
theorem fin_v {S G : Store} {d : D} (h : WS S) (hp : d.pure = true) : fin S.length (.ok (.v d) (S ++ G)) = .ok (.v d) S := by
  have e : fresh S.length (.v d) (S ++ G) = .v d := by
    cases d <;> first | rfl | cases hp
  show (if (fresh S.length (.v d) (S ++ G)).bnd S.length && oldOk S.length (S ++ G) then R.ok (fresh S.length (.v d) (S ++ G)) ((S ++ G).take S.length) else .ok (.v d) (S ++ G)) = _
  rw [e, List.take_left]
  have o : oldOk S.length (S ++ G) = true := by
    unfold oldOk
    rw [List.take_left]
    exact h
  have b : (T.v d).bnd S.length = true := bnd_pure _ d hp
  rw [b, o]
  rfl
theorem fin_v0 {S : Store} {d : D} (h : WS S) (hp : d.pure = true) : fin S.length (.ok (.v d) S) = .ok (.v d) S := by
  have z := fin_v (G := []) h hp
  rwa [List.append_nil] at z
theorem fin_exc {S G : Store} {x : Str} (h : WS S) : fin S.length (R.exc ⟨x, []⟩ (S ++ G) : R T) = .exc ⟨x, []⟩ S := by
  have o : oldOk S.length (S ++ G) = true := by
    unfold oldOk
    rw [List.take_left]
    exact h
  show (if D.bnds S.length [] && oldOk S.length (S ++ G) then R.exc ⟨x, []⟩ ((S ++ G).take S.length) else R.exc ⟨x, []⟩ (S ++ G)) = _
  rw [o, List.take_left]
  rfl
/-- a def gives plain data, and leaves the store but for what is new -/
def Gv (F : List Fd) (n i : Nat) (ds : List D) (d : D) : Prop := ∀ S, WS S → ∃ G, callN F n i ds S = .ok (.v d) (S ++ G)
theorem Gv.call {F : List Fd} {n i : Nat} {ds : List D} {d : D} (g : Gv F n i ds d) (hp : d.pure = true) {S : Store} (h : WS S) : fin S.length (callN F n i ds S) = .ok (.v d) S := by
  obtain ⟨G, e⟩ := g S h
  rw [e, fin_v h hp]
theorem Gv.id {F : List Fd} {n i : Nat} {ds : List D} {d : D} (h : ∀ S, WS S → callN F n i ds S = .ok (.v d) S) : Gv F n i ds d := fun S w => ⟨[], by rw [List.append_nil]; exact h S w⟩
theorem WS.push {S : Store} {c : Cell} (h : WS S) (hc : c.bnd S.length = true) (hm : ∀ (c : Cell) (a b : Nat), a ≤ b → c.bnd a = true → c.bnd b = true) : WS (S ++ [c]) := by
  unfold WS
  rw [List.all_append, Bool.and_eq_true, List.length_append]
  refine ⟨List.all_eq_true.mpr fun x hx => hm x _ _ (Nat.le_add_right _ _) (List.all_eq_true.mp h x hx), ?_⟩
  rw [List.all_cons, hm c _ _ (Nat.le_add_right _ _) hc]
  rfl
theorem loopC_map {f : D → Store → R (Option D)} {g : D → Option D} {S : Store} : ∀ xs : List D, (∀ x ∈ xs, f x S = .ok (g x) S) → loopC f xs S = .ok (xs.filterMap g) S
  | [], _ => rfl
  | x :: xs, h => by
    unfold loopC
    rw [h x List.mem_cons_self, bind_ok, loopC_map xs fun y hy => h y (List.mem_cons_of_mem _ hy), bind_ok, List.filterMap_cons]
    cases g x <;> rfl
/-- one turn of a comprehension -/
def stepC (own : List Nat) (elt : Sm) (tg : Tg) (conds : List Sm) (ρ : Env) : D → Store → R (Option D) := fun x S2 => match asg tg x (wipeE ρ own) with
  | some ρ' => (evC conds ρ' S2).bind fun k S3 => if k then (elt.E ρ' S3).bind fun t S4 => (mat t S4).bind fun d S5 => .ok (some d) S5 else .ok none S3
  | none => .bad
theorem evL_ok {own : List Nat} {elt : Sm} {tg : Tg} {it : Sm} {conds : List Sm} {ρ : Env} {S : Store} {xs : List D} {o : Option Nat} {g : D → Option D} (hi : it.I ρ S = .ok (xs, o) S) (hl : xs.length ≤ lim)
    (h : ∀ x ∈ xs, stepC own elt tg conds ρ x (lockO S o true) = .ok (g x) (lockO S o true)) (hk : lockO (lockO S o true) o false = S) : evL own elt tg it conds ρ S = .ok (.l (xs.filterMap g)) S := by
  unfold evL
  rw [hi, bind_ok]
  show (if xs.length ≤ lim then _ else _) = _
  rw [if_pos hl]
  show ((noX (loopC (stepC own elt tg conds ρ) xs (lockO S o true))).bind fun ys S2 => R.ok (T.l ys) (lockO S2 o false)) = _
  rw [loopC_map xs h]
  show R.ok (T.l _) (lockO (lockO S o true) o false) = _
  rw [hk]
theorem eq_int (a b : Int) (S : Store) : cmp2 .eq (.v (.int a)) (.v (.int b)) S = some (decide (a = b)) := by
  show (if min (PyData.int a).depth (PyData.int b).depth ≤ 60 then some (PyData.eqv (.int a) (.int b)) else none) = _
  have e : PyData.eqv (.int a) (.int b) = decide (a = b) := by
    rw [PyData.eqv]
    by_cases h : a = b
    · rw [decide_eq_true h, h]
      exact beq_self_eq_true _
    · rw [decide_eq_false h]
      exact beq_eq_false_iff_ne.mpr h
  rw [e, if_pos (by simp [PyData.depth])]
theorem ne_int (a b : Int) (S : Store) : cmp2 .ne (.v (.int a)) (.v (.int b)) S = some (!decide (a = b)) := by
  show (cmp2 .eq (.v (.int a)) (.v (.int b)) S).map (fun k => !k) = _
  rw [eq_int]
  rfl
theorem bools_map {α : Type} (f : α → Bool) : ∀ l : List α, bools (l.map fun a => D.bl (f a)) = some (l.map f)
  | [] => rfl
  | a :: l => by
    show (bools (l.map fun a => D.bl (f a))).map (f a :: ·) = _
    rw [bools_map f l]
    rfl
theorem intL_map {α : Type} (f : α → Int) : ∀ l : List α, intL (l.map fun a => D.int (f a)) = some (l.map f)
  | [] => rfl
  | a :: l => by
    show (intL (l.map fun a => D.int (f a))).map (f a :: ·) = _
    rw [intL_map f l]
    rfl
theorem fm_some {α β : Type} (f : α → β) : ∀ l : List α, l.filterMap (fun a => some (f a)) = l.map f
  | [] => rfl
  | a :: l => by
    rw [List.filterMap_cons, List.map_cons]
    exact congrArg _ (fm_some f l)
def contS (r : SR) (k : Env → Store → SR) : SR := match r with
  | .ok .nx ρ1 S1 => k ρ1 S1
  | .ok .ct ρ1 S1 => k ρ1 S1
  | .ok .bk ρ1 S1 => .ok .nx ρ1 S1
  | r => r
theorem loopS_nil {f : D → Env → Store → SR} {ρ : Env} {S : Store} : loopS f [] ρ S = .ok .nx ρ S := rfl
theorem loopS_cons {f : D → Env → Store → SR} {x : D} {xs : List D} {ρ : Env} {S : Store} : loopS f (x :: xs) ρ S = contS (f x ρ S) fun ρ1 S1 => loopS f xs ρ1 S1 := by
  conv => lhs; unfold loopS
  cases f x ρ S with
  | ok fl a b => cases fl <;> rfl
  | exc => rfl
  | bad => rfl
theorem contS_nx {ρ : Env} {S : Store} {k : Env → Store → SR} : contS (.ok .nx ρ S) k = k ρ S := rfl
theorem contS_rt {ρ : Env} {S : Store} {t : T} {k : Env → Store → SR} : contS (.ok (.rt t) ρ S) k = .ok (.rt t) ρ S := rfl
theorem atI0 {α : Type} (a : α) (r : List α) : L2.atI (a :: r) 0 = some a := by simp [L2.atI, L2.ixN]
theorem atI1 {α : Type} (a b : α) (r : List α) : L2.atI (a :: b :: r) 1 = some b := by
  have h : (1 : Int) < ((r.length : Nat) : Int) + 1 + 1 := by omega
  simp [L2.atI, L2.ixN, h]
theorem mulOk_of {i j : Int} (h : i.natAbs < 2 ^ 64) : mulOk i j = true := by
  unfold mulOk
  rw [decide_eq_true h]
  rfl
theorem mulOk_r {i j : Int} (h : j.natAbs < 2 ^ 64) : mulOk i j = true := by
  unfold mulOk
  rw [decide_eq_true h, Bool.or_true]
  rfl
theorem itF_range (m : Nat) (h : m ≤ 1000) (S : Store) : itF .range [.v (.int (m : Nat))] S = some (intsFrom 0 m, none) := by
  unfold itF
  dsimp only
  rw [if_pos ⟨by omega, by omega⟩, Int.toNat_natCast]
theorem pures_map {α : Type} {f : α → D} (h : ∀ a, (f a).pure = true) : ∀ l : List α, D.pures (l.map f) = true
  | [] => rfl
  | a :: l => by
    show ((f a).pure && D.pures (l.map f)) = true
    rw [h a, pures_map h l]
    rfl
theorem deps_map {α : Type} {f : α → D} {k : Nat} (h : ∀ a, (f a).dep ≤ k) : ∀ l : List α, D.deps (l.map f) ≤ k
  | [] => Nat.zero_le _
  | a :: l => by
    show max (f a).dep (D.deps (l.map f)) ≤ k
    exact Nat.max_le.mpr ⟨h a, deps_map h l⟩
theorem at_endL {S : Store} {c : Cell} : (S ++ [c])[S.length]? = some c := by simp
/-- the call, as an expression: a list of its own -/
theorem fin_ref {S : Store} {xs : List D} (w : WS S) (hx : D.pures xs = true) : fin S.length (.ok (.v (.ref S.length)) (S ++ [Cell.lst false xs])) = .ok (.l xs) S := by
  have e : fresh S.length (.v (.ref S.length)) (S ++ [Cell.lst false xs]) = .l xs := by
    show (if S.length < S.length then T.v (.ref S.length) else (match (S ++ [Cell.lst false xs])[S.length]? with
    | some (.lst false xs) => .l xs
    | some (.dT false kvs) => .t kvs
    | _ => .v (.ref S.length))) = _
    rw [if_neg (Nat.lt_irrefl _), at_endL]
  show (if (fresh S.length (.v (.ref S.length)) (S ++ [Cell.lst false xs])).bnd S.length && oldOk S.length (S ++ [Cell.lst false xs]) then R.ok (fresh S.length (.v (.ref S.length)) (S ++ [Cell.lst false xs])) ((S ++ [Cell.lst false xs]).take S.length) else .ok (.v (.ref S.length)) (S ++ [Cell.lst false xs])) = _
  have o : oldOk S.length (S ++ [Cell.lst false xs]) = true := by
    unfold oldOk
    rw [List.take_left]
    exact w
  have b : (T.l xs).bnd S.length = true := bnds_pure _ xs hx
  rw [e, b, o, List.take_left]
  rfl
def Fn (C : Calls) (f : Nat) (ds : List D) (d : D) : Prop := ∀ S, WS S → fin S.length (C f ds S) = .ok (.v d) S
section
variable {C : Calls} {ρ : Ev.Env} {S : Store} {n : Nat}
theorem x_v {i : Nat} {d : D} (h : ρ[i]? = some (some d)) : (ev C (.v i)).E ρ S = .ok (.v d) S := by
  rw [ev_v, h]
theorem x_c {d : D} : (ev C (.c d)).E ρ S = .ok (.v d) S := rfl
theorem x_1 {f : Nat} {a : Ex} {da d : D} (w : WS S) (ha : (ev C a).E ρ S = .ok (.v da) S) (h : Fn C f [da] d) : (ev C (.call f [a])).E ρ S = .ok (.v d) S := by
  rw [ev_call, evs_cons, evs_nil, evM_cons', ha, bind_ok, mat_v, bind_ok, evM_nil, bind_ok, bind_ok]
  exact h S w
theorem x_2 {f : Nat} {a b : Ex} {da db d : D} (w : WS S) (ha : (ev C a).E ρ S = .ok (.v da) S) (hb : (ev C b).E ρ S = .ok (.v db) S) (h : Fn C f [da, db] d) : (ev C (.call f [a, b])).E ρ S = .ok (.v d) S := by
  rw [ev_call, evs_cons, evs_cons, evs_nil, evM_cons', ha, bind_ok, mat_v, bind_ok, evM_cons', hb, bind_ok, mat_v, bind_ok, evM_nil, bind_ok, bind_ok, bind_ok]
  exact h S w
theorem x_3 {f : Nat} {a b c : Ex} {da db dc d : D} (w : WS S) (ha : (ev C a).E ρ S = .ok (.v da) S) (hb : (ev C b).E ρ S = .ok (.v db) S) (hc : (ev C c).E ρ S = .ok (.v dc) S) (h : Fn C f [da, db, dc] d) : (ev C (.call f [a, b, c])).E ρ S = .ok (.v d) S := by
  rw [ev_call, evs_cons, evs_cons, evs_cons, evs_nil, evM_cons', ha, bind_ok, mat_v, bind_ok, evM_cons', hb, bind_ok, mat_v, bind_ok, evM_cons', hc, bind_ok, mat_v, bind_ok, evM_nil, bind_ok, bind_ok, bind_ok, bind_ok]
  exact h S w
theorem b_neI {a b : Ex} {i j : Int} (ha : (ev C a).E ρ S = .ok (.v (.int i)) S) (hb : (ev C b).E ρ S = .ok (.v (.int j)) S) (e : i = j) : (ev C (.cmp .ne a b)).B ρ S = .ok false S := by
  rw [ev_cmpB, ha, bind_ok, hb, bind_ok, ne_int, decide_eq_true e]
  rfl
theorem b_or : ∀ {es : List Ex}, (∀ e ∈ es, (ev C e).B ρ S = .ok false S) → (ev C (.or es)).B ρ S = .ok false S := by
  intro es
  rw [ev_orB]
  induction es with
  | nil => intro _; rfl
  | cons e es ih =>
    intro h
    rw [evs_cons, evO_cons, h e List.mem_cons_self, bind_ok, if_neg Bool.false_ne_true]
    exact ih fun x hx => h x (List.mem_cons_of_mem _ hx)
theorem b_or2 {a b : Ex} (ha : (ev C a).B ρ S = .ok false S) (hb : (ev C b).B ρ S = .ok false S) : (ev C (.or [a, b])).B ρ S = .ok false S := b_or fun e he => by
  simp at he
  rcases he with rfl | rfl <;> assumption
theorem b_or3 {a b c : Ex} (ha : (ev C a).B ρ S = .ok false S) (hb : (ev C b).B ρ S = .ok false S) (hc : (ev C c).B ρ S = .ok false S) : (ev C (.or [a, b, c])).B ρ S = .ok false S := b_or fun e he => by
  simp at he
  rcases he with rfl | rfl | rfl <;> assumption
theorem s_asg {i : Nat} {e : Ex} {d : D} {S' : Store} (hi : i < ρ.length) (h : (ev C e).E ρ S = .ok (.v d) S') : sv n C (.asg (.v i) e) ρ S = .ok .nx (ρ.set i (some d)) S' := by
  rw [sv_asg, h, bind_ok, mat_v, thenS_ok]
  show (match (if i < ρ.length then some (ρ.set i (some d)) else none) with | some ρ' => SR.ok .nx ρ' S' | none => .bad) = _
  rw [if_pos hi]
theorem s_par {i j : Nat} {a b : Ex} {x y : D} {S1 S2 : Store} (hi : i < ρ.length) (hj : j < ρ.length) (ha : (ev C a).E ρ S = .ok (.v x) S1) (hb : (ev C b).E ρ S1 = .ok (.v y) S2) : sv n C (.par i j a b) ρ S = .ok .nx ((ρ.set i (some x)).set j (some y)) S2 := by
  rw [sv_par, evM_cons', ha, bind_ok, mat_v, bind_ok, evM_cons', hb, bind_ok, mat_v, bind_ok, evM_nil, bind_ok, bind_ok, thenS_ok]
  show (if i < ρ.length ∧ j < ρ.length then SR.ok .nx ((ρ.set i (some x)).set j (some y)) S2 else .bad) = _
  rw [if_pos ⟨hi, hj⟩]
theorem s_asg2 {i j : Nat} {a b : Ex} {x y : D} {S1 S2 : Store} (hi : i < ρ.length) (hj : j < ρ.length) (ha : (ev C a).E ρ S = .ok (.v x) S1) (hb : (ev C b).E ρ S1 = .ok (.v y) S2) : sv n C (.asg (.tup [.v i, .v j]) (.tup [a, b])) ρ S = .ok .nx ((ρ.set i (some x)).set j (some y)) S2 := by
  rw [sv_asg, ev_tup, evs_cons, evs_cons, evs_nil, evM_cons', ha, bind_ok, mat_v, bind_ok, evM_cons', hb, bind_ok, mat_v, bind_ok, evM_nil, bind_ok, bind_ok, bind_ok, if_pos (show [x, y].length ≤ lim from (show 2 ≤ lim by decide)), bind_ok, mat_v, thenS_ok]
  have e : asg (.tup [.v i, .v j]) (.tup [x, y]) ρ = some ((ρ.set i (some x)).set j (some y)) := by
    show (if i < ρ.length then some (ρ.set i (some x)) else none).bind (fun ρ' => (if j < ρ'.length then some (ρ'.set j (some y)) else none).bind fun ρ' => some ρ') = _
    rw [if_pos hi]
    show (if j < (ρ.set i (some x)).length then some ((ρ.set i (some x)).set j (some y)) else none).bind (fun ρ' => some ρ') = _
    rw [List.length_set, if_pos hj]
    rfl
  rw [e]
theorem s_no {t : Ex} {a : List St} {S' : Store} (h : (ev C t).B ρ S = .ok false S') : sv n C (.ite t a []) ρ S = .ok .nx ρ S' := by
  rw [sv_ite, h, thenS_ok, if_neg Bool.false_ne_true, svs_nil]
theorem s_step {s : St} {r : List St} {ρ1 : Ev.Env} {S1 : Store} (h : sv n C s ρ S = .ok .nx ρ1 S1) : svs n C (s :: r) ρ S = svs n C r ρ1 S1 := by
  rw [svs_cons, h, seqS_nx]
theorem b_isNo {e : Ex} (w : WS S) (h : (ev C e).E ρ S = .exc ⟨"Nothing", []⟩ S) : (ev C (Ex.isNo "Nothing" e).not).B ρ S = .ok false S := by
  have e1 : (ev C (Ex.isNo "Nothing" e)).B ρ S = .ok true S := by
    show (match fin S.length ((ev C e).E ρ S) with
      | .ok _ S1 => R.ok false S1
      | .exc x S1 => if x.cls = "Nothing" then .ok true S1 else .bad
      | .bad => .bad) = _
    rw [h]
    have z := fin_exc (G := []) (x := "Nothing") w
    rw [List.append_nil] at z
    rw [z]
    rfl
  rw [ev_notB, e1, bind_ok]
  rfl
theorem evL_at {own : List Nat} {elt : Sm} {tg : Tg} {it : Sm} {conds : List Sm} {xs ys : List D} {o : Option Nat} (hi : it.I ρ S = .ok (xs, o) S) (hl : xs.length ≤ lim)
    (h : loopC (stepC own elt tg conds ρ) xs (lockO S o true) = .ok ys (lockO S o true)) (hk : lockO (lockO S o true) o false = S) : evL own elt tg it conds ρ S = .ok (.l ys) S := by
  unfold evL
  rw [hi, bind_ok]
  show (if xs.length ≤ lim then _ else _) = _
  rw [if_pos hl]
  show ((noX (loopC (stepC own elt tg conds ρ) xs (lockO S o true))).bind fun ys S2 => R.ok (T.l ys) (lockO S2 o false)) = _
  rw [h]
  show R.ok (T.l _) (lockO (lockO S o true) o false) = _
  rw [hk]
theorem step1 {w : Nat} {e : Ex} {x d : D} (hw : w < ρ.length) (h : (ev C e).E ((ρ.set w none).set w (some x)) S = .ok (.v d) S) : stepC [w] (ev C e) (.v w) [] ρ x S = .ok (some d) S := by
  unfold stepC
  have ea : asg (.v w) x (wipeE ρ [w]) = some ((ρ.set w none).set w (some x)) := by
    show (if w < (ρ.set w none).length then some ((ρ.set w none).set w (some x)) else none) = _
    rw [List.length_set, if_pos hw]
  rw [ea]
  show ((R.ok true S).bind fun k S3 => if k then ((ev C e).E ((ρ.set w none).set w (some x)) S3).bind fun t S4 => (mat t S4).bind fun d S5 => R.ok (some d) S5 else .ok none S3) = _
  rw [bind_ok, if_pos rfl, h]
  rfl
theorem lock_lst {k : Nat} {xs : List D} (h : S[k]? = some (.lst false xs)) : lockO S (some k) true = S.set k (.lst true xs) := by
  show setLock S k true = _
  unfold setLock
  rw [h]
theorem lockL_back {k : Nat} {xs : List D} (h : S[k]? = some (.lst false xs)) : lockO (lockO S (some k) true) (some k) false = S := by
  have hk : k < S.length := (List.getElem?_eq_some_iff.mp h).1
  rw [lock_lst h]
  show setLock (S.set k (.lst true xs)) k false = S
  unfold setLock
  rw [List.getElem?_set_self hk]
  show (S.set k (.lst true xs)).set k (.lst false xs) = S
  rw [List.set_set]
  apply List.ext_getElem?
  intro i
  by_cases e : k = i
  · subst e
    rw [List.getElem?_set_self hk, h]
  · rw [List.getElem?_set_ne e]
theorem ws_set {k : Nat} {c : Cell} (w : WS S) (hc : c.bnd S.length = true) : WS (S.set k c) := by
  unfold WS
  rw [List.length_set, List.all_eq_true]
  intro x hx
  rcases List.mem_or_eq_of_mem_set hx with z | z
  · exact List.all_eq_true.mp w x z
  · rw [z]
    exact hc
theorem ws_lock {k : Nat} {xs : List D} (w : WS S) (h : S[k]? = some (.lst false xs)) : WS (lockO S (some k) true) := by
  rw [lock_lst h]
  exact ws_set w (List.all_eq_true.mp w (.lst false xs) (List.mem_of_getElem? h))
theorem it_lst {i k : Nat} {xs : List D} (hi : ρ[i]? = some (some (.ref k))) (h : S[k]? = some (.lst false xs)) : (ev C (.v i)).I ρ S = .ok (xs, some k) S := by
  have e : itQ (.v (.ref k)) S = some (xs, some k) := by
    have e0 : itQ0 (.v (.ref k)) S = some (xs, some k) := by
      show (match asL (.v (.ref k)) S with | some xs => some (xs, if lockAt S k then none else some k) | none => none) = _
      have e1 : asL (.v (.ref k)) S = some xs := by
        show (match S[k]? with | some (.lst _ xs) => some xs | some (.ro xs) => some xs | _ => none) = _
        rw [h]
      have e2 : lockAt S k = false := by
        unfold lockAt
        rw [h]
      rw [e1, e2]
      rfl
    unfold itQ
    rw [e0]
  show ((ev C (.v i)).E ρ S).bind (fun t S1 => opt (itQ t S1) S1) = _
  rw [x_v hi, bind_ok, e]
  rfl
theorem loopS_inv {I : Ev.Env → Store → Prop} {f : D → Ev.Env → Store → SR} : ∀ (xs : List D), (∀ x ∈ xs, ∀ ρ S, I ρ S → ∃ ρ' S', f x ρ S = .ok .nx ρ' S' ∧ I ρ' S') → ∀ ρ S, I ρ S → ∃ ρ' S', loopS f xs ρ S = .ok .nx ρ' S' ∧ I ρ' S'
  | [], _, ρ, S, h => ⟨ρ, S, rfl, h⟩
  | x :: xs, hf, ρ, S, h => by
    obtain ⟨ρ1, S1, e1, h1⟩ := hf x List.mem_cons_self ρ S h
    obtain ⟨ρ2, S2, e2, h2⟩ := loopS_inv xs (fun y hy => hf y (List.mem_cons_of_mem _ hy)) ρ1 S1 h1
    refine ⟨ρ2, S2, ?_, h2⟩
    rw [loopS_cons, e1, contS_nx]
    exact e2
/-- one turn of a for -/
def turnS (n : Nat) (C : Calls) (tg : Tg) (body : List St) : D → Ev.Env → Store → SR := fun x ρ1 S2 => match asg tg x ρ1 with
  | some ρ2 => svs n C body ρ2 S2
  | none => .bad
theorem turn_v {i : Nat} {body : List St} {x : D} (hi : i < ρ.length) : turnS n C (.v i) body x ρ S = svs n C body (ρ.set i (some x)) S := by
  show (match (if i < ρ.length then some (ρ.set i (some x)) else none) with | some ρ2 => svs n C body ρ2 S | none => .bad) = _
  rw [if_pos hi]
theorem s_for {tg : Tg} {it : Ex} {body : List St} {xs : List D} {o : Option Nat} {S1 S2 : Store} {ρ2 : Ev.Env} (hi : (ev C it).I ρ S = .ok (xs, o) S1) (h : loopS (turnS n C tg body) xs ρ (lockO S1 o true) = .ok .nx ρ2 S2) : sv n C (.for tg it body) ρ S = .ok .nx ρ2 (lockO S2 o false) := by
  have e : sv n C (.for tg it body) ρ S = thenS ((ev C it).I ρ S) ρ fun w S1 => unlockS w.2 (loopS (turnS n C tg body) w.1 ρ (lockO S1 w.2 true)) := rfl
  rw [e, hi, thenS_ok]
  show unlockS o (loopS (turnS n C tg body) xs ρ (lockO S1 o true)) = _
  rw [h]
  rfl
theorem s_asgL {i : Nat} {e : Ex} {xs : List D} (hi : i < ρ.length) (h : (ev C e).E ρ S = .ok (.l xs) S) : sv n C (.asg (.v i) e) ρ S = .ok .nx (ρ.set i (some (.ref S.length))) (S ++ [Cell.lst false xs]) := by
  rw [sv_asg, h, bind_ok, mat_l, thenS_ok]
  show (match (if i < ρ.length then some (ρ.set i (some (.ref S.length))) else none) with | some ρ' => SR.ok .nx ρ' (S ++ [Cell.lst false xs]) | none => .bad) = _
  rw [if_pos hi]
theorem x_mul {a b : Ex} {i j : Int} (ha : (ev C a).E ρ S = .ok (.v (.int i)) S) (hb : (ev C b).E ρ S = .ok (.v (.int j)) S) (h : i.natAbs < 2 ^ 64) : (ev C (.bin .mul a b)).E ρ S = .ok (.v (.int (i * j))) S := by
  rw [ev_bin, ha, bind_ok, hb, bind_ok]
  show opt ((if mulOk i j then some (i * j) else none).map fun k => T.v (.int k)) S = _
  rw [if_pos (mulOk_of h)]
  rfl
theorem x_add {a b : Ex} {i j : Int} {S1 S2 : Store} (ha : (ev C a).E ρ S = .ok (.v (.int i)) S1) (hb : (ev C b).E ρ S1 = .ok (.v (.int j)) S2) : (ev C (.bin .add a b)).E ρ S = .ok (.v (.int (i + j))) S2 := by
  rw [ev_bin, ha, bind_ok, hb, bind_ok]
  rfl
theorem x_sub {a b : Ex} {i j : Int} {S1 S2 : Store} (ha : (ev C a).E ρ S = .ok (.v (.int i)) S1) (hb : (ev C b).E ρ S1 = .ok (.v (.int j)) S2) : (ev C (.bin .sub a b)).E ρ S = .ok (.v (.int (i - j))) S2 := by
  rw [ev_bin, ha, bind_ok, hb, bind_ok]
  rfl
theorem x_neg {a : Ex} {i : Int} (ha : (ev C a).E ρ S = .ok (.v (.int i)) S) : (ev C (.neg a)).E ρ S = .ok (.v (.int (-i))) S := by
  rw [ev_neg, ha, bind_ok]
end
end Ev
-- G2
set_option Elab.async false
set_option linter.all false
set_option maxRecDepth 100000
set_option maxHeartbeats 400000
/-! G2: equal data are equal; rules for tests, loops that break. -/
namespace Ev
open PySem PySem.Spec PyProof.Rows L2
mutual
theorem eqv_refl : ∀ d : D, PyData.eqv d.py d.py = true
  | .non => by simp [D.py, PyData.eqv]
  | .bl b => by simp [D.py, PyData.eqv]
  | .int i => by simp [D.py, PyData.eqv]
  | .str s => by simp [D.py, PyData.eqv]
  | .tup xs => by
    show PyData.eqv (.tuple (D.pys xs)) (.tuple (D.pys xs)) = true
    rw [PyData.eqv]
    exact eqvs_refl xs
  | .ref _ => by simp [D.py, PyData.eqv]
  | .fn _ => by simp [D.py, PyData.eqv]
theorem eqvs_refl : ∀ ds : List D, PyData.eqvAll (D.pys ds) (D.pys ds) = true
  | [] => by simp [D.pys, PyData.eqvAll]
  | x :: xs => by
    show PyData.eqvAll (x.py :: D.pys xs) (x.py :: D.pys xs) = true
    rw [PyData.eqvAll, eqv_refl x, eqvs_refl xs]
    rfl
end
theorem toPy_v {d : D} (h : d.pure = true) (S : Store) : toPy (.v d) S = some d.py := by
  have e : ∀ d' : D, d'.pure = true → (if d'.pure = true then some d'.py else none) = some d'.py := fun d' h => if_pos h
  cases d <;> first | (cases h; done) | exact e _ h
theorem eq_str (a b : Str) (S : Store) : cmp2 .eq (.v (.str a)) (.v (.str b)) S = some (decide (a = b)) := by
  show (if min (PyData.str a).depth (PyData.str b).depth ≤ 60 then some (PyData.eqv (.str a) (.str b)) else none) = _
  have e : PyData.eqv (.str a) (.str b) = decide (a = b) := by
    rw [PyData.eqv]
    by_cases h : a = b
    · rw [decide_eq_true h, h]
      exact beq_self_eq_true _
    · rw [decide_eq_false h]
      exact beq_eq_false_iff_ne.mpr h
  rw [e, if_pos (by simp [PyData.depth])]
theorem ne_self {d : D} (h : d.pure = true) (hd : d.dep ≤ 60) (S : Store) : cmp2 .ne (.v d) (.v d) S = some false := by
  show (eqT (.v d) (.v d) S).map (fun k => !k) = _
  unfold eqT
  rw [toPy_v h]
  show (if min d.py.depth d.py.depth ≤ 60 then some (PyData.eqv d.py d.py) else none).map (fun k => !k) = _
  rw [py_dep, if_pos (Nat.le_trans (Nat.min_le_left _ _) hd), eqv_refl]
  rfl
section
variable {C : Calls} {ρ : Ev.Env} {S : Store} {n : Nat}
theorem b_neD {a b : Ex} {d : D} {S1 S2 : Store} (ha : (ev C a).E ρ S = .ok (.v d) S1) (hb : (ev C b).E ρ S1 = .ok (.v d) S2) (h : d.pure = true) (hd : d.dep ≤ 60) : (ev C (.cmp .ne a b)).B ρ S = .ok false S2 := by
  rw [ev_cmpB, ha, bind_ok, hb, bind_ok, ne_self h hd]
  rfl
theorem b_eqS {a b : Ex} {s t : Str} (ha : (ev C a).E ρ S = .ok (.v (.str s)) S) (hb : (ev C b).E ρ S = .ok (.v (.str t)) S) : (ev C (.cmp .eq a b)).B ρ S = .ok (decide (s = t)) S := by
  rw [ev_cmpB, ha, bind_ok, hb, bind_ok, eq_str]
  rfl
theorem b_isN {a : Ex} {d : D} (ha : (ev C a).E ρ S = .ok (.v d) S) : (ev C (.cmp .isN a (.c .non))).B ρ S = .ok (T.v d).isNon S := by
  rw [ev_cmpB, ha, bind_ok]
  rfl
theorem x_ix {a i : Ex} {xs : List D} {k : Int} {d : D} {S1 S2 : Store} (ha : (ev C a).E ρ S = .ok (.v (.tup xs)) S1) (hi : (ev C i).E ρ S1 = .ok (.v (.int k)) S2) (h : L2.atI xs k = some d) : (ev C (.ix a i)).E ρ S = .ok (.v d) S2 := by
  rw [ev_ix, ha, bind_ok, hi, bind_ok]
  show opt ((L2.atI xs k).map T.v) S2 = _
  rw [h]
  rfl
theorem getF_ref {k : Nat} {xs : List D} {b : Bool} (h : S[k]? = some (.lst b xs)) (j : Int) : getF (.v (.ref k)) (.v (.int j)) S = (L2.atI xs j).map T.v := by
  show (match asL (.v (.ref k)) S with | some xs => (ixAt xs j).map T.v | none => none) = _
  have ea : asL (.v (.ref k)) S = some xs := by
    show (match S[k]? with | some (.lst _ xs) => some xs | some (.ro xs) => some xs | _ => none) = _
    rw [h]
  rw [ea]
  rfl
theorem x_ixL {a i : Ex} {k : Nat} {xs : List D} {b : Bool} {j : Int} {d : D} (ha : (ev C a).E ρ S = .ok (.v (.ref k)) S) (hi : (ev C i).E ρ S = .ok (.v (.int j)) S) (hk : S[k]? = some (.lst b xs)) (h : L2.atI xs j = some d) : (ev C (.ix a i)).E ρ S = .ok (.v d) S := by
  rw [ev_ix, ha, bind_ok, hi, bind_ok, getF_ref hk, h]
  rfl
theorem setF_ref {k : Nat} {xs : List D} (h : S[k]? = some (.lst false xs)) {j : Int} {p : Nat} (hp : L2.ixN xs.length j = some p) (d : D) : setF (.v (.ref k)) (.v (.int j)) d S = some (S.set k (.lst false (xs.set p d))) := by
  show (match S[k]?, D.int j with
    | some (.lst false xs), .int j => (match L2.ixN xs.length j with
      | some p => some (S.set k (.lst false (xs.set p d)))
      | none => none)
    | some (.dT false kvs), k' => if k'.isKey ∧ kvs.length < lim then some (S.set k (.dT false (putD kvs k' d))) else none
    | _, _ => none) = _
  rw [h]
  show (match L2.ixN xs.length j with
      | some p => some (S.set k (.lst false (xs.set p d)))
      | none => none) = _
  rw [hp]
theorem s_seti {o i e : Ex} {k : Nat} {xs : List D} {j : Int} {p : Nat} {d : D} (he : (ev C e).E ρ S = .ok (.v d) S) (ho : (ev C o).E ρ S = .ok (.v (.ref k)) S) (hi : (ev C i).E ρ S = .ok (.v (.int j)) S) (hk : S[k]? = some (.lst false xs)) (hp : L2.ixN xs.length j = some p) :
    sv n C (.seti o i e) ρ S = .ok .nx ρ (S.set k (.lst false (xs.set p d))) := by
  rw [sv_seti, he, bind_ok, mat_v, thenS_ok, ho, bind_ok, hi, bind_ok, setF_ref hk hp]
  rfl
theorem s_subn {o i a b : Ex} {q k : Nat} {xs : List D} {j : Int} {p : Nat} {x y : D} (hq : q < ρ.length) (ha : (ev C a).E ρ S = .ok (.v x) S) (hb : (ev C b).E ρ S = .ok (.v y) S) (ho : (ev C o).E ρ S = .ok (.v (.ref k)) S) (hi : (ev C i).E ρ S = .ok (.v (.int j)) S) (hk : S[k]? = some (.lst false xs)) (hp : L2.ixN xs.length j = some p) :
    sv n C (.subn o i q a b) ρ S = .ok .nx (ρ.set q (some y)) (S.set k (.lst false (xs.set p x))) := by
  rw [sv_subn, evM_cons', ha, bind_ok, mat_v, bind_ok, evM_cons', hb, bind_ok, mat_v, bind_ok, evM_nil, bind_ok, bind_ok, thenS_ok]
  show thenS (((ev C o).E ρ S).bind fun to S2 => ((ev C i).E ρ S2).bind fun ti S3 => optS (setF to ti x S3)) ρ (fun _ S4 => if q < ρ.length then .ok .nx (ρ.set q (some y)) S4 else .bad) = _
  rw [ho, bind_ok, hi, bind_ok, setF_ref hk hp]
  show (if q < ρ.length then SR.ok .nx (ρ.set q (some y)) (S.set k (.lst false (xs.set p x))) else .bad) = _
  rw [if_pos hq]
theorem s_yes {t : Ex} {a b : List St} {S' : Store} (h : (ev C t).B ρ S = .ok true S') : sv n C (.ite t a b) ρ S = svs n C a ρ S' := by
  rw [sv_ite, h, thenS_ok, if_pos rfl]
theorem s_els {t : Ex} {a b : List St} {S' : Store} (h : (ev C t).B ρ S = .ok false S') : sv n C (.ite t a b) ρ S = svs n C b ρ S' := by
  rw [sv_ite, h, thenS_ok, if_neg Bool.false_ne_true]
theorem s_ret {e : Ex} {t : T} {r : List St} {S' : Store} (h : (ev C e).E ρ S = .ok t S') : svs n C (.ret e :: r) ρ S = .ok (.rt t) ρ S' := by
  rw [svs_cons, sv_ret, h, thenS_ok, seqS_rt]
theorem s_ret_exc {e : Ex} {x : Xc} {r : List St} {S' : Store} (h : (ev C e).E ρ S = .exc x S') : svs n C (.ret e :: r) ρ S = .exc x ρ S' := by
  rw [svs_cons, sv_ret, h, thenS_exc, seqS_exc]
theorem x_ifeT {t a b : Ex} (h : (ev C t).B ρ S = .ok true S) : (ev C (.ife t a b)).E ρ S = (ev C a).E ρ S := by
  rw [ev_ife, h, bind_ok, if_pos rfl]
theorem x_ifeF {t a b : Ex} (h : (ev C t).B ρ S = .ok false S) : (ev C (.ife t a b)).E ρ S = (ev C b).E ρ S := by
  rw [ev_ife, h, bind_ok, if_neg Bool.false_ne_true]
/-- values of a row of expressions, one behind another, the store being the same -/
theorem m_nil : evM (evs C []) ρ S = .ok [] S := rfl
theorem m_cons {e : Ex} {es : List Ex} {d : D} {ds : List D} {S1 S2 : Store} (h : (ev C e).E ρ S = .ok (.v d) S1) (r : evM (evs C es) ρ S1 = .ok ds S2) : evM (evs C (e :: es)) ρ S = .ok (d :: ds) S2 := by
  rw [evs_cons, evM_cons', h, bind_ok, mat_v, bind_ok, r, bind_ok]
theorem x_tup {es : List Ex} {ds : List D} {S1 : Store} (h : evM (evs C es) ρ S = .ok ds S1) (hl : ds.length ≤ lim) : (ev C (.tup es)).E ρ S = .ok (.v (.tup ds)) S1 := by
  rw [ev_tup, h, bind_ok, if_pos hl]
theorem x_call {f : Nat} {es : List Ex} {ds : List D} {r : R T} (h : evM (evs C es) ρ S = .ok ds S) (hc : fin S.length (C f ds S) = r) : (ev C (.call f es)).E ρ S = r := by
  rw [ev_call, h, bind_ok]
  exact hc
theorem loopS_app {f : D → Ev.Env → Store → SR} {y : D} {ρ1 : Ev.Env} {S1 : Store} : ∀ (xs : List D) (ρ : Ev.Env) (S : Store), loopS f xs ρ S = .ok .nx ρ1 S1 → (∀ x ∈ xs, ∀ ρ S ρ' S', f x ρ S ≠ .ok .bk ρ' S') → loopS f (xs ++ [y]) ρ S = loopS f [y] ρ1 S1
  | [], ρ, S, h, _ => by
    cases h
    rfl
  | x :: xs, ρ, S, h, hb => by
    rw [List.cons_append, loopS_cons]
    rw [loopS_cons] at h
    cases hf : f x ρ S with
    | bad =>
      rw [hf] at h
      cases h
    | exc a b c =>
      rw [hf] at h
      cases h
    | ok fl ρ2 S2 =>
      rw [hf] at h
      cases fl with
      | nx => exact loopS_app xs ρ2 S2 h fun z hz => hb z (List.mem_cons_of_mem _ hz)
      | ct => exact loopS_app xs ρ2 S2 h fun z hz => hb z (List.mem_cons_of_mem _ hz)
      | bk => exact absurd hf (hb x List.mem_cons_self ρ S ρ2 S2)
      | rt t => cases h
/-- a counted loop, that may break -/
theorem loopS_idx {I : Nat → Ev.Env → Store → Prop} {Q : Ev.Env → Store → Prop} {f : D → Ev.Env → Store → SR} : ∀ (k i : Nat),
    (∀ j ρ S, i ≤ j → j < i + k → I j ρ S → (∃ ρ' S', f (.int (j : Nat)) ρ S = .ok .nx ρ' S' ∧ I (j + 1) ρ' S') ∨ ∃ ρ' S', f (.int (j : Nat)) ρ S = .ok .bk ρ' S' ∧ Q ρ' S') →
    (∀ ρ S, I (i + k) ρ S → Q ρ S) → ∀ ρ S, I i ρ S → ∃ ρ' S', loopS f (intsFrom (i : Nat) k) ρ S = .ok .nx ρ' S' ∧ Q ρ' S'
  | 0, i, _, hq, ρ, S, h => ⟨ρ, S, rfl, hq ρ S h⟩
  | k + 1, i, hf, hq, ρ, S, h => by
    have e0 : ((i : Nat) : Int) + 1 = ((i + 1 : Nat) : Int) := by omega
    show ∃ ρ' S', loopS f (D.int (i : Nat) :: intsFrom ((i : Nat) + 1) k) ρ S = _ ∧ _
    rw [e0]
    rcases hf i ρ S (Nat.le_refl _) (by omega) h with ⟨ρ1, S1, e1, h1⟩ | ⟨ρ1, S1, e1, h1⟩
    · obtain ⟨ρ2, S2, e2, h2⟩ := loopS_idx k (i + 1) (fun j ρ S a b hj => hf j ρ S (by omega) (by omega) hj) (fun ρ S hh => hq ρ S (by rw [show i + (k + 1) = i + 1 + k by omega]; exact hh)) ρ1 S1 h1
      refine ⟨ρ2, S2, ?_, h2⟩
      rw [loopS_cons, e1]
      exact e2
    · refine ⟨ρ1, S1, ?_, h1⟩
      rw [loopS_cons, e1]
      rfl
end
end Ev
-- M1
set_option Elab.async false
set_option linter.all false
set_option maxRecDepth 100000
set_option maxHeartbeats 400000
/-! M1: drawing: _law_bag, _law_take. -/
namespace K02
open PySem Ev
abbrev Mon := List Nat
def nD (n : Nat) : D := .int n
def mD (m : Mon) : D := .tup (m.map nD)
theorem mD_pure (m : Mon) : (mD m).pure = true := pures_map (f := nD) (fun _ => rfl) m
def bagC (b0 b1 b2 : Int) : Cell := .lst false [.int b0, .int b1, .int b2, .ref 1]
/-- the store with the bag at place 2, its cells at place 1 -/
structure BagS (S : Store) (b0 b1 b2 : Int) (cs : List Int) : Prop where
  w : WS S
  c : S[1]? = some (.lst false (cs.map D.int))
  b : S[2]? = some (bagC b0 b1 b2)
theorem BagS.set {S : Store} {b0 b1 b2 : Int} {cs : List Int} (h : BagS S b0 b1 b2 cs) (c0 c1 c2 : Int) : BagS (S.set 2 (bagC c0 c1 c2)) c0 c1 c2 cs := by
  have hl : 2 < S.length := (List.getElem?_eq_some_iff.mp h.b).1
  refine ⟨?_, ?_, ?_⟩
  · unfold WS
    rw [List.length_set, List.all_eq_true]
    intro x hx
    rcases List.mem_or_eq_of_mem_set hx with z | z
    · exact List.all_eq_true.mp h.w x z
    · rw [z]
      show (true && (true && (true && (decide (1 < S.length) && true)))) = true
      rw [decide_eq_true (by omega)]
      rfl
  · rw [List.getElem?_set_ne (by decide)]
    exact h.c
  · rw [List.getElem?_set_self hl]
section
variable {C : Calls} {S : Store} {b0 b1 b2 : Int} {cs : List Int} {ρ : Ev.Env}
theorem bag_ix (h : BagS S b0 b1 b2 cs) (hr : ρ[0]? = some (some (.ref 2))) (k : Int) (d : D) (hk : L2.atI [D.int b0, .int b1, .int b2, .ref 1] k = some d) : (ev C (Ex.ix (Ex.v 0) (Ex.c (.int k)))).E ρ S = .ok (.v d) S := by
  rw [ev_ix, ev_v, hr]
  show (R.ok (T.v (.ref 2)) S).bind (fun ta S1 => ((ev C (Ex.c (.int k))).E ρ S1).bind fun ti S2 => opt (getF ta ti S2) S2) = _
  rw [bind_ok, ev_c, bind_ok]
  have e : getF (.v (.ref 2)) (.v (.int k)) S = some (.v d) := by
    show (match asL (.v (.ref 2)) S with | some xs => (ixAt xs k).map T.v | none => none) = _
    have ea : asL (.v (.ref 2)) S = some [D.int b0, .int b1, .int b2, .ref 1] := by
      show (match S[2]? with | some (.lst _ xs) => some xs | some (.ro xs) => some xs | _ => none) = _
      rw [h.b]
      rfl
    rw [ea]
    show (L2.atI [D.int b0, .int b1, .int b2, .ref 1] k).map T.v = _
    rw [hk]
    rfl
  rw [e]
  rfl
theorem at4_0 : L2.atI [D.int b0, .int b1, .int b2, .ref 1] 0 = some (.int b0) := rfl
theorem at4_1 : L2.atI [D.int b0, .int b1, .int b2, .ref 1] 1 = some (.int b1) := rfl
theorem at4_2 : L2.atI [D.int b0, .int b1, .int b2, .ref 1] 2 = some (.int b2) := rfl
theorem at4_3 : L2.atI [D.int b0, .int b1, .int b2, .ref 1] 3 = some (.ref 1) := rfl
theorem bag_set (h : BagS S b0 b1 b2 cs) (k : Int) (j : Nat) (d : D) (hk : L2.ixN 4 k = some j) : setF (.v (.ref 2)) (.v (.int k)) d S = some (S.set 2 (.lst false (([D.int b0, .int b1, .int b2, .ref 1] : List D).set j d))) := by
  show (match S[2]?, D.int k with
    | some (.lst false xs), .int j => (match L2.ixN xs.length j with
      | some q => some (S.set 2 (.lst false (xs.set q d)))
      | none => none)
    | some (.dT false kvs), k' => if k'.isKey ∧ kvs.length < lim then some (S.set 2 (.dT false (putD kvs k' d))) else none
    | _, _ => none) = _
  rw [h.b]
  show (match L2.ixN 4 k with
      | some q => some (S.set 2 (.lst false (([D.int b0, .int b1, .int b2, .ref 1] : List D).set q d)))
      | none => none) = _
  rw [hk]
abbrev takeEx : Ex := (Ex.bin Op2.add (Ex.sl true false ((Ex.v 0).ix (Ex.c (D.int 3))) ((Ex.v 0).ix (Ex.c (D.int 2))) (Ex.c D.non)) (Ex.lst [Ex.c (D.int 0)])).ix (Ex.c (D.int 0))
theorem take_cell (h : BagS S b0 b1 b2 cs) (hc : ∀ c ∈ cs, 0 ≤ c) (hl : cs.length ≤ 1000) (hr : ρ[0]? = some (some (.ref 2))) : ∃ c : Int, 0 ≤ c ∧ (ev C takeEx).E ρ S = .ok (.v (.int c)) S := by
  have e3 := bag_ix (C := C) h hr 3 (.ref 1) at4_3
  have e2 := bag_ix (C := C) h hr 2 (.int b2) at4_2
  have es : (ev C (Ex.sl true false ((Ex.v 0).ix (Ex.c (D.int 3))) ((Ex.v 0).ix (Ex.c (D.int 2))) (Ex.c D.non))).E ρ S = .ok (.l (cutD (cs.map D.int) (some b2) none)) S := by
    rw [ev_sl, e3, bind_ok]
    show (((ev C ((Ex.v 0).ix (Ex.c (D.int 2)))).E ρ S).bind fun t S1 => (match t with | .v (.int i) => R.ok (some i) S1 | _ => .bad)).bind (fun l S2 => (evP false (ev C (Ex.c D.non)).E ρ S2).bind fun hh S3 => opt (slice (.v (.ref 1)) l hh S3) S3) = _
    rw [e2, bind_ok]
    show opt (slice (.v (.ref 1)) (some b2) none S) S = _
    have esl : slice (.v (.ref 1)) (some b2) none S = some (.l (cutD (cs.map D.int) (some b2) none)) := by
      have ea : asL (.v (.ref 1)) S = some (cs.map D.int) := by
        show (match S[1]? with | some (.lst _ xs) => some xs | some (.ro xs) => some xs | _ => none) = _
        rw [h.c]
      show (asL (.v (.ref 1)) S).map (fun xs => T.l (cutD xs (some b2) none)) = _
      rw [ea]
      rfl
    rw [esl]
    rfl
  obtain ⟨r, hr1, hr2⟩ : ∃ r : List Int, cutD (cs.map D.int) (some b2) none = r.map D.int ∧ ∀ c ∈ r, c ∈ cs := by
    refine ⟨_, by unfold cutD; rw [← List.map_drop, ← List.map_take], fun c hcc => List.mem_of_mem_drop (List.mem_of_mem_take hcc)⟩
  have hlen : (r.map D.int).length ≤ 1000 := by
    rw [← hr1]
    unfold cutD
    rw [List.length_take, List.length_drop, List.length_map]
    omega
  have ea : (ev C (Ex.bin Op2.add (Ex.sl true false ((Ex.v 0).ix (Ex.c (D.int 3))) ((Ex.v 0).ix (Ex.c (D.int 2))) (Ex.c D.non)) (Ex.lst [Ex.c (D.int 0)]))).E ρ S = .ok (.l (r.map D.int ++ [.int 0])) S := by
    rw [ev_bin, es, bind_ok, hr1]
    show opt (if (r.map D.int).length + 1 ≤ lim then some (T.l (r.map D.int ++ [.int 0])) else none) S = _
    rw [if_pos (Nat.le_trans (Nat.succ_le_succ hlen) (by decide))]
    rfl
  cases r with
  | nil =>
    refine ⟨0, Int.le_refl _, ?_⟩
    rw [ev_ix, ea, bind_ok]
    rfl
  | cons c r =>
    refine ⟨c, hc c (hr2 c List.mem_cons_self), ?_⟩
    rw [ev_ix, ea, bind_ok, ev_c, bind_ok]
    show opt ((L2.atI (D.int c :: (r.map D.int ++ [.int 0])) 0).map T.v) S = _
    rw [atI0]
    rfl
end
section
variable {n : Nat} {C : Calls} {S : Store} {b0 b1 b2 : Int} {cs : List Int} {ρ : Ev.Env}
theorem bag_get (h : BagS S b0 b1 b2 cs) (k : Int) (d : D) (hk : L2.atI [D.int b0, .int b1, .int b2, .ref 1] k = some d) : getF (.v (.ref 2)) (.v (.int k)) S = some (.v d) := by
  show (match asL (.v (.ref 2)) S with | some xs => (ixAt xs k).map T.v | none => none) = _
  have ea : asL (.v (.ref 2)) S = some [D.int b0, .int b1, .int b2, .ref 1] := by
    show (match S[2]? with | some (.lst _ xs) => some xs | some (.ro xs) => some xs | _ => none) = _
    rw [h.b]
    rfl
  rw [ea]
  show (L2.atI [D.int b0, .int b1, .int b2, .ref 1] k).map T.v = _
  rw [hk]
  rfl
theorem take_aug (h : BagS S b0 b1 b2 cs) (hr : ρ[0]? = some (some (.ref 2))) : sv n C (.augi (Ex.v 0) (Ex.c (.int 2)) .add (Ex.c (.int 1))) ρ S = .ok .nx ρ (S.set 2 (bagC b0 b1 (b2 + 1))) := by
  show thenS (((ev C (Ex.v 0)).E ρ S).bind fun to S1 => ((ev C (Ex.c (.int 2))).E ρ S1).bind fun ti S2 => (opt (getF to ti S2) S2).bind fun told S3 => ((ev C (Ex.c (.int 1))).E ρ S3).bind fun t S4 => (opt (aug2 .add told t) S4).bind fun d' S5 => optS (setF to ti d' S5)) ρ (fun _ S6 => .ok .nx ρ S6) = _
  rw [ev_v, hr]
  show thenS ((R.ok (T.v (.ref 2)) S).bind fun to S1 => ((ev C (Ex.c (.int 2))).E ρ S1).bind fun ti S2 => (opt (getF to ti S2) S2).bind fun told S3 => ((ev C (Ex.c (.int 1))).E ρ S3).bind fun t S4 => (opt (aug2 .add told t) S4).bind fun d' S5 => optS (setF to ti d' S5)) ρ (fun _ S6 => .ok .nx ρ S6) = _
  rw [bind_ok, ev_c, bind_ok, bag_get h 2 (.int b2) at4_2, opt_some, bind_ok, ev_c, bind_ok]
  show thenS (optS (setF (.v (.ref 2)) (.v (.int 2)) (.int (b2 + 1)) S)) ρ (fun _ S6 => .ok .nx ρ S6) = _
  rw [bag_set h 2 2 _ rfl]
  rfl
theorem take_set0 (h : BagS S b0 b1 b2 cs) (hr : ρ[0]? = some (some (.ref 2))) {e : Ex} {v : Int} (he : (ev C e).E ρ S = .ok (.v (.int v)) S) : sv n C (.seti (Ex.v 0) (Ex.c (.int 0)) e) ρ S = .ok .nx ρ (S.set 2 (bagC v b1 b2)) := by
  rw [sv_seti, he, bind_ok, mat_v, thenS_ok, ev_v, hr]
  show thenS ((R.ok (T.v (.ref 2)) S).bind fun to S2 => ((ev C (Ex.c (.int 0))).E ρ S2).bind fun ti S3 => optS (setF to ti (.int v) S3)) ρ (fun _ S4 => .ok .nx ρ S4) = _
  rw [bind_ok, ev_c, bind_ok, bag_set h 0 0 _ rfl]
  rfl
theorem take_set1 (h : BagS S b0 b1 b2 cs) (hr : ρ[0]? = some (some (.ref 2))) {e : Ex} {v : Int} (he : (ev C e).E ρ S = .ok (.v (.int v)) S) : sv n C (.seti (Ex.v 0) (Ex.c (.int 1)) e) ρ S = .ok .nx ρ (S.set 2 (bagC b0 v b2)) := by
  rw [sv_seti, he, bind_ok, mat_v, thenS_ok, ev_v, hr]
  show thenS ((R.ok (T.v (.ref 2)) S).bind fun to S2 => ((ev C (Ex.c (.int 1))).E ρ S2).bind fun ti S3 => optS (setF to ti (.int v) S3)) ρ (fun _ S4 => .ok .nx ρ S4) = _
  rw [bind_ok, ev_c, bind_ok, bag_set h 1 1 _ rfl]
  rfl
theorem t18 : (ev C (Ex.bin Op2.pow (Ex.c (D.int 10)) (Ex.c (D.int 18)))).E ρ S = .ok (.v (.int 1000000000000000000)) S := by kernel_rfl
abbrev takeIf : St := St.ite (Ex.cmp Cm.ge (Ex.v 2) (Ex.bin Op2.pow (Ex.c (D.int 10)) (Ex.c (D.int 18)))) [St.seti (Ex.v 0) (Ex.c (D.int 0)) (Ex.v 2)] []
theorem take_if (h : BagS S b0 b1 b2 cs) (h0 : 0 ≤ b0) {c : Int} (hc : 0 ≤ c) (hr : ρ[0]? = some (some (.ref 2))) (hr2 : ρ[2]? = some (some (.int c))) : ∃ c0, 0 ≤ c0 ∧ sv n C takeIf ρ S = .ok .nx ρ (S.set 2 (bagC c0 b1 b2)) := by
  have ev2 : (ev C (Ex.v 2)).E ρ S = .ok (.v (.int c)) S := by
    rw [ev_v, hr2]
  have hb : (ev C (Ex.cmp Cm.ge (Ex.v 2) (Ex.bin Op2.pow (Ex.c (D.int 10)) (Ex.c (D.int 18))))).B ρ S = .ok (decide (1000000000000000000 ≤ c)) S := by
    rw [ev_cmpB, ev2, bind_ok, t18, bind_ok]
    rfl
  by_cases hq : 1000000000000000000 ≤ c
  · refine ⟨c, hc, ?_⟩
    rw [sv_ite, hb, thenS_ok, decide_eq_true hq, if_pos rfl, svs_cons, take_set0 h hr ev2]
    rfl
  · refine ⟨b0, h0, ?_⟩
    rw [sv_ite, hb, thenS_ok, decide_eq_false hq, if_neg Bool.false_ne_true, svs_nil]
    have : S.set 2 (bagC b0 b1 b2) = S := by
      apply List.ext_getElem?
      intro i
      by_cases e : 2 = i
      · subst e
        rw [List.getElem?_set_self (List.getElem?_eq_some_iff.mp h.b).1, h.b]
      · rw [List.getElem?_set_ne e]
    rw [this]
abbrev takeMix : Ex := Ex.bin Op2.add (Ex.bin Op2.add (Ex.bin Op2.mul ((Ex.v 0).ix (Ex.c (D.int 1))) (Ex.c (D.int 48271))) (Ex.bin Op2.mod (Ex.bi Bi.int [Ex.v 2]) (Ex.c (D.int 2147483647)))) (Ex.bin Op2.mul (Ex.c (D.int 7919)) ((Ex.v 0).ix (Ex.c (D.int 2))))
theorem take_mix (h : BagS S b0 b1 b2 cs) {c : Int} (hr : ρ[0]? = some (some (.ref 2))) (hr2 : ρ[2]? = some (some (.int c))) : ∃ v : Int, (ev C takeMix).E ρ S = .ok (.v (.int v)) S := by
  have e1 := bag_ix (C := C) h hr 1 (.int b1) at4_1
  have e2 := bag_ix (C := C) h hr 2 (.int b2) at4_2
  have ev2 : (ev C (Ex.v 2)).E ρ S = .ok (.v (.int c)) S := by
    rw [ev_v, hr2]
  have m1 : bin2 .mul (.v (.int b1)) (.v (.int 48271)) S = some (.v (.int (b1 * 48271))) := by
    show ((if mulOk b1 48271 then some (b1 * 48271) else none).map fun k => T.v (.int k)) = _
    rw [if_pos (mulOk_r (by decide))]
    rfl
  have m2 : bin2 .mul (.v (.int 7919)) (.v (.int b2)) S = some (.v (.int (7919 * b2))) := by
    show ((if mulOk 7919 b2 then some (7919 * b2) else none).map fun k => T.v (.int k)) = _
    rw [if_pos (mulOk_of (by decide))]
    rfl
  have md : (ev C (Ex.bin Op2.mod (Ex.bi Bi.int [Ex.v 2]) (Ex.c (D.int 2147483647)))).E ρ S = .ok (.v (.int (c % 2147483647))) S := by
    rw [ev_bin, ev_bi, evs_cons, evs_nil, evTs_cons, ev2, bind_ok, evTs_nil, bind_ok, bind_ok]
    rfl
  refine ⟨b1 * 48271 + c % 2147483647 + 7919 * b2, ?_⟩
  rw [ev_bin, ev_bin, ev_bin, e1, bind_ok, ev_c, bind_ok, m1, opt_some, bind_ok, md, bind_ok]
  show (R.ok (T.v (.int (b1 * 48271 + c % 2147483647))) S).bind (fun ta S1 => ((ev C (Ex.bin Op2.mul (Ex.c (D.int 7919)) ((Ex.v 0).ix (Ex.c (D.int 2))))).E ρ S1).bind fun tb S2 => opt (bin2 .add ta tb S2) S2) = _
  rw [bind_ok, ev_bin, ev_c, bind_ok, e2, bind_ok, m2, opt_some, bind_ok]
  rfl
end
section
variable {n : Nat} {C : Calls} {S : Store} {b0 b1 b2 : Int} {cs : List Int} {ρ : Ev.Env}
theorem bag_same (h : BagS S b0 b1 b2 cs) : S.set 2 (bagC b0 b1 b2) = S := by
  apply List.ext_getElem?
  intro i
  by_cases e : 2 = i
  · subst e
    rw [List.getElem?_set_self (List.getElem?_eq_some_iff.mp h.b).1, h.b]
  · rw [List.getElem?_set_ne e]
abbrev takeA : List St := [St.asg (Tg.v 2) takeEx, St.augi (Ex.v 0) (Ex.c (D.int 2)) Op2.add (Ex.c (D.int 1)), takeIf, St.asg (Tg.v 3) takeMix, St.seti (Ex.v 0) (Ex.c (D.int 1)) (Ex.bin Op2.mod (Ex.bi Bi.int [Ex.v 3]) (Ex.c (D.int 2147483647)))]
abbrev takeB : St := St.ite (Ex.cmp Cm.eq ((Ex.v 0).ix (Ex.c (D.int 0))) (Ex.c (D.int 0))) takeA []
theorem take_A (h : BagS S b0 b1 b2 cs) (h0 : 0 ≤ b0) (hc : ∀ c ∈ cs, 0 ≤ c) (hl : cs.length ≤ 1000) (M : Option D) : ∃ x2 x3 c0 c1 c2, 0 ≤ c0 ∧
    sv n C takeB [some (.ref 2), M, none, none, none, none, none] S = .ok .nx [some (.ref 2), M, x2, x3, none, none, none] (S.set 2 (bagC c0 c1 c2)) := by
  have e0 := bag_ix (C := C) (ρ := [some (.ref 2), M, none, none, none, none, none]) h rfl 0 (.int b0) at4_0
  have hb : (ev C (Ex.cmp Cm.eq ((Ex.v 0).ix (Ex.c (D.int 0))) (Ex.c (D.int 0)))).B [some (.ref 2), M, none, none, none, none, none] S = .ok (decide (b0 = 0)) S := by
    rw [ev_cmpB, e0, bind_ok, ev_c, bind_ok, eq_int]
    rfl
  by_cases hz : b0 = 0
  · obtain ⟨c, hc0, ec⟩ := take_cell (C := C) (ρ := [some (.ref 2), M, none, none, none, none, none]) h hc hl rfl
    have s2 := take_aug (n := n) (C := C) (ρ := [some (.ref 2), M, some (.int c), none, none, none, none]) h rfl
    have hB2 := h.set b0 b1 (b2 + 1)
    obtain ⟨d0, hd0, s3⟩ := take_if (n := n) (C := C) (ρ := [some (.ref 2), M, some (.int c), none, none, none, none]) hB2 h0 hc0 rfl rfl
    rw [List.set_set] at s3
    have hB3 := h.set d0 b1 (b2 + 1)
    obtain ⟨v, ev3⟩ := take_mix (C := C) (ρ := [some (.ref 2), M, some (.int c), none, none, none, none]) hB3 rfl rfl
    have md : (ev C (Ex.bin Op2.mod (Ex.bi Bi.int [Ex.v 3]) (Ex.c (D.int 2147483647)))).E [some (.ref 2), M, some (.int c), some (.int v), none, none, none] (S.set 2 (bagC d0 b1 (b2 + 1))) = .ok (.v (.int (v % 2147483647))) (S.set 2 (bagC d0 b1 (b2 + 1))) := rfl
    have s5 := take_set1 (n := n) (C := C) (ρ := [some (.ref 2), M, some (.int c), some (.int v), none, none, none]) hB3 rfl md
    rw [List.set_set] at s5
    refine ⟨some (.int c), some (.int v), d0, v % 2147483647, b2 + 1, hd0, ?_⟩
    rw [sv_ite, hb, thenS_ok, decide_eq_true hz, if_pos rfl, svs_cons, sv_asg, ec, bind_ok, mat_v, thenS_ok]
    show seqS (SR.ok .nx [some (.ref 2), M, some (.int c), none, none, none, none] S) _ = _
    rw [seqS_nx, svs_cons, s2, seqS_nx, svs_cons, s3, seqS_nx, svs_cons, sv_asg, ev3, bind_ok, mat_v, thenS_ok]
    show seqS (SR.ok .nx [some (.ref 2), M, some (.int c), some (.int v), none, none, none] (S.set 2 (bagC d0 b1 (b2 + 1)))) _ = _
    rw [seqS_nx, svs_cons, s5, seqS_nx, svs_nil]
  · refine ⟨none, none, b0, b1, b2, h0, ?_⟩
    rw [sv_ite, hb, thenS_ok, decide_eq_false hz, if_neg Bool.false_ne_true, svs_nil, bag_same h]
theorem fdivOk {i j : Int} (h0 : 0 < j) (h : j.natAbs < 2 ^ 8) : Ev.binI .fdiv i j = some (i / j) := by
  have h2 : (2 : Nat) ^ 8 ≤ 2 ^ 8000 := Nat.pow_le_pow_right (by decide) (by decide)
  unfold Ev.binI
  exact if_pos ⟨h0, Nat.lt_of_lt_of_le h h2⟩
theorem modOk {i j : Int} (h0 : 0 < j) : Ev.binI .mod i j = some (i % j) := by
  unfold Ev.binI
  exact if_pos h0
end
abbrev takeC : St := St.ite (Ex.cmp Cm.gt ((Ex.v 0).ix (Ex.c (D.int 0))) (Ex.c (D.int 0))) [St.asg (Tg.v 4) (Ex.bin Op2.mod (Ex.bi Bi.int [(Ex.v 0).ix (Ex.c (D.int 0))]) (Ex.v 1)), St.seti (Ex.v 0) (Ex.c (D.int 0)) (Ex.bin Op2.fdiv (Ex.bi Bi.int [(Ex.v 0).ix (Ex.c (D.int 0))]) (Ex.v 1)), St.ret (Ex.v 4)] []
abbrev takeD5 : Ex := (Ex.bin Op2.mod (Ex.bi Bi.int [Ex.bin Op2.mul (Ex.bin Op2.add ((Ex.v 0).ix (Ex.c (D.int 1))) (Ex.c (D.int 1))) (Ex.c (D.int 39373))]) (Ex.c (D.int 1000000007)))
abbrev takeD6 : Ex := (Ex.bin Op2.mod (Ex.bi Bi.int [Ex.bin Op2.mul (Ex.bin Op2.mod (Ex.bi Bi.int [Ex.bin Op2.mul (Ex.v 5) (Ex.v 5)]) (Ex.c (D.int 998244353))) (Ex.c (D.int 30011))]) (Ex.c (D.int 998244353)))
abbrev takeD7 : Ex := (Ex.bin Op2.mod (Ex.bi Bi.int [Ex.bin Op2.fdiv (Ex.v 6) (Ex.c (D.int 7))]) (Ex.v 1))
theorem t_take (n : Nat) {S : Store} {b0 b1 b2 : Int} {cs : List Int} (h : BagS S b0 b1 b2 cs) (h0 : 0 ≤ b0) (hc : ∀ c ∈ cs, 0 ≤ c) (hl : cs.length ≤ 1000) {M : Nat} (hM : 0 < M) (hM9 : M ≤ 100) :
    ∃ (v : Nat) (c0 c1 c2 : Int), v < M ∧ 0 ≤ c0 ∧ callN F (n + 1) 25 [.ref 2, .int (M : Nat)] S = .ok (.v (nD v)) (S.set 2 (bagC c0 c1 c2)) := by
  rw [callN_at (fd := f__law_take) rfl rfl]
  obtain ⟨x2, x3, c0, c1, c2, hc0, eA⟩ := take_A (n := n) (C := callN F n) h h0 hc hl (some (.int (M : Nat)))
  have hB := h.set c0 c1 c2
  have hM0 : (0 : Int) < (M : Nat) := by omega
  have e0 := bag_ix (C := callN F n) (ρ := [some (.ref 2), some (.int (M : Nat)), x2, x3, none, none, none]) hB rfl 0 (.int c0) at4_0
  have hb : (ev (callN F n) (Ex.cmp Cm.gt ((Ex.v 0).ix (Ex.c (D.int 0))) (Ex.c (D.int 0)))).B [some (.ref 2), some (.int (M : Nat)), x2, x3, none, none, none] (S.set 2 (bagC c0 c1 c2)) = .ok (decide (0 < c0)) (S.set 2 (bagC c0 c1 c2)) := by
    rw [ev_cmpB, e0, bind_ok, ev_c, bind_ok]
    rfl
  have start : ∀ r, fin0 (svs n (callN F n) [takeC, St.asg (Tg.v 5) takeD5, St.asg (Tg.v 6) takeD6, St.ret takeD7] [some (.ref 2), some (.int (M : Nat)), x2, x3, none, none, none] (S.set 2 (bagC c0 c1 c2))) = r →
      fin0 (svs n (callN F n) f__law_take.body (startE f__law_take.nn [.ref 2, .int (M : Nat)]) S) = r := by
    intro r hr
    show fin0 (svs n (callN F n) (takeB :: [takeC, St.asg (Tg.v 5) takeD5, St.asg (Tg.v 6) takeD6, St.ret takeD7]) [some (.ref 2), some (.int (M : Nat)), none, none, none, none, none] S) = r
    rw [svs_cons, eA, seqS_nx]
    exact hr
  by_cases hp : 0 < c0
  · have e4 : (ev (callN F n) (Ex.bin Op2.mod (Ex.bi Bi.int [(Ex.v 0).ix (Ex.c (D.int 0))]) (Ex.v 1))).E [some (.ref 2), some (.int (M : Nat)), x2, x3, none, none, none] (S.set 2 (bagC c0 c1 c2)) = .ok (.v (.int (c0 % (M : Nat)))) (S.set 2 (bagC c0 c1 c2)) := by
      rw [ev_bin, ev_bi, evs_cons, evs_nil, evTs_cons, e0, bind_ok, evTs_nil, bind_ok, bind_ok]
      show opt ((Ev.binI .mod c0 (M : Nat)).map fun k => T.v (.int k)) _ = _
      rw [modOk hM0]
      rfl
    have e0' := bag_ix (C := callN F n) (ρ := [some (.ref 2), some (.int (M : Nat)), x2, x3, some (.int (c0 % (M : Nat))), none, none]) hB rfl 0 (.int c0) at4_0
    have e5 : (ev (callN F n) (Ex.bin Op2.fdiv (Ex.bi Bi.int [(Ex.v 0).ix (Ex.c (D.int 0))]) (Ex.v 1))).E [some (.ref 2), some (.int (M : Nat)), x2, x3, some (.int (c0 % (M : Nat))), none, none] (S.set 2 (bagC c0 c1 c2)) = .ok (.v (.int (c0 / (M : Nat)))) (S.set 2 (bagC c0 c1 c2)) := by
      rw [ev_bin, ev_bi, evs_cons, evs_nil, evTs_cons, e0', bind_ok, evTs_nil, bind_ok, bind_ok]
      show opt ((Ev.binI .fdiv c0 (M : Nat)).map fun k => T.v (.int k)) _ = _
      rw [fdivOk hM0 (by omega)]
      rfl
    have s5 := take_set0 (n := n) (C := callN F n) (ρ := [some (.ref 2), some (.int (M : Nat)), x2, x3, some (.int (c0 % (M : Nat))), none, none]) hB rfl e5
    rw [List.set_set] at s5
    have hv1 := Int.emod_nonneg c0 (show ((M : Nat) : Int) ≠ 0 by omega)
    have hv2 := Int.emod_lt_of_pos c0 hM0
    refine ⟨(c0 % (M : Nat)).toNat, c0 / (M : Nat), c1, c2, by omega, Int.ediv_nonneg hc0 (by omega), start _ ?_⟩
    rw [svs_cons, sv_ite, hb, thenS_ok, decide_eq_true hp, if_pos rfl, svs_cons, sv_asg, e4, bind_ok, mat_v, thenS_ok]
    show fin0 (seqS (seqS (SR.ok .nx [some (.ref 2), some (.int (M : Nat)), x2, x3, some (.int (c0 % (M : Nat))), none, none] (S.set 2 (bagC c0 c1 c2))) _) _) = _
    rw [seqS_nx, svs_cons, s5, seqS_nx, svs_cons, sv_ret]
    show R.ok (T.v (.int (c0 % (M : Nat)))) _ = R.ok (T.v (.int ((c0 % (M : Nat)).toNat : Nat))) _
    rw [Int.toNat_of_nonneg hv1]
  · have e1 := bag_ix (C := callN F n) (ρ := [some (.ref 2), some (.int (M : Nat)), x2, x3, none, none, none]) hB rfl 1 (.int c1) at4_1
    have m5 : ∀ S', bin2 .mul (.v (.int (c1 + 1))) (.v (.int 39373)) S' = some (.v (.int ((c1 + 1) * 39373))) := fun S' => by
      show ((if mulOk (c1 + 1) 39373 then some ((c1 + 1) * 39373) else none).map fun k => T.v (.int k)) = _
      rw [if_pos (mulOk_r (by decide))]
      rfl
    have e5 : (ev (callN F n) takeD5).E [some (.ref 2), some (.int (M : Nat)), x2, x3, none, none, none] (S.set 2 (bagC c0 c1 c2)) = .ok (.v (.int ((c1 + 1) * 39373 % 1000000007))) (S.set 2 (bagC c0 c1 c2)) := by
      rw [ev_bin, ev_bi, evs_cons, evs_nil, evTs_cons, ev_bin, ev_bin, e1, bind_ok, ev_c, bind_ok]
      show ((((R.ok (T.v (.int (c1 + 1))) (S.set 2 (bagC c0 c1 c2))).bind fun ta S1 => ((ev (callN F n) (Ex.c (D.int 39373))).E [some (.ref 2), some (.int (M : Nat)), x2, x3, none, none, none] S1).bind fun tb S2 => opt (bin2 .mul ta tb S2) S2).bind fun t S1 => (evTs [] [some (.ref 2), some (.int (M : Nat)), x2, x3, none, none, none] S1).bind fun ts S2 => R.ok (t :: ts) S2).bind fun ts S1 => opt (biF .int ts S1) S1).bind _ = _
      rw [bind_ok, ev_c, bind_ok, m5, opt_some, bind_ok, evTs_nil, bind_ok, bind_ok]
      rfl
    have ha1 := Int.emod_nonneg ((c1 + 1) * 39373) (show (1000000007 : Int) ≠ 0 by decide)
    have ha2 := Int.emod_lt_of_pos ((c1 + 1) * 39373) (show (0 : Int) < 1000000007 by decide)
    generalize (c1 + 1) * 39373 % 1000000007 = a at e5 ha1 ha2
    have e6 : ∃ f : Int, (ev (callN F n) takeD6).E [some (.ref 2), some (.int (M : Nat)), x2, x3, none, some (.int a), none] (S.set 2 (bagC c0 c1 c2)) = .ok (.v (.int f)) (S.set 2 (bagC c0 c1 c2)) := by
      have ev5 : (ev (callN F n) (Ex.v 5)).E [some (.ref 2), some (.int (M : Nat)), x2, x3, none, some (.int a), none] (S.set 2 (bagC c0 c1 c2)) = .ok (.v (.int a)) (S.set 2 (bagC c0 c1 c2)) := rfl
      have m6 : ∀ S', bin2 .mul (.v (.int a)) (.v (.int a)) S' = some (.v (.int (a * a))) := fun S' => by
        show ((if mulOk a a then some (a * a) else none).map fun k => T.v (.int k)) = _
        rw [if_pos (mulOk_of (by omega))]
        rfl
      have q1 : (ev (callN F n) (Ex.bin Op2.mod (Ex.bi Bi.int [Ex.bin Op2.mul (Ex.v 5) (Ex.v 5)]) (Ex.c (D.int 998244353)))).E [some (.ref 2), some (.int (M : Nat)), x2, x3, none, some (.int a), none] (S.set 2 (bagC c0 c1 c2)) = .ok (.v (.int (a * a % 998244353))) (S.set 2 (bagC c0 c1 c2)) := by
        rw [ev_bin, ev_bi, evs_cons, evs_nil, evTs_cons, ev_bin, ev5, bind_ok, ev5, bind_ok, m6, opt_some, bind_ok, evTs_nil, bind_ok, bind_ok]
        rfl
      have m7 : ∀ (x : Int) S', bin2 .mul (.v (.int x)) (.v (.int 30011)) S' = some (.v (.int (x * 30011))) := fun x S' => by
        show ((if mulOk x 30011 then some (x * 30011) else none).map fun k => T.v (.int k)) = _
        rw [if_pos (mulOk_r (by decide))]
        rfl
      refine ⟨a * a % 998244353 * 30011 % 998244353, ?_⟩
      rw [ev_bin, ev_bi, evs_cons, evs_nil, evTs_cons, ev_bin, q1, bind_ok, ev_c, bind_ok, m7, opt_some, bind_ok, evTs_nil, bind_ok, bind_ok]
      rfl
    obtain ⟨f, e6⟩ := e6
    have e7 : (ev (callN F n) takeD7).E [some (.ref 2), some (.int (M : Nat)), x2, x3, none, some (.int a), some (.int f)] (S.set 2 (bagC c0 c1 c2)) = .ok (.v (.int (f / 7 % (M : Nat)))) (S.set 2 (bagC c0 c1 c2)) := by
      have ev6 : (ev (callN F n) (Ex.v 6)).E [some (.ref 2), some (.int (M : Nat)), x2, x3, none, some (.int a), some (.int f)] (S.set 2 (bagC c0 c1 c2)) = .ok (.v (.int f)) (S.set 2 (bagC c0 c1 c2)) := rfl
      have d7 : ∀ S', bin2 .fdiv (.v (.int f)) (.v (.int 7)) S' = some (.v (.int (f / 7))) := fun S' => by
        show (Ev.binI .fdiv f 7).map (fun k => T.v (.int k)) = _
        rw [fdivOk (by decide) (by decide)]
        rfl
      rw [ev_bin, ev_bi, evs_cons, evs_nil, evTs_cons, ev_bin, ev6, bind_ok, ev_c, bind_ok, d7, opt_some, bind_ok, evTs_nil, bind_ok, bind_ok]
      show opt ((Ev.binI .mod (f / 7) (M : Nat)).map fun k => T.v (.int k)) _ = _
      rw [modOk hM0]
      rfl
    have hv1 := Int.emod_nonneg (f / 7) (show ((M : Nat) : Int) ≠ 0 by omega)
    have hv2 := Int.emod_lt_of_pos (f / 7) hM0
    refine ⟨(f / 7 % (M : Nat)).toNat, c0, c1, c2, by omega, hc0, start _ ?_⟩
    rw [svs_cons, sv_ite, hb, thenS_ok, decide_eq_false hp, if_neg Bool.false_ne_true, svs_nil, seqS_nx, svs_cons, sv_asg, e5, bind_ok, mat_v, thenS_ok]
    show fin0 (seqS (SR.ok .nx [some (.ref 2), some (.int (M : Nat)), x2, x3, none, some (.int a), none] (S.set 2 (bagC c0 c1 c2))) _) = _
    rw [seqS_nx, svs_cons, sv_asg, e6, bind_ok, mat_v, thenS_ok]
    show fin0 (seqS (SR.ok .nx [some (.ref 2), some (.int (M : Nat)), x2, x3, none, some (.int a), some (.int f)] (S.set 2 (bagC c0 c1 c2))) _) = _
    rw [seqS_nx, svs_cons, sv_ret, e7]
    show R.ok (T.v (.int (f / 7 % (M : Nat)))) _ = R.ok (T.v (.int ((f / 7 % (M : Nat)).toNat : Nat))) _
    rw [Int.toNat_of_nonneg hv1]
theorem t_bag (n : Nat) (ns : List Int) (hn : ns.length ≤ 63) : ∃ cs : List Int, (∀ c ∈ cs, 0 ≤ c) ∧ cs.length ≤ 1000 ∧
    callN F (n + 1) 24 [.ref 0] [.ro (ns.map D.int)] = .ok (.l [.int 0, .int 1234567891, .int 0, .ref 1]) [.ro (ns.map D.int), .lst false (cs.map D.int)] := by
  obtain ⟨r, hr1, hr2⟩ : ∃ r : List Int, cutD (ns.map D.int) none (some 63) = r.map D.int ∧ r.length ≤ 63 := by
    refine ⟨_, by unfold cutD; rw [← List.map_drop, ← List.map_take], ?_⟩
    rw [List.length_take, List.length_drop]
    omega
  refine ⟨r.map fun i => if i < 0 then -i else i, fun c hc => ?_, by rw [List.length_map]; omega, ?_⟩
  · obtain ⟨i, _, rfl⟩ := List.mem_map.mp hc
    split <;> omega
  · rw [callN_at (fd := f__law_bag) rfl rfl]
    have es : slice (.v (.ref 0)) none (some 63) [Cell.ro (ns.map D.int)] = some (.l (r.map D.int)) := by
      show some (T.l (cutD (ns.map D.int) none (some 63))) = _
      rw [hr1]
    have it : (ev (callN F n) (Ex.sl false true (Ex.v 0) (Ex.c D.non) (Ex.c (D.int 63)))).I [some (.ref 0), none] [Cell.ro (ns.map D.int)] = .ok (r.map D.int, none) [Cell.ro (ns.map D.int)] := by
      show (((ev (callN F n) (Ex.sl false true (Ex.v 0) (Ex.c D.non) (Ex.c (D.int 63)))).E [some (.ref 0), none] [Cell.ro (ns.map D.int)]).bind fun t S1 => opt (itQ t S1) S1) = _
      have e : (ev (callN F n) (Ex.sl false true (Ex.v 0) (Ex.c D.non) (Ex.c (D.int 63)))).E [some (.ref 0), none] [Cell.ro (ns.map D.int)] = .ok (.l (r.map D.int)) [Cell.ro (ns.map D.int)] := by
        rw [ev_sl]
        show opt (slice (.v (.ref 0)) none (some 63) [Cell.ro (ns.map D.int)]) [Cell.ro (ns.map D.int)] = _
        rw [es]
        rfl
      rw [e, bind_ok]
      rfl
    have c : (ev (callN F n) (Ex.lc [1] (Ex.bi Bi.abs [Ex.v 1]) (Tg.v 1) (Ex.sl false true (Ex.v 0) (Ex.c D.non) (Ex.c (D.int 63))) [])).E [some (.ref 0), none] [Cell.ro (ns.map D.int)] = .ok (.l ((r.map fun i => if i < 0 then -i else i).map D.int)) [Cell.ro (ns.map D.int)] := by
      rw [ev_lc, evL_ok (g := fun x => some (match x with | .int i => .int (if i < 0 then -i else i) | x => x)) it (by rw [List.length_map]; exact Nat.le_trans hr2 (by decide)) (fun x hx => ?_) rfl]
      · rw [fm_some, List.map_map, List.map_map]
        rfl
      · obtain ⟨i, _, rfl⟩ := List.mem_map.mp hx
        rfl
    have l : (ev (callN F n) (Ex.lst [Ex.c (D.int 0), Ex.c (D.int 1234567891), Ex.c (D.int 0), Ex.lc [1] (Ex.bi Bi.abs [Ex.v 1]) (Tg.v 1) (Ex.sl false true (Ex.v 0) (Ex.c D.non) (Ex.c (D.int 63))) []])).E [some (.ref 0), none] [Cell.ro (ns.map D.int)] =
        .ok (.l [.int 0, .int 1234567891, .int 0, .ref 1]) [.ro (ns.map D.int), .lst false ((r.map fun i => if i < 0 then -i else i).map D.int)] := by
      rw [ev_lst, evs_cons, evs_cons, evs_cons, evs_cons, evs_nil, evM_cons', ev_c, bind_ok, mat_v, bind_ok, evM_cons', ev_c, bind_ok, mat_v, bind_ok, evM_cons', ev_c, bind_ok, mat_v, bind_ok, evM_cons', c]
      rfl
    show fin0 (svs n (callN F n) f__law_bag.body [some (.ref 0), none] [Cell.ro (ns.map D.int)]) = _
    unfold f__law_bag
    rw [svs_cons, sv_ret, l]
    rfl
def BG (S : Store) : Prop := ∃ b0 b1 b2 cs, BagS S b0 b1 b2 cs ∧ 0 ≤ b0 ∧ (∀ c ∈ cs, (0 : Int) ≤ c) ∧ cs.length ≤ 1000
def OkB (c : Cell) : Prop := ∃ c0 c1 c2, c = bagC c0 c1 c2 ∧ 0 ≤ c0
theorem BG.w {S : Store} (h : BG S) : WS S := by
  obtain ⟨_, _, _, _, h, _⟩ := h
  exact h.w
theorem BG.lt {S : Store} (h : BG S) : 2 < S.length := by
  obtain ⟨_, _, _, _, h, _⟩ := h
  exact (List.getElem?_eq_some_iff.mp h.b).1
theorem BG.set {S : Store} (h : BG S) {c : Cell} (hc : OkB c) : BG (S.set 2 c) := by
  obtain ⟨b0, b1, b2, cs, h, h0, h1, h2⟩ := h
  obtain ⟨c0, c1, c2, rfl, hc⟩ := hc
  exact ⟨c0, c1, c2, cs, h.set c0 c1 c2, hc, h1, h2⟩
theorem BG.same {S : Store} (h : BG S) : ∃ c, OkB c ∧ S.set 2 c = S := by
  obtain ⟨b0, b1, b2, cs, h, h0, h1, h2⟩ := h
  exact ⟨_, ⟨b0, b1, b2, rfl, h0⟩, bag_same h⟩
theorem BG.push {S : Store} (h : BG S) {x : Cell} (w : WS (S ++ [x])) : BG (S ++ [x]) := by
  have hl := h.lt
  obtain ⟨b0, b1, b2, cs, h, h0, h1, h2⟩ := h
  exact ⟨b0, b1, b2, cs, ⟨w, by rw [List.getElem?_append_left (by omega)]; exact h.c, by rw [List.getElem?_append_left (by omega)]; exact h.b⟩, h0, h1, h2⟩
theorem BG.pushed {S : Store} (h : BG S) (x c : Cell) : (S ++ [x]).set 2 c = S.set 2 c ++ [x] := List.set_append_left _ _ h.lt
/-- what takes give -/
def Tk (C : Calls) : Prop := ∀ (S : Store) (M : Nat), BG S → 0 < M → M ≤ 100 → ∃ (v : Nat) (c : Cell), v < M ∧ OkB c ∧ fin S.length (C 25 [.ref 2, .int (M : Nat)] S) = .ok (.v (nD v)) (S.set 2 c)
theorem tk_F (n : Nat) : Tk (callN F (n + 1)) := fun S M h hM hM9 => by
  have hh := h
  obtain ⟨b0, b1, b2, cs, h, h0, h1, h2⟩ := h
  obtain ⟨v, c0, c1, c2, hv, hc, e⟩ := t_take n h h0 h1 h2 hM hM9
  refine ⟨v, _, hv, ⟨c0, c1, c2, rfl, hc⟩, ?_⟩
  rw [e]
  have z := fin_v0 (d := nD v) (h.set c0 c1 c2).w rfl
  rw [List.length_set] at z
  exact z
theorem tk_ev {C : Calls} (hC : Tk C) {ρ : Ev.Env} {b M : Nat} (hb : ρ[b]? = some (some (.ref 2))) (hM : 0 < M) (hM9 : M ≤ 100) {S : Store} (h : BG S) :
    ∃ (v : Nat) (c : Cell), v < M ∧ OkB c ∧ (ev C (.call 25 [.v b, .c (.int (M : Nat))])).E ρ S = .ok (.v (nD v)) (S.set 2 c) := by
  obtain ⟨v, c, hv, hc, e⟩ := hC S M h hM hM9
  refine ⟨v, c, hv, hc, ?_⟩
  have eb : (ev C (Ex.v b)).E ρ S = .ok (.v (.ref 2)) S := by
    rw [ev_v, hb]
  rw [ev_call, evs_cons, evs_cons, evs_nil, evM_cons', eb, bind_ok, mat_v, bind_ok, evM_cons', ev_c, bind_ok, mat_v, bind_ok, evM_nil, bind_ok, bind_ok, bind_ok]
  exact e
theorem row_loop {C : Calls} (hC : Tk C) {ρ : Ev.Env} {b w M : Nat} (hb : ρ[b]? = some (some (.ref 2))) (hbw : w ≠ b) (hw : w < ρ.length) (hM : 0 < M) (hM9 : M ≤ 100) : ∀ (k : Nat) (lo : Int) (S : Store), BG S →
    ∃ (m : Mon) (c : Cell), m.length = k ∧ (∀ a ∈ m, a < M) ∧ OkB c ∧ loopC (stepC [w] (ev C (.call 25 [.v b, .c (.int (M : Nat))])) (.v w) [] ρ) (intsFrom lo k) S = .ok (m.map nD) (S.set 2 c)
  | 0, lo, S, h => by
    obtain ⟨c, hc, e⟩ := h.same
    exact ⟨[], c, rfl, (fun _ z => (by cases z)), hc, (by rw [e]; rfl)⟩
  | k + 1, lo, S, h => by
    have hb' : ((ρ.set w none).set w (some (.int lo)))[b]? = some (some (.ref 2)) := by
      rw [List.getElem?_set_ne hbw, List.getElem?_set_ne hbw]
      exact hb
    obtain ⟨v, c, hv, hc, e⟩ := tk_ev hC hb' hM hM9 h
    obtain ⟨m, c', h1, h2, h3, e'⟩ := row_loop hC hb hbw hw hM hM9 k (lo + 1) (S.set 2 c) (h.set hc)
    refine ⟨v :: m, c', by rw [List.length_cons, h1], fun a ha => ?_, h3, ?_⟩
    · rcases List.mem_cons.mp ha with z | z
      · rw [z]
        exact hv
      · exact h2 a z
    · show loopC _ (D.int lo :: intsFrom (lo + 1) k) S = _
      unfold loopC
      have s1 : stepC [w] (ev C (.call 25 [.v b, .c (.int (M : Nat))])) (.v w) [] ρ (.int lo) S = .ok (some (nD v)) (S.set 2 c) := by
        unfold stepC
        have ea : asg (.v w) (.int lo) (wipeE ρ [w]) = some ((ρ.set w none).set w (some (.int lo))) := by
          show (if w < (ρ.set w none).length then some ((ρ.set w none).set w (some (.int lo))) else none) = _
          rw [List.length_set, if_pos hw]
        rw [ea]
        show ((R.ok true S).bind fun k S3 => if k then ((ev C (.call 25 [.v b, .c (.int (M : Nat))])).E ((ρ.set w none).set w (some (.int lo))) S3).bind fun t S4 => (mat t S4).bind fun d S5 => R.ok (some d) S5 else .ok none S3) = _
        rw [bind_ok, if_pos rfl, e]
        rfl
      rw [s1, bind_ok, e', bind_ok, List.set_set]
      rfl
theorem row_ev {C : Calls} (hC : Tk C) {ρ : Ev.Env} {b w p M P : Nat} (hb : ρ[b]? = some (some (.ref 2))) (hp : ρ[p]? = some (some (.int (P : Nat)))) (hbw : w ≠ b) (hw : w < ρ.length) (hM : 0 < M) (hM9 : M ≤ 100) (hP : P ≤ 1000) {S : Store} (h : BG S) :
    ∃ (m : Mon) (c : Cell), m.length = P ∧ (∀ a ∈ m, a < M) ∧ OkB c ∧ (ev C (.bi .tuple [.lc [w] (.call 25 [.v b, .c (.int (M : Nat))]) (.v w) (.bi .range [.v p]) []])).E ρ S = .ok (.v (mD m)) (S.set 2 c) := by
  obtain ⟨m, c, h1, h2, h3, e⟩ := row_loop hC hb hbw hw hM hM9 P 0 S h
  refine ⟨m, c, h1, h2, h3, ?_⟩
  have it : (ev C (.bi .range [.v p])).I ρ S = .ok (intsFrom 0 P, none) S := by
    have ep : (ev C (Ex.v p)).E ρ S = .ok (.v (nD P)) S := by
      rw [ev_v, hp]
      rfl
    rw [ev_biI, evs_cons, evs_nil, evTs_cons, ep, bind_ok, evTs_nil, bind_ok, bind_ok, if_pos (show isIt Bi.range = true from rfl), show itF .range [.v (nD P)] S = _ from itF_range P hP S]
    rfl
  have hl : (intsFrom 0 P).length ≤ lim := by
    have : ∀ (k : Nat) (lo : Int), (intsFrom lo k).length = k := by
      intro k
      induction k with
      | zero => intro lo; rfl
      | succ k ih =>
        intro lo
        show (D.int lo :: intsFrom (lo + 1) k).length = k + 1
        rw [List.length_cons, ih]
    rw [this]
    exact Nat.le_trans hP (by decide)
  have el : (ev C (.lc [w] (.call 25 [.v b, .c (.int (M : Nat))]) (.v w) (.bi .range [.v p]) [])).E ρ S = .ok (.l (m.map nD)) (S.set 2 c) := by
    rw [ev_lc]
    unfold evL
    rw [it, bind_ok]
    show (if (intsFrom 0 P).length ≤ lim then _ else _) = _
    rw [if_pos hl]
    show ((noX (loopC (stepC [w] (ev C (.call 25 [.v b, .c (.int (M : Nat))])) (.v w) [] ρ) (intsFrom 0 P) S)).bind fun ys S2 => R.ok (T.l ys) (lockO S2 none false)) = _
    rw [e]
    rfl
  rw [ev_bi, evs_cons, evs_nil, evTs_cons, el]
  rfl
end K02
-- M2
set_option Elab.async false
set_option linter.all false
set_option maxRecDepth 100000
set_option maxHeartbeats 400000
/-! M2: the machine as data; counts, banks. -/
namespace K02
open PySem Ev
def rD (rs : List Int) : D := .tup (rs.map D.int)
def oD : Option Int → D
  | none => .non
  | some i => .int i
def pD : Option Nat → D
  | none => .non
  | some i => .int (i : Nat)
/-- a disk: which bank counts, the banks, what is kept -/
structure Dk where
  b : Nat
  x : List Int
  y : List Int
  k : Option Int
def Dk.d (d : Dk) : D := .tup [.int (d.b : Nat), .tup [rD d.x, rD d.y], oD d.k]
def Dk.on (d : Dk) : List Int := if d.b = 0 then d.x else d.y
/-- a state: registers, place, disk, coins -/
structure Ms where
  rs : List Int
  pl : Option Nat
  dk : Dk
  cs : List Int
def Ms.d (s : Ms) : D := .tup [rD s.rs, pD s.pl, s.dk.d, rD s.cs]
theorem rD_pure (rs : List Int) : (rD rs).pure = true := pures_map (f := D.int) (fun _ => rfl) rs
theorem rD_dep (rs : List Int) : (rD rs).dep ≤ 1 := Nat.succ_le_succ (deps_map (f := D.int) (fun _ => Nat.le_refl 0) rs)
theorem oD_pure (o : Option Int) : (oD o).pure = true := by cases o <;> rfl
theorem pD_pure (o : Option Nat) : (pD o).pure = true := by cases o <;> rfl
theorem oD_dep (o : Option Int) : (oD o).dep = 0 := by cases o <;> rfl
theorem pD_dep (o : Option Nat) : (pD o).dep = 0 := by cases o <;> rfl
theorem Dk.pure (d : Dk) : d.d.pure = true := by
  show (true && (((rD d.x).pure && ((rD d.y).pure && true)) && ((oD d.k).pure && true))) = true
  rw [rD_pure, rD_pure, oD_pure]
  rfl
theorem Dk.dep (d : Dk) : d.d.dep ≤ 3 := by
  show max 0 (max (max (rD d.x).dep (max (rD d.y).dep 0) + 1) (max (oD d.k).dep 0)) + 1 ≤ 3
  have h1 := rD_dep d.x
  have h2 := rD_dep d.y
  rw [oD_dep]
  omega
theorem Ms.pure (s : Ms) : s.d.pure = true := by
  show ((rD s.rs).pure && ((pD s.pl).pure && (s.dk.d.pure && ((rD s.cs).pure && true)))) = true
  rw [rD_pure, rD_pure, pD_pure, Dk.pure]
  rfl
theorem Ms.dep (s : Ms) : s.d.dep ≤ 4 := by
  show max (rD s.rs).dep (max (pD s.pl).dep (max s.dk.d.dep (max (rD s.cs).dep 0))) + 1 ≤ 4
  have h1 := rD_dep s.rs
  have h2 := rD_dep s.cs
  have h3 := s.dk.dep
  rw [pD_dep]
  omega
theorem atI_nat {α : Type} {xs : List α} {i : Nat} {d : α} (h : xs[i]? = some d) : L2.atI xs ((i : Nat) : Int) = some d := by
  have hl := (List.getElem?_eq_some_iff.mp h).1
  unfold L2.atI L2.ixN
  rw [if_pos (by omega), if_pos (by omega)]
  show xs[((i : Nat) : Int).toNat]? = some d
  rw [Int.toNat_natCast]
  exact h
theorem ixN_nat {n i : Nat} (h : i < n) : L2.ixN n ((i : Nat) : Int) = some i := by
  unfold L2.ixN
  rw [if_pos (by omega), if_pos (by omega), Int.toNat_natCast]
theorem at_map {rs : List Int} {i : Nat} {v : Int} (h : rs[i]? = some v) : L2.atI (rs.map D.int) ((i : Nat) : Int) = some (.int v) := atI_nat (by rw [List.getElem?_map, h]; rfl)
theorem cut_to {α : Type} (xs : List D) {i : Nat} (h : i ≤ xs.length) : cutD xs none (some ((i : Nat) : Int)) = xs.take i := by
  unfold cutD
  rw [HT.sIx_nat, HT.sIx_none, Nat.min_eq_left h]
  rfl
theorem cut_from {α : Type} (xs : List D) {i : Nat} (h : i ≤ xs.length) : cutD xs (some ((i : Nat) : Int)) none = xs.drop i := by
  unfold cutD
  rw [HT.sIx_nat, HT.sIx_none, Nat.min_eq_left h]
  exact List.take_of_length_le (by rw [List.length_drop]; exact Nat.le_refl _)
section
variable {n : Nat} {S : Store}
theorem t_isint (n : Nat) (i : Int) (S : Store) : callN F (n + 1) 0 [.int i] S = .ok (.v (.bl true)) S := rfl
theorem t_isint0 (n : Nat) (S : Store) : callN F (n + 1) 0 [.non] S = .ok (.v (.bl false)) S := rfl
theorem t_cnt (n : Nat) (i : Int) {S : Store} (w : WS S) : callN F (n + 2) 1 [.int i] S = .ok (.v (.bl (decide (0 ≤ i)))) S := by
  rw [callN_at (fd := f_is_count) rfl rfl]
  have h0 : (ev (callN F (n + 1)) (.call 0 [.v 0])).E [some (.int i)] S = .ok (.v (.bl true)) S := x_call (m_cons rfl m_nil) (fin_v0 (d := .bl true) w rfl)
  have h1 : (ev (callN F (n + 1)) (Ex.and [Ex.call 0 [Ex.v 0], Ex.cmp Cm.ge (Ex.v 0) (Ex.c (D.int 0))])).E [some (.int i)] S = .ok (.v (.bl (decide (0 ≤ i)))) S := by
    rw [ev_and, evs_cons, evs_cons, evs_nil]
    show ((ev (callN F (n + 1)) (.call 0 [.v 0])).E [some (.int i)] S).bind (fun t S1 => (opt (truth t S1) S1).bind fun k S2 => if k then evAnd [ev (callN F (n + 1)) (Ex.cmp Cm.ge (Ex.v 0) (Ex.c (D.int 0)))] [some (.int i)] S2 else .ok t S2) = _
    rw [h0]
    rfl
  show fin0 (svs (n + 1) (callN F (n + 1)) [St.ret (Ex.and [Ex.call 0 [Ex.v 0], Ex.cmp Cm.ge (Ex.v 0) (Ex.c (D.int 0))])] [some (.int i)] S) = _
  rw [s_ret h1]
  rfl
theorem t_cnt0 (n : Nat) {S : Store} (w : WS S) : callN F (n + 2) 1 [.non] S = .ok (.v (.bl false)) S := by
  rw [callN_at (fd := f_is_count) rfl rfl]
  have h0 : (ev (callN F (n + 1)) (.call 0 [.v 0])).E [some .non] S = .ok (.v (.bl false)) S := x_call (m_cons rfl m_nil) (fin_v0 (d := .bl false) w rfl)
  have h1 : (ev (callN F (n + 1)) (Ex.and [Ex.call 0 [Ex.v 0], Ex.cmp Cm.ge (Ex.v 0) (Ex.c (D.int 0))])).E [some .non] S = .ok (.v (.bl false)) S := by
    rw [ev_and, evs_cons, evs_cons, evs_nil]
    show ((ev (callN F (n + 1)) (.call 0 [.v 0])).E [some .non] S).bind (fun t S1 => (opt (truth t S1) S1).bind fun k S2 => if k then evAnd [ev (callN F (n + 1)) (Ex.cmp Cm.ge (Ex.v 0) (Ex.c (D.int 0)))] [some .non] S2 else .ok t S2) = _
    rw [h0]
    rfl
  show fin0 (svs (n + 1) (callN F (n + 1)) [St.ret (Ex.and [Ex.call 0 [Ex.v 0], Ex.cmp Cm.ge (Ex.v 0) (Ex.c (D.int 0))])] [some .non] S) = _
  rw [s_ret h1]
  rfl
/-- the test that a thing is a count -/
def cntO : Option Int → Bool
  | none => false
  | some i => decide (0 ≤ i)
theorem t_cntO (n : Nat) (o : Option Int) {S : Store} (w : WS S) : callN F (n + 2) 1 [oD o] S = .ok (.v (.bl (cntO o))) S := by
  cases o with
  | none => exact t_cnt0 n w
  | some i => exact t_cnt n i w
theorem b_call {C : Calls} {ρ : Ev.Env} {f : Nat} {es : List Ex} {b : Bool} (h : (ev C (.call f es)).E ρ S = .ok (.v (.bl b)) S) : (ev C (.call f es)).B ρ S = .ok b S := by
  show ((ev C (.call f es)).E ρ S).bind (fun t S1 => opt (truth t S1) S1) = _
  rw [h]
  rfl
theorem t_tupof (n : Nat) (xs : List Int) {S : Store} (w : WS S) (hl : xs.length ≤ lim) : callN F (n + 3) 2 [rD xs, .fn 1] S = .ok (.v (.bl (xs.all fun i => decide (0 ≤ i)))) S := by
  rw [callN_at (fd := f_is_tuple_of) rfl rfl]
  have hl2 : (ev (callN F (n + 2)) (Ex.lc [2] (Ex.callv 1 [Ex.v 2]) (Tg.v 2) (Ex.v 0) [])).E [some (rD xs), some (.fn 1), none] S = .ok (.l (xs.map fun i => D.bl (decide (0 ≤ i)))) S := by
    rw [ev_lc, evL_ok (xs := xs.map D.int) (o := none) (g := fun x => some (match x with | .int i => .bl (decide (0 ≤ i)) | x => x)) rfl (by rw [List.length_map]; exact hl) (fun x hx => ?_) rfl]
    · rw [fm_some, List.map_map]
      rfl
    · obtain ⟨i, _, rfl⟩ := List.mem_map.mp hx
      refine step1 (show 2 < 3 by decide) ?_
      show (ev (callN F (n + 2)) (Ex.callv 1 [Ex.v 2])).E [some (rD xs), some (.fn 1), some (.int i)] S = _
      rw [ev_callv]
      show fin S.length ((evM (evs (callN F (n + 2)) [Ex.v 2]) [some (rD xs), some (.fn 1), some (.int i)] S).bind fun ds S1 => callN F (n + 2) 1 ds S1) = _
      rw [m_cons (d := .int i) (S1 := S) (S2 := S) rfl m_nil, bind_ok, t_cnt n i w]
      exact fin_v0 (d := .bl (decide (0 ≤ i))) w rfl
  have h1 : (ev (callN F (n + 2)) (Ex.and [Ex.bi Bi.isTup [Ex.v 0], Ex.bi Bi.all [Ex.lc [2] (Ex.callv 1 [Ex.v 2]) (Tg.v 2) (Ex.v 0) []]])).E [some (rD xs), some (.fn 1), none] S = .ok (.v (.bl (xs.all fun i => decide (0 ≤ i)))) S := by
    rw [ev_and, evs_cons, evs_cons, evs_nil]
    show ((ev (callN F (n + 2)) (Ex.bi Bi.all [Ex.lc [2] (Ex.callv 1 [Ex.v 2]) (Tg.v 2) (Ex.v 0) []])).E [some (rD xs), some (.fn 1), none] S) = _
    rw [ev_bi, evs_cons, evs_nil, evTs_cons, hl2, bind_ok, evTs_nil, bind_ok, bind_ok]
    show opt ((bools (xs.map fun i => D.bl (decide (0 ≤ i)))).map fun bs => T.v (.bl (bs.all id))) S = _
    rw [bools_map]
    show R.ok (T.v (.bl ((xs.map fun i => decide (0 ≤ i)).all id))) S = _
    rw [List.all_map]
    rfl
  show fin0 (svs (n + 2) (callN F (n + 2)) [St.ret (Ex.and [Ex.bi Bi.isTup [Ex.v 0], Ex.bi Bi.all [Ex.lc [2] (Ex.callv 1 [Ex.v 2]) (Tg.v 2) (Ex.v 0) []]])] [some (rD xs), some (.fn 1), none] S) = _
  rw [s_ret h1]
  rfl
def bankB (P : Nat) (xs : List Int) : Bool := (xs.all fun i => decide (0 ≤ i)) && decide (xs.length = P)
theorem t_bank (n : Nat) (xs : List Int) (P : Nat) {S : Store} (w : WS S) (hl : xs.length ≤ lim) : callN F (n + 4) 6 [rD xs, .int (P : Nat)] S = .ok (.v (.bl (bankB P xs))) S := by
  rw [callN_at (fd := f_is_bank) rfl rfl]
  have h0 : (ev (callN F (n + 3)) (.call 2 [.v 0, .gf 1])).E [some (rD xs), some (.int (P : Nat))] S = .ok (.v (.bl (xs.all fun i => decide (0 ≤ i)))) S :=
    x_call (m_cons rfl (m_cons rfl m_nil)) (by rw [t_tupof n xs w hl]; exact fin_v0 (d := .bl _) w rfl)
  have h2 : (ev (callN F (n + 3)) (Ex.cmp Cm.eq (Ex.bi Bi.len [Ex.v 0]) (Ex.v 1))).E [some (rD xs), some (.int (P : Nat))] S = .ok (.v (.bl (decide (xs.length = P)))) S := by
    rw [ev_cmp]
    show ((opt (cmp2 .eq (.v (.int ((xs.map D.int).length : Nat))) (.v (.int (P : Nat))) S) S).bind fun k S1 => R.ok (T.v (.bl k)) S1) = _
    rw [eq_int, List.length_map, opt_some, bind_ok]
    have : decide (((xs.length : Nat) : Int) = (P : Nat)) = decide (xs.length = P) := by
      by_cases h : xs.length = P
      · rw [decide_eq_true h, decide_eq_true (by omega)]
      · rw [decide_eq_false h, decide_eq_false (by omega)]
    rw [this]
  have h1 : (ev (callN F (n + 3)) (Ex.and [Ex.call 2 [Ex.v 0, Ex.gf 1], Ex.cmp Cm.eq (Ex.bi Bi.len [Ex.v 0]) (Ex.v 1)])).E [some (rD xs), some (.int (P : Nat))] S = .ok (.v (.bl (bankB P xs))) S := by
    rw [ev_and, evs_cons, evs_cons, evs_nil]
    show ((ev (callN F (n + 3)) (.call 2 [.v 0, .gf 1])).E [some (rD xs), some (.int (P : Nat))] S).bind (fun t S1 => (opt (truth t S1) S1).bind fun k S2 => if k then (ev (callN F (n + 3)) (Ex.cmp Cm.eq (Ex.bi Bi.len [Ex.v 0]) (Ex.v 1))).E [some (rD xs), some (.int (P : Nat))] S2 else .ok t S2) = _
    rw [h0, bind_ok]
    show (if (xs.all fun i => decide (0 ≤ i)) = true then (ev (callN F (n + 3)) (Ex.cmp Cm.eq (Ex.bi Bi.len [Ex.v 0]) (Ex.v 1))).E [some (rD xs), some (.int (P : Nat))] S else .ok (T.v (.bl (xs.all fun i => decide (0 ≤ i)))) S) = _
    unfold bankB
    cases hq : (xs.all fun i => decide (0 ≤ i)) with
    | true =>
      rw [if_pos rfl, h2]
      rfl
    | false => rfl
  show fin0 (svs (n + 3) (callN F (n + 3)) [St.ret (Ex.and [Ex.call 2 [Ex.v 0, Ex.gf 1], Ex.cmp Cm.eq (Ex.bi Bi.len [Ex.v 0]) (Ex.v 1)])] [some (rD xs), some (.int (P : Nat))] S) = _
  rw [s_ret h1]
  rfl
end
end K02
-- M3
set_option Elab.async false
set_option linter.all false
set_option maxRecDepth 100000
set_option maxHeartbeats 400000
/-! M3: is_disk, disks, states. -/
namespace K02
open PySem Ev
section
variable {n : Nat} {C : Calls} {ρ : Ev.Env} {S : Store}
theorem x_callV {f : Nat} {es : List Ex} {ds : List D} {d : D} (w : WS S) (hp : d.pure = true) (h : evM (evs C es) ρ S = .ok ds S) (hc : C f ds S = .ok (.v d) S) : (ev C (.call f es)).E ρ S = .ok (.v d) S :=
  x_call h (by rw [hc]; exact fin_v0 w hp)
theorem x_callX {f : Nat} {es : List Ex} {ds : List D} {x : Str} (w : WS S) (h : evM (evs C es) ρ S = .ok ds S) (hc : C f ds S = .exc ⟨x, []⟩ S) : (ev C (.call f es)).E ρ S = .exc ⟨x, []⟩ S :=
  x_call h (by
    rw [hc]
    have z := fin_exc (G := []) (x := x) w
    rwa [List.append_nil] at z)
theorem evO_f {e : Ex} {es : List Ex} (h : (ev C e).B ρ S = .ok false S) : evO (evs C (e :: es)) ρ S = evO (evs C es) ρ S := by
  rw [evs_cons, evO_cons, h, bind_ok, if_neg Bool.false_ne_true]
theorem evO_t {e : Ex} {es : List Ex} (h : (ev C e).B ρ S = .ok true S) : evO (evs C (e :: es)) ρ S = .ok true S := by
  rw [evs_cons, evO_cons, h, bind_ok, if_pos rfl]
theorem s_stop {t : Ex} {e : Ex} {v : T} {r : List St} (h : (ev C t).B ρ S = .ok true S) (he : (ev C e).E ρ S = .ok v S) : svs n C (.ite t [.ret e] [] :: r) ρ S = .ok (.rt v) ρ S := by
  rw [svs_cons, s_yes h, s_ret he, seqS_rt]
theorem s_go {t : Ex} {a r : List St} (h : (ev C t).B ρ S = .ok false S) : svs n C (.ite t a [] :: r) ρ S = svs n C r ρ S := s_step (s_no h)
theorem s_raise {t : Ex} {x : Str} {r : List St} (h : (ev C t).B ρ S = .ok true S) : svs n C (.ite t [.raise0 x] [] :: r) ρ S = .exc ⟨x, []⟩ ρ S := by
  rw [svs_cons, s_yes h, svs_cons, sv_raise0, seqS_exc, seqS_exc]
def diskB (P : Nat) (b : Int) (bs : List (List Int)) (k : Option Int) : Bool :=
  decide (0 ≤ b) && (decide (b ≤ 1) && (decide (bs.length = 2) && ((bs.all fun x => bankB P x) && (k.isNone || cntO k))))
theorem t_disk (n : Nat) (b : Int) (bs : List (List Int)) (k : Option Int) (P : Nat) {S : Store} (w : WS S) (hl : ∀ x ∈ bs, x.length ≤ lim) (hb : bs.length ≤ lim) :
    callN F (n + 5) 7 [.tup [.int b, .tup (bs.map rD), oD k], .int (P : Nat)] S = .ok (.v (.bl (diskB P b bs k))) S := by
  rw [callN_at (fd := f_is_disk) rfl rfl]
  have c0 : (ev (callN F (n + 4)) ((Ex.v 0).ix (Ex.c (D.int 0)))).E [some (.tup [.int b, .tup (bs.map rD), oD k]), some (.int (P : Nat)), none] S = .ok (.v (.int b)) S := rfl
  have c2 : (ev (callN F (n + 4)) ((Ex.v 0).ix (Ex.c (D.int 2)))).E [some (.tup [.int b, .tup (bs.map rD), oD k]), some (.int (P : Nat)), none] S = .ok (.v (oD k)) S := rfl
  have e1 : (ev (callN F (n + 4)) (Ex.bi Bi.isTup [Ex.v 0]).not).B [some (.tup [.int b, .tup (bs.map rD), oD k]), some (.int (P : Nat)), none] S = .ok false S := rfl
  have e2 : (ev (callN F (n + 4)) (Ex.cmp Cm.ne (Ex.bi Bi.len [Ex.v 0]) (Ex.c (D.int 3)))).B [some (.tup [.int b, .tup (bs.map rD), oD k]), some (.int (P : Nat)), none] S = .ok false S := b_neI (i := 3) (j := 3) rfl rfl rfl
  have e3 : (ev (callN F (n + 4)) (Ex.call 1 [(Ex.v 0).ix (Ex.c (D.int 0))]).not).B [some (.tup [.int b, .tup (bs.map rD), oD k]), some (.int (P : Nat)), none] S = .ok (!decide (0 ≤ b)) S := by
    rw [ev_notB, b_call (x_callV (d := .bl _) w rfl (m_cons c0 m_nil) (t_cnt (n + 2) b w)), bind_ok]
  have e4 : (ev (callN F (n + 4)) (Ex.cmp Cm.gt ((Ex.v 0).ix (Ex.c (D.int 0))) (Ex.c (D.int 1)))).B [some (.tup [.int b, .tup (bs.map rD), oD k]), some (.int (P : Nat)), none] S = .ok (decide (1 < b)) S := by
    rw [ev_cmpB, c0, bind_ok]
    rfl
  have f1 : (ev (callN F (n + 4)) (Ex.bi Bi.isTup [(Ex.v 0).ix (Ex.c (D.int 1))]).not).B [some (.tup [.int b, .tup (bs.map rD), oD k]), some (.int (P : Nat)), none] S = .ok false S := rfl
  have f2 : (ev (callN F (n + 4)) (Ex.cmp Cm.ne (Ex.bi Bi.len [(Ex.v 0).ix (Ex.c (D.int 1))]) (Ex.c (D.int 2)))).B [some (.tup [.int b, .tup (bs.map rD), oD k]), some (.int (P : Nat)), none] S = .ok (!decide (bs.length = 2)) S := by
    rw [ev_cmpB]
    show opt (cmp2 .ne (.v (.int ((bs.map rD).length : Nat))) (.v (.int 2)) S) S = _
    rw [ne_int, List.length_map]
    have : decide (((bs.length : Nat) : Int) = 2) = decide (bs.length = 2) := by
      by_cases h : bs.length = 2
      · rw [decide_eq_true h, decide_eq_true (by omega)]
      · rw [decide_eq_false h, decide_eq_false (by omega)]
    rw [this]
    rfl
  have f3 : (ev (callN F (n + 4)) (Ex.bi Bi.all [Ex.lc [2] (Ex.call 6 [Ex.v 2, Ex.v 1]) (Tg.v 2) ((Ex.v 0).ix (Ex.c (D.int 1))) []]).not).B [some (.tup [.int b, .tup (bs.map rD), oD k]), some (.int (P : Nat)), none] S = .ok (!(bs.all fun x => bankB P x)) S := by
    have hl2 : (ev (callN F (n + 4)) (Ex.lc [2] (Ex.call 6 [Ex.v 2, Ex.v 1]) (Tg.v 2) ((Ex.v 0).ix (Ex.c (D.int 1))) [])).E [some (.tup [.int b, .tup (bs.map rD), oD k]), some (.int (P : Nat)), none] S = .ok (.l (bs.map fun x => D.bl (bankB P x))) S := by
      rw [ev_lc, evL_at (xs := bs.map rD) (ys := bs.map fun x => D.bl (bankB P x)) (o := none) rfl (by rw [List.length_map]; exact hb) ?_ rfl]
      have key : ∀ l : List (List Int), (∀ x ∈ l, x.length ≤ lim) → loopC (stepC [2] (ev (callN F (n + 4)) (Ex.call 6 [Ex.v 2, Ex.v 1])) (Tg.v 2) (evs (callN F (n + 4)) []) [some (.tup [.int b, .tup (bs.map rD), oD k]), some (.int (P : Nat)), none]) (l.map rD) S = .ok (l.map fun x => D.bl (bankB P x)) S := by
        intro l
        induction l with
        | nil => intro _; rfl
        | cons x l ih =>
          intro h
          rw [List.map_cons]
          unfold loopC
          have hx : stepC [2] (ev (callN F (n + 4)) (Ex.call 6 [Ex.v 2, Ex.v 1])) (Tg.v 2) (evs (callN F (n + 4)) []) [some (.tup [.int b, .tup (bs.map rD), oD k]), some (.int (P : Nat)), none] (rD x) S = .ok (some (.bl (bankB P x))) S :=
            step1 (show 2 < 3 by decide) (x_callV (ds := [rD x, .int (P : Nat)]) (d := .bl (bankB P x)) w rfl (m_cons rfl (m_cons rfl m_nil)) (t_bank n x P w (h x List.mem_cons_self)))
          rw [hx, bind_ok, ih fun y hy => h y (List.mem_cons_of_mem _ hy), bind_ok]
          rfl
      exact key bs hl
    rw [ev_notB]
    show (((ev (callN F (n + 4)) (Ex.bi Bi.all [Ex.lc [2] (Ex.call 6 [Ex.v 2, Ex.v 1]) (Tg.v 2) ((Ex.v 0).ix (Ex.c (D.int 1))) []])).E [some (.tup [.int b, .tup (bs.map rD), oD k]), some (.int (P : Nat)), none] S).bind fun t S1 => opt (truth t S1) S1).bind (fun k S1 => R.ok (!k) S1) = _
    rw [ev_bi, evs_cons, evs_nil, evTs_cons, hl2, bind_ok, evTs_nil, bind_ok, bind_ok]
    show ((opt ((bools (bs.map fun i => D.bl (bankB P i))).map fun bs => T.v (.bl (bs.all id))) S).bind fun t S1 => opt (truth t S1) S1).bind (fun k S1 => R.ok (!k) S1) = _
    rw [bools_map]
    show R.ok (!((bs.map fun i => bankB P i).all id)) S = _
    rw [List.all_map]
    rfl
  have g1 : (ev (callN F (n + 4)) (Ex.or [Ex.cmp Cm.isN ((Ex.v 0).ix (Ex.c (D.int 2))) (Ex.c D.non), Ex.call 1 [(Ex.v 0).ix (Ex.c (D.int 2))]])).E [some (.tup [.int b, .tup (bs.map rD), oD k]), some (.int (P : Nat)), none] S = .ok (.v (.bl (k.isNone || cntO k))) S := by
    rw [ev_or, evs_cons, evs_cons, evs_nil]
    cases k with
    | none => rfl
    | some i =>
      show (ev (callN F (n + 4)) (Ex.call 1 [(Ex.v 0).ix (Ex.c (D.int 2))])).E [some (.tup [.int b, .tup (bs.map rD), oD (some i)]), some (.int (P : Nat)), none] S = _
      rw [x_callV (d := .bl _) w rfl (m_cons c2 m_nil) (t_cntO (n + 2) (some i) w)]
      rfl
  show fin0 (svs (n + 4) (callN F (n + 4)) f_is_disk.body [some (.tup [.int b, .tup (bs.map rD), oD k]), some (.int (P : Nat)), none] S) = _
  unfold f_is_disk
  by_cases h1 : 0 ≤ b
  · rw [decide_eq_true h1] at e3
    by_cases h2 : b ≤ 1
    · rw [decide_eq_false (by omega : ¬ (1 < b))] at e4
      rw [s_go (by rw [ev_orB, evO_f e1, evO_f e2, evO_f e3, evO_f e4]; rfl)]
      by_cases h3 : bs.length = 2
      · rw [decide_eq_true h3] at f2
        cases h4 : (bs.all fun x => bankB P x) with
        | true =>
          rw [h4] at f3
          rw [s_go (by rw [ev_orB, evO_f f1, evO_f f2, evO_f f3]; rfl), s_ret g1]
          unfold diskB
          rw [decide_eq_true h1, decide_eq_true h2, decide_eq_true h3, h4]
          rfl
        | false =>
          rw [h4] at f3
          rw [s_stop (by rw [ev_orB, evO_f f1, evO_f f2, evO_t f3]) rfl]
          unfold diskB
          rw [decide_eq_true h1, decide_eq_true h2, decide_eq_true h3, h4]
          rfl
      · rw [decide_eq_false h3] at f2
        rw [s_stop (by rw [ev_orB, evO_f f1, evO_t f2]) rfl]
        unfold diskB
        rw [decide_eq_true h1, decide_eq_true h2, decide_eq_false h3]
        rfl
    · rw [decide_eq_true (by omega : (1 < b))] at e4
      rw [s_stop (by rw [ev_orB, evO_f e1, evO_f e2, evO_f e3, evO_t e4]) rfl]
      unfold diskB
      rw [decide_eq_true h1, decide_eq_false h2]
      rfl
  · rw [decide_eq_false h1] at e3
    rw [s_stop (by rw [ev_orB, evO_f e1, evO_f e2, evO_t e3]) rfl]
    unfold diskB
    rw [decide_eq_false h1]
    rfl
theorem t_disk0 (n : Nat) (P : D) (S : Store) : callN F (n + 5) 7 [.non, P] S = .ok (.v (.bl false)) S := by
  rw [callN_at (fd := f_is_disk) rfl rfl]
  show fin0 (svs (n + 4) (callN F (n + 4)) f_is_disk.body [some .non, some P, none] S) = _
  unfold f_is_disk
  rw [s_stop (by rw [ev_orB, evO_t rfl]) rfl]
  rfl
theorem t_on (n : Nat) (d : Dk) (hb : d.b ≤ 1) (S : Store) : callN F (n + 1) 5 [d.d] S = .ok (.v (rD d.on)) S := by
  obtain ⟨b, x, y, k⟩ := d
  have hb : b ≤ 1 := hb
  match b, hb with
  | 0, _ => rfl
  | 1, _ => rfl
theorem t_get0 (n : Nat) (s : Ms) (S : Store) : callN F (n + 1) 9 [s.d] S = .ok (.v (rD s.rs)) S := rfl
theorem t_get1 (n : Nat) (s : Ms) (S : Store) : callN F (n + 1) 10 [s.d] S = .ok (.v (pD s.pl)) S := rfl
theorem t_get2 (n : Nat) (s : Ms) (S : Store) : callN F (n + 1) 11 [s.d] S = .ok (.v s.dk.d) S := rfl
theorem t_get3 (n : Nat) (s : Ms) (S : Store) : callN F (n + 1) 12 [s.d] S = .ok (.v (rD s.cs)) S := rfl
theorem rep_flat (k : Nat) : (List.replicate k [D.int 0]).flatten = (List.replicate k (0 : Int)).map D.int := by
  induction k with
  | zero => rfl
  | succ k ih =>
    rw [List.replicate_succ, List.flatten_cons, ih, List.replicate_succ]
    rfl
theorem x_zeros {e : Ex} {k : Nat} (hk : k ≤ 1000) (h : (ev C e).E ρ S = .ok (.v (.int (k : Nat))) S) : (ev C (Ex.bin Op2.mul (Ex.tup [Ex.c (D.int 0)]) e)).E ρ S = .ok (.v (rD (List.replicate k 0))) S := by
  rw [ev_bin, show (ev C (Ex.tup [Ex.c (D.int 0)])).E ρ S = .ok (.v (.tup [.int 0])) S from rfl, bind_ok, h, bind_ok]
  show opt (if -(2 ^ 63) ≤ ((k : Nat) : Int) ∧ ((k : Nat) : Int) ≤ 1000 ∧ [D.int 0].length ≤ 1000 then some (T.v (.tup (List.replicate ((k : Nat) : Int).toNat [D.int 0]).flatten)) else none) S = _
  rw [if_pos ⟨by omega, by omega, by decide⟩, Int.toNat_natCast, rep_flat]
  rfl
theorem t_begin (n : Nat) (d : Dk) (cs : List Int) (S : Store) : callN F (n + 1) 8 [d.d, rD cs] S = .ok (.v (Ms.d ⟨List.replicate 16 0, some 0, d, cs⟩)) S := by
  rw [callN_at (fd := f_begin) rfl rfl]
  show fin0 (svs n (callN F n) f_begin.body [some d.d, some (rD cs)] S) = _
  unfold f_begin
  rw [s_ret (x_tup (ds := [rD (List.replicate 16 0), .int 0, d.d, rD cs]) (m_cons (x_zeros (k := 16) (by decide) rfl) (m_cons rfl (m_cons rfl (m_cons rfl m_nil)))) (show 4 ≤ lim by decide))]
  rfl
theorem t_dof (n : Nat) (c : List Int) (hc : c.length ≤ 1000) (S : Store) : callN F (n + 1) 4 [rD c] S = .ok (.v (Dk.d ⟨0, c, List.replicate c.length 0, none⟩)) S := by
  rw [callN_at (fd := f_disk_of) rfl rfl]
  show fin0 (svs n (callN F n) f_disk_of.body [some (rD c)] S) = _
  unfold f_disk_of
  have h : (ev (callN F n) (Ex.bi Bi.len [Ex.v 0])).E [some (rD c)] S = .ok (.v (.int (c.length : Nat))) S := by
    show R.ok (T.v (.int ((c.map D.int).length : Nat))) S = _
    rw [List.length_map]
  rw [s_ret (x_tup (ds := [.int 0, .tup [rD c, rD (List.replicate c.length 0)], .non]) (m_cons rfl (m_cons (x_tup (m_cons rfl (m_cons (x_zeros hc h) m_nil)) (show 2 ≤ lim by decide)) (m_cons rfl m_nil))) (show 3 ≤ lim by decide))]
  rfl
end
end K02
-- M4
set_option Elab.async false
set_option linter.all false
set_option maxRecDepth 100000
set_option maxHeartbeats 400000
/-! M4: the machine's small parts. -/
namespace K02
open PySem Ev
section
variable {n : Nat} {C : Calls} {ρ : Ev.Env} {S : Store}
theorem ms_nil : evMS [] (evs C []) ρ S = .ok [] S := rfl
theorem ms_t {e : Ex} {es : List Ex} {bs : List Bool} {t : T} {xs ds : List D} (h : (ev C e).E ρ S = .ok t S) (hq : asQ t S = some xs) (r : evMS bs (evs C es) ρ S = .ok ds S) : evMS (true :: bs) (evs C (e :: es)) ρ S = .ok (xs ++ ds) S := by
  show ((ev C e).E ρ S).bind (fun t S1 => (opt (asQ t S1) S1).bind fun xs S2 => (evMS bs (evs C es) ρ S2).bind fun ds S3 => R.ok (xs ++ ds) S3) = _
  rw [h, bind_ok, hq, opt_some, bind_ok, r, bind_ok]
theorem ms_f {e : Ex} {es : List Ex} {bs : List Bool} {d : D} {ds : List D} (h : (ev C e).E ρ S = .ok (.v d) S) (r : evMS bs (evs C es) ρ S = .ok ds S) : evMS (false :: bs) (evs C (e :: es)) ρ S = .ok (d :: ds) S := by
  show (((ev C e).E ρ S).bind mat).bind (fun d S2 => (evMS bs (evs C es) ρ S2).bind fun ds S3 => R.ok (d :: ds) S3) = _
  rw [h, bind_ok, mat_v, bind_ok, r, bind_ok]
theorem x_tupS {bs : List Bool} {es : List Ex} {ds : List D} (h : evMS bs (evs C es) ρ S = .ok ds S) (hl : ds.length ≤ lim) : (ev C (.tupS bs es)).E ρ S = .ok (.v (.tup ds)) S := by
  rw [ev_tupS, h, bind_ok, if_pos hl]
theorem x_slTo {a hi : Ex} {xs : List D} {j : Nat} (ha : (ev C a).E ρ S = .ok (.v (.tup xs)) S) (hj : (ev C hi).E ρ S = .ok (.v (.int (j : Nat))) S) (hl : j ≤ xs.length) : (ev C (.sl false true a (.c .non) hi)).E ρ S = .ok (.v (.tup (xs.take j))) S := by
  rw [ev_sl, ha, bind_ok]
  show (R.ok none S).bind (fun l S2 => (((ev C hi).E ρ S2).bind fun t S1 => (match t with | .v (.int i) => R.ok (some i) S1 | _ => .bad)).bind fun h S3 => opt (slice (.v (.tup xs)) l h S3) S3) = _
  rw [bind_ok, hj, bind_ok]
  show R.ok (T.v (.tup (cutD xs none (some ((j : Nat) : Int))))) S = _
  rw [cut_to (α := Nat) xs hl]
theorem x_slFrom {a lo : Ex} {xs : List D} {j : Nat} (ha : (ev C a).E ρ S = .ok (.v (.tup xs)) S) (hj : (ev C lo).E ρ S = .ok (.v (.int (j : Nat))) S) (hl : j ≤ xs.length) : (ev C (.sl true false a lo (.c .non))).E ρ S = .ok (.v (.tup (xs.drop j))) S := by
  rw [ev_sl, ha, bind_ok]
  show (((ev C lo).E ρ S).bind fun t S1 => (match t with | .v (.int i) => R.ok (some i) S1 | _ => .bad)).bind (fun l S2 => (R.ok none S2).bind fun h S3 => opt (slice (.v (.tup xs)) l h S3) S3) = _
  rw [hj, bind_ok]
  show R.ok (T.v (.tup (cutD xs (some ((j : Nat) : Int)) none))) S = _
  rw [cut_from (α := Nat) xs hl]
theorem x_succ {e : Ex} {j : Nat} (h : (ev C e).E ρ S = .ok (.v (.int (j : Nat))) S) : (ev C (.bin .add e (.c (.int 1)))).E ρ S = .ok (.v (.int ((j + 1 : Nat)))) S := by
  rw [x_add h x_c]
  rfl
theorem set_cut (rs : List Int) {r : Nat} (v : Int) (h : r < rs.length) : (rs.map D.int).take r ++ (D.int v :: (rs.map D.int).drop (r + 1)) = (rs.set r v).map D.int := by
  rw [List.map_set, List.set_eq_take_append_cons_drop, if_pos (by rw [List.length_map]; exact h)]
def cD (P : Nat) (rows : List D) : D := .tup [.str "w", .int (P : Nat), .tup rows]
theorem t_at (n : Nat) {P : Nat} {rows : List D} {i : Nat} {one : D} {S : Store} (w : WS S) (h : rows[i]? = some one) : callN F (n + 3) 13 [cD P rows, .int (i : Nat)] S = .ok (.v one) S := by
  have hl := (List.getElem?_eq_some_iff.mp h).1
  rw [callN_at (fd := f_instruction_at) rfl rfl]
  show fin0 (svs (n + 2) (callN F (n + 2)) f_instruction_at.body [some (cD P rows), some (.int (i : Nat))] S) = _
  unfold f_instruction_at
  have e1 : (ev (callN F (n + 2)) (Ex.call 1 [Ex.v 1]).not).B [some (cD P rows), some (.int (i : Nat))] S = .ok false S := by
    rw [ev_notB, b_call (x_callV (d := .bl _) w rfl (m_cons (d := .int (i : Nat)) rfl m_nil) (t_cnt n (i : Nat) w)), bind_ok, decide_eq_true (by omega)]
    rfl
  have e2 : (ev (callN F (n + 2)) (Ex.cmp Cm.ge (Ex.v 1) (Ex.bi Bi.len [(Ex.v 0).ix (Ex.c (D.int 2))]))).B [some (cD P rows), some (.int (i : Nat))] S = .ok false S := by
    show R.ok (decide (((rows.length : Nat) : Int) ≤ (i : Nat))) S = _
    rw [decide_eq_false (by omega)]
  rw [s_go (by rw [ev_orB, evO_f e1, evO_f e2]; rfl), s_ret (x_ix (xs := rows) (k := (i : Nat)) rfl rfl (atI_nat h))]
  rfl
theorem t_at_no (n : Nat) {P : Nat} {rows : List D} {S : Store} (w : WS S) : callN F (n + 3) 13 [cD P rows, .int (rows.length : Nat)] S = .exc ⟨"Nothing", []⟩ S := by
  rw [callN_at (fd := f_instruction_at) rfl rfl]
  show fin0 (svs (n + 2) (callN F (n + 2)) f_instruction_at.body [some (cD P rows), some (.int (rows.length : Nat))] S) = _
  unfold f_instruction_at
  have e1 : (ev (callN F (n + 2)) (Ex.call 1 [Ex.v 1]).not).B [some (cD P rows), some (.int (rows.length : Nat))] S = .ok false S := by
    rw [ev_notB, b_call (x_callV (d := .bl _) w rfl (m_cons (d := .int (rows.length : Nat)) rfl m_nil) (t_cnt n (rows.length : Nat) w)), bind_ok, decide_eq_true (by omega)]
    rfl
  have e2 : (ev (callN F (n + 2)) (Ex.cmp Cm.ge (Ex.v 1) (Ex.bi Bi.len [(Ex.v 0).ix (Ex.c (D.int 2))]))).B [some (cD P rows), some (.int (rows.length : Nat))] S = .ok true S := by
    show R.ok (decide (((rows.length : Nat) : Int) ≤ (rows.length : Nat))) S = _
    rw [decide_eq_true (by omega)]
  rw [s_raise (by rw [ev_orB, evO_f e1, evO_t e2])]
  rfl
theorem t_at_none (n : Nat) {P : Nat} {rows : List D} {S : Store} (w : WS S) : callN F (n + 3) 13 [cD P rows, .non] S = .exc ⟨"Nothing", []⟩ S := by
  rw [callN_at (fd := f_instruction_at) rfl rfl]
  show fin0 (svs (n + 2) (callN F (n + 2)) f_instruction_at.body [some (cD P rows), some .non] S) = _
  unfold f_instruction_at
  have e1 : (ev (callN F (n + 2)) (Ex.call 1 [Ex.v 1]).not).B [some (cD P rows), some .non] S = .ok true S := by
    rw [ev_notB, b_call (x_callV (d := .bl _) w rfl (m_cons (d := .non) rfl m_nil) (t_cnt0 n w)), bind_ok]
    rfl
  rw [s_raise (by rw [ev_orB, evO_t e1])]
  rfl
theorem t_wreg (n : Nat) (rs : List Int) {r : Nat} (v : Int) (h : r < rs.length) (hl : rs.length ≤ 1000) (S : Store) : callN F (n + 1) 14 [rD rs, .int (r : Nat), .int v] S = .ok (.v (rD (rs.set r v))) S := by
  rw [callN_at (fd := f_with_register) rfl rfl]
  show fin0 (svs n (callN F n) f_with_register.body [some (rD rs), some (.int (r : Nat)), some (.int v)] S) = _
  unfold f_with_register
  have ll : (rs.map D.int).length = rs.length := List.length_map _
  have e := x_tupS (C := callN F n) (ρ := [some (rD rs), some (.int (r : Nat)), some (.int v)]) (S := S) (ms_t (x_slTo (a := Ex.v 0) (hi := Ex.v 1) (xs := rs.map D.int) (j := r) rfl rfl (by omega)) rfl (ms_f (e := Ex.v 2) (d := .int v) rfl (ms_t (x_slFrom (a := Ex.v 0) (lo := Ex.bin Op2.add (Ex.v 1) (Ex.c (D.int 1))) (xs := rs.map D.int) (j := r + 1) rfl (x_succ rfl) (by omega)) rfl ms_nil)))
    (by
      rw [List.append_nil, set_cut rs v h, List.length_map, List.length_set]
      exact Nat.le_trans hl (by decide))
  rw [List.append_nil, set_cut rs v h] at e
  rw [s_ret e]
  rfl
def big : Int := 10 ^ 400
def small (i : Int) : Bool := if -big < i then decide (i < big) else false
theorem t_small (n : Nat) (i : Int) (S : Store) : callN F (n + 1) 3 [.int i] S = .ok (.v (.bl (small i))) S := by
  rw [callN_at (fd := f_is_small) rfl rfl]
  have e1 : svs n (callN F n) f_is_small.body (startE f_is_small.nn [.int i]) S = seqS (thenS ((ev (callN F n) (Ex.chn Cm.lt Cm.lt (Ex.bin Op2.sub (Ex.c (D.int 0)) (Ex.v 1)) (Ex.v 0) (Ex.v 1))).E [some (.int i), some (.int big), some (.int 2)] S) [some (.int i), some (.int big), some (.int 2)] fun t S1 => .ok (.rt t) [some (.int i), some (.int big), some (.int 2)] S1) (fun ρ1 S1 => .ok .nx ρ1 S1) := by
    kernel_rfl
  have e2 : (ev (callN F n) (Ex.chn Cm.lt Cm.lt (Ex.bin Op2.sub (Ex.c (D.int 0)) (Ex.v 1)) (Ex.v 0) (Ex.v 1))).E [some (.int i), some (.int big), some (.int 2)] S = ((R.ok (decide (0 - big < i)) S).bind fun k S3 => if k then R.ok (decide (i < big)) S3 else .ok false S3).bind fun k S1 => R.ok (T.v (.bl k)) S1 := by
    kernel_rfl
  rw [e1, e2]
  have e3 : (0 : Int) - big = -big := by omega
  rw [e3]
  unfold small
  by_cases h : -big < i
  · rw [if_pos h, decide_eq_true h]
    rfl
  · rw [if_neg h, decide_eq_false h]
    rfl
theorem t_fig (n : Nat) {i : Int} {S : Store} (w : WS S) (h : -big < i ∧ i < big) : callN F (n + 2) 15 [.int i] S = .ok (.v (.int i)) S := by
  rw [callN_at (fd := f_in_figures) rfl rfl]
  show fin0 (svs (n + 1) (callN F (n + 1)) f_in_figures.body [some (.int i)] S) = _
  unfold f_in_figures
  have e2 : (ev (callN F (n + 1)) (Ex.call 3 [Ex.v 0]).not).B [some (.int i)] S = .ok false S := by
    rw [ev_notB, b_call (x_callV (d := .bl _) w rfl (m_cons (d := .int i) rfl m_nil) (t_small n i S)), bind_ok]
    unfold small
    rw [if_pos h.1, decide_eq_true h.2]
    rfl
  have hc : (ev (callN F (n + 1)) (Ex.and [(Ex.chn Cm.lt Cm.lt (Ex.bin Op2.sub (Ex.c (D.int 0)) (Ex.gc "MOST_PLAIN" (D.int 1000000000000000000000000000000000000000000000000000000000000))) (Ex.v 0) (Ex.gc "MOST_PLAIN" (D.int 1000000000000000000000000000000000000000000000000000000000000))).not, (Ex.call 3 [Ex.v 0]).not])).B [some (.int i)] S = .ok false S := by
    rw [ev_andB, evs_cons, evs_cons, evs_nil, evC_cons]
    have e1 : ∃ k : Bool, (ev (callN F (n + 1)) (Ex.chn Cm.lt Cm.lt (Ex.bin Op2.sub (Ex.c (D.int 0)) (Ex.gc "MOST_PLAIN" (D.int 1000000000000000000000000000000000000000000000000000000000000))) (Ex.v 0) (Ex.gc "MOST_PLAIN" (D.int 1000000000000000000000000000000000000000000000000000000000000))).not).B [some (.int i)] S = .ok k S := by
      rw [ev_notB]
      show ∃ k : Bool, ((R.ok (decide ((0 : Int) - 1000000000000000000000000000000000000000000000000000000000000 < i)) S).bind fun k S3 => if k then R.ok (decide (i < 1000000000000000000000000000000000000000000000000000000000000)) S3 else .ok false S3).bind (fun k S1 => R.ok (!k) S1) = .ok k S
      cases decide ((0 : Int) - 1000000000000000000000000000000000000000000000000000000000000 < i) with
      | true => exact ⟨_, rfl⟩
      | false => exact ⟨_, rfl⟩
    obtain ⟨k, e1⟩ := e1
    rw [e1, bind_ok]
    cases k with
    | false => rfl
    | true =>
      rw [if_pos rfl, evC_cons, e2, bind_ok, if_neg Bool.false_ne_true]
  rw [s_step (s_no hc), s_ret (t := .v (.int i)) rfl]
  rfl
end
end K02
-- M5
set_option Elab.async false
set_option linter.all false
set_option maxRecDepth 100000
set_option maxHeartbeats 400000
/-! M5: put_on, kept_on, turned, reckoned. -/
namespace K02
open PySem Ev
def Dk.put (d : Dk) (p : Nat) (v : Int) : Dk := if d.b = 0 then { d with y := d.y.set p v } else { d with x := d.x.set p v }
def Dk.keep (d : Dk) (v : Int) : Dk := { d with k := some v }
def Dk.turn (d : Dk) : Dk := { d with b := 1 - d.b, k := none }
section
variable {n : Nat} {C : Calls} {ρ : Ev.Env} {S : Store}
theorem b_neg {e : Ex} {v : Int} (h : (ev C e).E ρ S = .ok (.v (.int v)) S) : (ev C (Ex.cmp Cm.lt e (Ex.c (D.int 0)))).B ρ S = .ok (decide (v < 0)) S := by
  rw [ev_cmpB, h, bind_ok]
  rfl
theorem t_keep (n : Nat) (d : Dk) {v : Int} (h : 0 ≤ v) (S : Store) : callN F (n + 1) 18 [d.d, .int v] S = .ok (.v (d.keep v).d) S := by
  rw [callN_at (fd := f_kept_on) rfl rfl]
  show fin0 (svs n (callN F n) f_kept_on.body [some d.d, some (.int v)] S) = _
  unfold f_kept_on
  have e1 : (ev (callN F n) (Ex.cmp Cm.lt (Ex.v 1) (Ex.c (D.int 0)))).B [some d.d, some (.int v)] S = .ok false S := by
    rw [b_neg (v := v) rfl, decide_eq_false (by omega)]
  rw [s_go e1, s_ret (x_tupS (ms_t (x_slTo (a := Ex.v 0) (hi := Ex.c (D.int 2)) (xs := [.int (d.b : Nat), .tup [rD d.x, rD d.y], oD d.k]) (j := 2) rfl rfl (show 2 ≤ 3 by decide)) rfl (ms_f (e := Ex.v 1) (d := .int v) rfl ms_nil)) (show 3 ≤ lim by decide))]
  rfl
theorem t_keep_no (n : Nat) (d : Dk) {v : Int} (h : v < 0) (S : Store) : callN F (n + 1) 18 [d.d, .int v] S = .exc ⟨"Nothing", []⟩ S := by
  rw [callN_at (fd := f_kept_on) rfl rfl]
  show fin0 (svs n (callN F n) f_kept_on.body [some d.d, some (.int v)] S) = _
  unfold f_kept_on
  have e1 : (ev (callN F n) (Ex.cmp Cm.lt (Ex.v 1) (Ex.c (D.int 0)))).B [some d.d, some (.int v)] S = .ok true S := by
    rw [b_neg (v := v) rfl, decide_eq_true h]
  rw [s_raise e1]
  rfl
theorem t_turn (n : Nat) (d : Dk) (hb : d.b ≤ 1) (S : Store) : callN F (n + 1) 19 [d.d] S = .ok (.v d.turn.d) S := by
  obtain ⟨b, x, y, k⟩ := d
  have hb : b ≤ 1 := hb
  match b, hb with
  | 0, _ => rfl
  | 1, _ => rfl
theorem t_put_no (n : Nat) (d : Dk) (p : Nat) {v : Int} (h : v < 0) (S : Store) : callN F (n + 1) 17 [d.d, .int (p : Nat), .int v] S = .exc ⟨"Nothing", []⟩ S := by
  rw [callN_at (fd := f_put_on) rfl rfl]
  show fin0 (svs n (callN F n) f_put_on.body [some d.d, some (.int (p : Nat)), some (.int v), none, none] S) = _
  unfold f_put_on
  have e1 : (ev (callN F n) (Ex.cmp Cm.lt (Ex.v 2) (Ex.c (D.int 0)))).B [some d.d, some (.int (p : Nat)), some (.int v), none, none] S = .ok true S := by
    rw [b_neg (v := v) rfl, decide_eq_true h]
  rw [s_raise e1]
  rfl
abbrev putE : Ex := Ex.tupS [true, false, true] [Ex.sl false true (((Ex.v 0).ix (Ex.c (D.int 1))).ix (Ex.v 3)) (Ex.c D.non) (Ex.v 1), Ex.v 2, Ex.sl true false (((Ex.v 0).ix (Ex.c (D.int 1))).ix (Ex.v 3)) (Ex.bin Op2.add (Ex.v 1) (Ex.c (D.int 1))) (Ex.c D.non)]
theorem t_put (n : Nat) (d : Dk) (hb : d.b ≤ 1) {p : Nat} {v : Int} (h : 0 ≤ v) (hx : p < d.x.length) (hy : p < d.y.length) (lx : d.x.length ≤ 1000) (ly : d.y.length ≤ 1000) (S : Store) : callN F (n + 1) 17 [d.d, .int (p : Nat), .int v] S = .ok (.v (d.put p v).d) S := by
  rw [callN_at (fd := f_put_on) rfl rfl]
  show fin0 (svs n (callN F n) f_put_on.body [some d.d, some (.int (p : Nat)), some (.int v), none, none] S) = _
  unfold f_put_on
  have e1 : (ev (callN F n) (Ex.cmp Cm.lt (Ex.v 2) (Ex.c (D.int 0)))).B [some d.d, some (.int (p : Nat)), some (.int v), none, none] S = .ok false S := by
    rw [b_neg (v := v) rfl, decide_eq_false (by omega)]
  rw [s_go e1]
  obtain ⟨b, x, y, k⟩ := d
  have hb : b ≤ 1 := hb
  have hx : p < x.length := hx
  have hy : p < y.length := hy
  have lx : x.length ≤ 1000 := lx
  have ly : y.length ≤ 1000 := ly
  have mk : ∀ (o : Int) (rs : List Int), p < rs.length → rs.length ≤ 1000 → (ev (callN F n) (((Ex.v 0).ix (Ex.c (D.int 1))).ix (Ex.v 3))).E [some (Dk.d ⟨b, x, y, k⟩), some (.int (p : Nat)), some (.int v), some (.int o), none] S = .ok (.v (rD rs)) S →
      (ev (callN F n) putE).E [some (Dk.d ⟨b, x, y, k⟩), some (.int (p : Nat)), some (.int v), some (.int o), none] S = .ok (.v (rD (rs.set p v))) S := fun o rs hr hl hi => by
    have e := x_tupS (ms_t (x_slTo (a := ((Ex.v 0).ix (Ex.c (D.int 1))).ix (Ex.v 3)) (hi := Ex.v 1) (xs := rs.map D.int) (j := p) hi rfl (by rw [List.length_map]; omega)) rfl (ms_f (e := Ex.v 2) (d := .int v) rfl (ms_t (x_slFrom (a := ((Ex.v 0).ix (Ex.c (D.int 1))).ix (Ex.v 3)) (lo := Ex.bin Op2.add (Ex.v 1) (Ex.c (D.int 1))) (xs := rs.map D.int) (j := p + 1) hi (x_succ rfl) (by rw [List.length_map]; omega)) rfl ms_nil)))
      (by
        rw [List.append_nil, set_cut rs v hr, List.length_map, List.length_set]
        exact Nat.le_trans hl (by decide))
    rw [List.append_nil, set_cut rs v hr] at e
    exact e
  match b, hb with
  | 0, _ =>
    have s1 : sv n (callN F n) (St.asg (Tg.v 3) (Ex.bin Op2.sub (Ex.c (D.int 1)) ((Ex.v 0).ix (Ex.c (D.int 0))))) [some (Dk.d ⟨0, x, y, k⟩), some (.int (p : Nat)), some (.int v), none, none] S = .ok .nx [some (Dk.d ⟨0, x, y, k⟩), some (.int (p : Nat)), some (.int v), some (.int 1), none] S := rfl
    have s2 : sv n (callN F n) (St.asg (Tg.v 4) putE) [some (Dk.d ⟨0, x, y, k⟩), some (.int (p : Nat)), some (.int v), some (.int 1), none] S = .ok .nx [some (Dk.d ⟨0, x, y, k⟩), some (.int (p : Nat)), some (.int v), some (.int 1), some (rD (y.set p v))] S :=
      s_asg (show 4 < 5 by decide) (mk 1 y hy ly rfl)
    rw [s_step s1, s_step s2, s_ret (x_tup (ds := [.int 0, .tup [rD x, rD (y.set p v)], oD k]) (m_cons rfl (m_cons (by
      rw [x_ifeF (by rw [ev_cmpB]; show opt (cmp2 .eq (.v (.int 1)) (.v (.int 0)) S) S = _; rw [eq_int]; rfl)]
      rfl) (m_cons rfl m_nil))) (show 3 ≤ lim by decide))]
    rfl
  | 1, _ =>
    have s1 : sv n (callN F n) (St.asg (Tg.v 3) (Ex.bin Op2.sub (Ex.c (D.int 1)) ((Ex.v 0).ix (Ex.c (D.int 0))))) [some (Dk.d ⟨1, x, y, k⟩), some (.int (p : Nat)), some (.int v), none, none] S = .ok .nx [some (Dk.d ⟨1, x, y, k⟩), some (.int (p : Nat)), some (.int v), some (.int 0), none] S := rfl
    have s2 : sv n (callN F n) (St.asg (Tg.v 4) putE) [some (Dk.d ⟨1, x, y, k⟩), some (.int (p : Nat)), some (.int v), some (.int 0), none] S = .ok .nx [some (Dk.d ⟨1, x, y, k⟩), some (.int (p : Nat)), some (.int v), some (.int 0), some (rD (x.set p v))] S :=
      s_asg (show 4 < 5 by decide) (mk 0 x hx lx rfl)
    rw [s_step s1, s_step s2, s_ret (x_tup (ds := [.int 1, .tup [rD (x.set p v), rD y], oD k]) (m_cons rfl (m_cons (by
      rw [x_ifeT (by rw [ev_cmpB]; show opt (cmp2 .eq (.v (.int 0)) (.v (.int 0)) S) S = _; rw [eq_int]; rfl)]
      rfl) (m_cons rfl m_nil))) (show 3 ≤ lim by decide))]
    rfl
/-- tests of the word, by one's first part -/
theorem b_word {i : Nat} {s t : Str} {r : List D} (h : ρ[i]? = some (some (.tup (.str s :: r)))) : (ev C (Ex.cmp Cm.eq ((Ex.v i).ix (Ex.c (D.int 0))) (Ex.c (D.str t)))).B ρ S = .ok (decide (s = t)) S :=
  b_eqS (x_ix (x_v h) x_c (atI0 _ _)) x_c
theorem b_wF {i : Nat} {s t : Str} {r : List D} (h : ρ[i]? = some (some (.tup (.str s :: r)))) (hn : decide (s = t) = false := by decide) : (ev C (Ex.cmp Cm.eq ((Ex.v i).ix (Ex.c (D.int 0))) (Ex.c (D.str t)))).B ρ S = .ok false S := by
  rw [b_word h, hn]
theorem b_wT {i : Nat} {s t : Str} {r : List D} (h : ρ[i]? = some (some (.tup (.str s :: r)))) (hn : decide (s = t) = true := by decide) : (ev C (Ex.cmp Cm.eq ((Ex.v i).ix (Ex.c (D.int 0))) (Ex.c (D.str t)))).B ρ S = .ok true S := by
  rw [b_word h, hn]
theorem x_at {i : Nat} {k : Int} {xs : List D} {d : D} (h : ρ[i]? = some (some (.tup xs))) (hk : L2.atI xs k = some d) : (ev C ((Ex.v i).ix (Ex.c (D.int k)))).E ρ S = .ok (.v d) S := x_ix (x_v h) x_c hk
theorem x_reg {i : Nat} {e : Ex} {rs : List Int} {r : Nat} {v : Int} (h : ρ[i]? = some (some (rD rs))) (he : (ev C e).E ρ S = .ok (.v (.int (r : Nat))) S) (hv : rs[r]? = some v) : (ev C ((Ex.v i).ix e)).E ρ S = .ok (.v (.int v)) S := x_ix (x_v h) he (at_map hv)
theorem t_rec_pot (n : Nat) {rs : List Int} {d : Dk} (hb : d.b ≤ 1) {r : D} {p : Nat} {v : Int} {S : Store} (w : WS S) (h : d.on[p]? = some v) : callN F (n + 3) 16 [.tup [.str "pot", r, .int (p : Nat)], rD rs, d.d] S = .ok (.v (.int v)) S := by
  rw [callN_at (fd := f_reckoned) rfl rfl]
  show fin0 (svs (n + 2) (callN F (n + 2)) f_reckoned.body [some (.tup [.str "pot", r, .int (p : Nat)]), some (rD rs), some d.d, none, none] S) = _
  unfold f_reckoned
  rw [s_stop (b_wT rfl) (x_ix (x_callV w (rD_pure _) (m_cons rfl m_nil) (t_on (n + 1) d hb S)) (x_at (k := 2) rfl rfl) (at_map h))]
  rfl
theorem t_rec_num (n : Nat) {rs : List Int} {d : Dk} {r v : D} (S : Store) : callN F (n + 3) 16 [.tup [.str "num", r, v], rD rs, d.d] S = .ok (.v v) S := by
  rw [callN_at (fd := f_reckoned) rfl rfl]
  show fin0 (svs (n + 2) (callN F (n + 2)) f_reckoned.body [some (.tup [.str "num", r, v]), some (rD rs), some d.d, none, none] S) = _
  unfold f_reckoned
  rw [s_go (b_wF rfl), s_stop (b_wT rfl) (x_at (k := 2) rfl rfl)]
  rfl
/-- what the reckoning words reckon -/
def reck : Nat → Int → Int → Int
  | 0, a, b => a + b
  | 1, a, b => a - b
  | _, a, b => a * b
def reckW : Nat → Str
  | 0 => "plus"
  | 1 => "minus"
  | _ => "times"
theorem t_rec (n : Nat) {rs : List Int} {d : D} {o : Nat} (ho : o ≤ 2) {r : D} {s u : Nat} {a b : Int} {S : Store} (w : WS S) (ha : rs[s]? = some a) (hb : rs[u]? = some b) (hf : -big < reck o a b ∧ reck o a b < big) (hm : mulOk a b = true) :
    callN F (n + 3) 16 [.tup [.str (reckW o), r, .int (s : Nat), .int (u : Nat)], rD rs, d] S = .ok (.v (.int (reck o a b))) S := by
  rw [callN_at (fd := f_reckoned) rfl rfl]
  show fin0 (svs (n + 2) (callN F (n + 2)) f_reckoned.body [some (.tup [.str (reckW o), r, .int (s : Nat), .int (u : Nat)]), some (rD rs), some d, none, none] S) = _
  unfold f_reckoned
  have hp : sv (n + 2) (callN F (n + 2)) (St.par 3 4 ((Ex.v 1).ix ((Ex.v 0).ix (Ex.c (D.int 2)))) ((Ex.v 1).ix ((Ex.v 0).ix (Ex.c (D.int 3))))) [some (.tup [.str (reckW o), r, .int (s : Nat), .int (u : Nat)]), some (rD rs), some d, none, none] S =
      .ok .nx [some (.tup [.str (reckW o), r, .int (s : Nat), .int (u : Nat)]), some (rD rs), some d, some (.int a), some (.int b)] S :=
    s_par (show 3 < 5 by decide) (show 4 < 5 by decide) (x_reg rfl (x_at (k := 2) rfl rfl) ha) (x_reg rfl (x_at (k := 3) rfl rfl) hb)
  have fg := fun {i : Int} (h : -big < i ∧ i < big) => t_fig n w h
  match o, ho with
  | 0, _ =>
    rw [s_go (b_wF rfl), s_go (b_wF rfl), s_step hp, s_stop (b_wT rfl) (x_callV (d := .int (a + b)) w rfl (m_cons (x_add rfl rfl) m_nil) (fg hf))]
    rfl
  | 1, _ =>
    rw [s_go (b_wF rfl), s_go (b_wF rfl), s_step hp, s_go (b_wF rfl), s_ret (x_callV (d := .int (a - b)) w rfl (m_cons (by rw [x_ifeT (b_wT rfl)]; exact x_sub rfl rfl) m_nil) (fg hf))]
    rfl
  | 2, _ =>
    have em : (ev (callN F (n + 2)) (Ex.bin Op2.mul (Ex.v 3) (Ex.v 4))).E [some (.tup [.str (reckW 2), r, .int (s : Nat), .int (u : Nat)]), some (rD rs), some d, some (.int a), some (.int b)] S = .ok (.v (.int (a * b))) S := by
      show opt ((if mulOk a b then some (a * b) else none).map fun k => T.v (.int k)) S = _
      rw [if_pos hm]
      rfl
    rw [s_go (b_wF rfl), s_go (b_wF rfl), s_step hp, s_go (b_wF rfl), s_ret (x_callV (d := .int (a * b)) w rfl (m_cons (by rw [x_ifeF (b_wF rfl)]; exact em) m_nil) (fg hf))]
    rfl
end
end K02
-- M6
set_option Elab.async false
set_option linter.all false
set_option maxRecDepth 100000
set_option maxHeartbeats 400000
/-! M6: instructions, deeds, one step as data; written_step. -/
namespace K02
open PySem Ev
inductive Ins where
  | pot (r p : Nat) | num (r v : Nat) | ar (o r s u : Nat) | toss (r : Nat) | under (r s to : Nat) | jump (to : Nat) | kept (r to : Nat) | keep (r : Nat) | put (p r : Nat) | turn | rest
def Ins.d : Ins → D
  | .pot r p => .tup [.str "pot", nD r, nD p]
  | .num r v => .tup [.str "num", nD r, nD v]
  | .ar o r s u => .tup [.str (reckW o), nD r, nD s, nD u]
  | .toss r => .tup [.str "toss", nD r]
  | .under r s to => .tup [.str "under", nD r, nD s, nD to]
  | .jump to => .tup [.str "jump", nD to]
  | .kept r to => .tup [.str "kept", nD r, nD to]
  | .keep r => .tup [.str "keep", nD r]
  | .put p r => .tup [.str "put", nD p, nD r]
  | .turn => .tup [.str "turn"]
  | .rest => .tup [.str "rest"]
def Ins.ok (P : Nat) : Ins → Prop
  | .pot r p => r < 4 ∧ p < P
  | .num r _ => r < 4
  | .ar o r s u => o ≤ 2 ∧ r < 4 ∧ s < 4 ∧ u < 4
  | .toss r => r < 4
  | .under r s _ => r < 4 ∧ s < 4
  | .jump _ => True
  | .kept r _ => r < 4
  | .keep r => r < 4
  | .put p r => p < P ∧ r < 4
  | .turn => True
  | .rest => True
/-- the places that are jumped to -/
def Ins.to (size : Nat) : Ins → Prop
  | .under _ _ to => to < size
  | .jump to => to < size
  | .kept _ to => to < size
  | _ => True
inductive Dd where
  | non | empty | keep (v : Int) | put (p : Nat) (v : Int) | turn | rest
def Dd.d : Dd → D
  | .non => .non
  | .empty => .tup [.str "empty"]
  | .keep v => .tup [.str "keep", .int v]
  | .put p v => .tup [.str "put", nD p, .int v]
  | .turn => .tup [.str "turn"]
  | .rest => .tup [.str "rest"]
theorem Dd.pure (d : Dd) : d.d.pure = true := by cases d <;> rfl
theorem Dd.dep (d : Dd) : d.d.dep ≤ 1 := by cases d <;> simp [Dd.d, D.dep, D.deps, nD]
def at_ (rs : List Int) (r : Nat) : Int := rs.getD r 0
theorem at_get {rs : List Int} {r : Nat} (h : r < rs.length) : rs[r]? = some (at_ rs r) := by
  unfold at_
  rw [List.getD_eq_getElem?_getD, List.getElem?_eq_getElem h]
  rfl
def stepM (i : Ins) (s : Ms) (pl : Nat) : Option (Ms × Dd) := match i with
  | .pot r p => some ({ s with rs := s.rs.set r (at_ s.dk.on p), pl := some (pl + 1) }, .non)
  | .num r v => some ({ s with rs := s.rs.set r (v : Nat), pl := some (pl + 1) }, .non)
  | .ar o r a b => some ({ s with rs := s.rs.set r (reck o (at_ s.rs a) (at_ s.rs b)), pl := some (pl + 1) }, .non)
  | .toss r => (match s.cs with
    | [] => some (s, .empty)
    | c :: cs => some ({ s with rs := s.rs.set r (2 * at_ s.rs r + c), pl := some (pl + 1), cs := cs }, .non))
  | .under a b to => some ({ s with pl := some (if at_ s.rs a < at_ s.rs b then to else pl + 1) }, .non)
  | .jump to => some ({ s with pl := some to }, .non)
  | .kept r to => (match s.dk.k with
    | none => some ({ s with pl := some to }, .non)
    | some k => some ({ s with rs := s.rs.set r k, pl := some (pl + 1) }, .non))
  | .keep r => if at_ s.rs r < 0 then none else some ({ s with dk := s.dk.keep (at_ s.rs r), pl := some (pl + 1) }, .keep (at_ s.rs r))
  | .put p r => if at_ s.rs r < 0 then none else some ({ s with dk := s.dk.put p (at_ s.rs r), pl := some (pl + 1) }, .put p (at_ s.rs r))
  | .turn => some ({ s with dk := s.dk.turn, pl := some (pl + 1) }, .turn)
  | .rest => some ({ s with pl := none }, .rest)
def Ins.wr : Ins → Prop
  | .keep _ => True
  | .put _ _ => True
  | .turn => True
  | .rest => True
  | _ => False
/-- what a step gives, or that there is none -/
def resS (S : Store) : Option (Ms × Dd) → R T
  | some (s, d) => .ok (.v (.tup [s.d, d.d])) S
  | none => .exc ⟨"Nothing", []⟩ S
/-- a state that is well-formed, its registers at most most -/
structure Wf (P : Nat) (most : Int) (s : Ms) : Prop where
  rl : s.rs.length = 16
  b : s.dk.b ≤ 1
  x : s.dk.x.length = P
  y : s.dk.y.length = P
  P2 : P ≤ 2
  sm : ∀ v ∈ s.rs, -most ≤ v ∧ v ≤ most
  cs : ∀ c ∈ s.cs, 0 ≤ c ∧ c ≤ 1
  cl : s.cs.length ≤ 100
section
variable {n : Nat} {C : Calls} {ρ : Ev.Env} {S : Store}
theorem m_exc {e : Ex} {es : List Ex} {x : Xc} {S1 : Store} (h : (ev C e).E ρ S = .exc x S1) : evM (evs C (e :: es)) ρ S = .exc x S1 := by
  rw [evs_cons, evM_cons', h, bind_exc]
theorem m_consX {e : Ex} {es : List Ex} {d : D} {x : Xc} {S1 S2 : Store} (h : (ev C e).E ρ S = .ok (.v d) S1) (r : evM (evs C es) ρ S1 = .exc x S2) : evM (evs C (e :: es)) ρ S = .exc x S2 := by
  rw [evs_cons, evM_cons', h, bind_ok, mat_v, bind_ok, r, bind_exc]
theorem x_tupX {es : List Ex} {x : Xc} {S1 : Store} (h : evM (evs C es) ρ S = .exc x S1) : (ev C (.tup es)).E ρ S = .exc x S1 := by
  rw [ev_tup, h, bind_exc]
theorem s_asgX {i : Nat} {e : Ex} {x : Xc} {r : List St} {S1 : Store} (h : (ev C e).E ρ S = .exc x S1) : svs n C (.asg (.v i) e :: r) ρ S = .exc x ρ S1 := by
  rw [svs_cons, sv_asg, h, bind_exc, thenS_exc, seqS_exc]
theorem x_rp {rs : List Int} {i j : Nat} {k : Int} {xs : List D} {r : Nat} (hi : ρ[i]? = some (some (rD rs))) (hj : ρ[j]? = some (some (.tup xs))) (hk : L2.atI xs k = some (nD r)) (hr : r < rs.length) : (ev C ((Ex.v i).ix ((Ex.v j).ix (Ex.c (D.int k))))).E ρ S = .ok (.v (.int (at_ rs r))) S :=
  x_reg hi (x_at hj hk) (at_get hr)
theorem t_written (n : Nat) {P : Nat} {most : Int} {i : Ins} {s : Ms} {pl : Nat} (hi : i.ok P) (wf : Wf P most s) (hp : s.pl = some pl) (hw : i.wr) {S : Store} (w : WS S) :
    callN F (n + 2) 20 [i.d, s.d] S = resS S (stepM i s pl) := by
  rw [callN_at (fd := f_written_step) rfl rfl]
  obtain ⟨rs, pl', dk, cs⟩ := s
  cases hp
  obtain ⟨h1, h2, h3, h4, h5, h6, h7, h8⟩ := wf
  have h1 : rs.length = 16 := h1
  have s0 : ∀ r, svs (n + 1) (callN F (n + 1)) f_written_step.body [some i.d, some (Ms.d ⟨rs, some pl, dk, cs⟩), none, none, none, none, none] S = r → fin0 (svs (n + 1) (callN F (n + 1)) f_written_step.body (startE f_written_step.nn [i.d, Ms.d ⟨rs, some pl, dk, cs⟩]) S) = fin0 r := fun r h => by
    rw [← h]
    rfl
  have pre : ∀ i : Ins, svs (n + 1) (callN F (n + 1)) f_written_step.body [some i.d, some (Ms.d ⟨rs, some pl, dk, cs⟩), none, none, none, none, none] S = svs (n + 1) (callN F (n + 1)) f_written_step.body.tail [some i.d, some (Ms.d ⟨rs, some pl, dk, cs⟩), some (rD rs), some (nD pl), some dk.d, some (rD cs), none] S := fun i => rfl
  rw [s0 _ (pre i)]
  match i, hi, hw with
  | .keep r, hi, _ =>
    have hr : r < rs.length := by have : r < 4 := hi; omega
    unfold f_written_step
    have er : (ev (callN F (n + 1)) ((Ex.v 2).ix ((Ex.v 0).ix (Ex.c (D.int 1))))).E [some (Ins.keep r).d, some (Ms.d ⟨rs, some pl, dk, cs⟩), some (rD rs), some (nD pl), some dk.d, some (rD cs), none] S = .ok (.v (.int (at_ rs r))) S := x_rp rfl rfl rfl hr
    show fin0 (svs (n + 1) (callN F (n + 1)) (St.ite _ [St.ret _] [] :: _) _ S) = _
    by_cases hn : at_ rs r < 0
    · have ex : (ev (callN F (n + 1)) (Ex.tup [Ex.tup [Ex.v 2, Ex.bin Op2.add (Ex.v 3) (Ex.c (D.int 1)), Ex.call 18 [Ex.v 4, (Ex.v 2).ix ((Ex.v 0).ix (Ex.c (D.int 1)))], Ex.v 5], Ex.tup [Ex.c (D.str "keep"), (Ex.v 2).ix ((Ex.v 0).ix (Ex.c (D.int 1)))]])).E [some (Ins.keep r).d, some (Ms.d ⟨rs, some pl, dk, cs⟩), some (rD rs), some (nD pl), some dk.d, some (rD cs), none] S = .exc ⟨"Nothing", []⟩ S :=
        x_tupX (m_exc (x_tupX (m_consX rfl (m_consX (x_succ (j := pl) rfl) (m_exc (x_callX w (m_cons rfl (m_cons er m_nil)) (t_keep_no n dk hn S)))))))
      rw [svs_cons, s_yes (b_wT rfl), s_ret_exc ex]
      show _ = resS S (if at_ rs r < 0 then none else _)
      rw [if_pos hn]
      rfl
    · have ex := x_tup (C := callN F (n + 1)) (ρ := [some (Ins.keep r).d, some (Ms.d ⟨rs, some pl, dk, cs⟩), some (rD rs), some (nD pl), some dk.d, some (rD cs), none]) (S := S) (m_cons (x_tup (m_cons (e := Ex.v 2) (d := rD rs) rfl (m_cons (x_succ (e := Ex.v 3) (j := pl) rfl) (m_cons (x_callV w (Dk.pure (dk.keep (at_ rs r))) (m_cons (e := Ex.v 4) (d := dk.d) rfl (m_cons er m_nil)) (t_keep n dk (by omega) S)) (m_cons (e := Ex.v 5) (d := rD cs) rfl m_nil)))) (show 4 ≤ lim by decide)) (m_cons (x_tup (m_cons (e := Ex.c (D.str "keep")) rfl (m_cons er m_nil)) (show 2 ≤ lim by decide)) m_nil)) (show 2 ≤ lim by decide)
      rw [s_stop (b_wT rfl) ex]
      show _ = resS S (if at_ rs r < 0 then none else _)
      rw [if_neg hn]
      rfl
  | .put p r, hi, _ =>
    have hp : p < P := hi.1
    have hr : r < rs.length := by have : r < 4 := hi.2; omega
    have h3 : dk.x.length = P := h3
    have h4 : dk.y.length = P := h4
    unfold f_written_step
    have er : (ev (callN F (n + 1)) ((Ex.v 2).ix ((Ex.v 0).ix (Ex.c (D.int 2))))).E [some (Ins.put p r).d, some (Ms.d ⟨rs, some pl, dk, cs⟩), some (rD rs), some (nD pl), some dk.d, some (rD cs), none] S = .ok (.v (.int (at_ rs r))) S := x_rp rfl rfl rfl hr
    show fin0 (svs (n + 1) (callN F (n + 1)) (St.ite _ [St.ret _] [] :: St.ite _ _ [] :: _) _ S) = _
    rw [s_go (b_wF rfl), svs_cons, s_yes (b_wT rfl)]
    by_cases hn : at_ rs r < 0
    · have ex : (ev (callN F (n + 1)) (Ex.tup [Ex.v 2, Ex.bin Op2.add (Ex.v 3) (Ex.c (D.int 1)), Ex.call 17 [Ex.v 4, (Ex.v 0).ix (Ex.c (D.int 1)), (Ex.v 2).ix ((Ex.v 0).ix (Ex.c (D.int 2)))], Ex.v 5])).E [some (Ins.put p r).d, some (Ms.d ⟨rs, some pl, dk, cs⟩), some (rD rs), some (nD pl), some dk.d, some (rD cs), none] S = .exc ⟨"Nothing", []⟩ S :=
        x_tupX (m_consX rfl (m_consX (x_succ (j := pl) rfl) (m_exc (x_callX w (m_cons rfl (m_cons (x_at rfl rfl) (m_cons er m_nil))) (t_put_no n dk p hn S)))))
      rw [s_asgX ex]
      show _ = resS S (if at_ rs r < 0 then none else _)
      rw [if_pos hn]
      rfl
    · have ex := x_tup (C := callN F (n + 1)) (ρ := [some (Ins.put p r).d, some (Ms.d ⟨rs, some pl, dk, cs⟩), some (rD rs), some (nD pl), some dk.d, some (rD cs), none]) (S := S) (m_cons (e := Ex.v 2) (d := rD rs) rfl (m_cons (x_succ (e := Ex.v 3) (j := pl) rfl) (m_cons (x_callV w (Dk.pure (dk.put p (at_ rs r))) (m_cons (e := Ex.v 4) (d := dk.d) rfl (m_cons (x_at (i := 0) (k := 1) (d := nD p) rfl rfl) (m_cons er m_nil))) (t_put n dk h2 (by omega) (by omega) (by omega) (by omega) (by omega) S)) (m_cons (e := Ex.v 5) (d := rD cs) rfl m_nil)))) (show 4 ≤ lim by decide)
      rw [s_step (s_asg (show 6 < 7 by decide) ex), s_ret (t := .v (.tup [Ms.d ⟨rs, some (pl + 1), dk.put p (at_ rs r), cs⟩, .tup [.str "put", nD p, .int (at_ rs r)]])) (x_tup (m_cons rfl (m_cons (x_tup (m_cons rfl (m_cons (x_at rfl rfl) (m_cons (x_rp rfl rfl rfl hr) m_nil))) (show 3 ≤ lim by decide)) m_nil)) (show 2 ≤ lim by decide))]
      show _ = resS S (if at_ rs r < 0 then none else _)
      rw [if_neg hn]
      rfl
  | .turn, _, _ =>
    unfold f_written_step
    show fin0 (svs (n + 1) (callN F (n + 1)) (St.ite _ [St.ret _] [] :: St.ite _ _ [] :: St.ite _ [St.ret _] [] :: _) _ S) = _
    rw [s_go (b_wF rfl), s_go (b_wF rfl), s_stop (b_wT rfl) (x_tup (m_cons (x_tup (m_cons rfl (m_cons (x_succ (j := pl) rfl) (m_cons (x_callV w (Dk.pure dk.turn) (m_cons rfl m_nil) (t_turn n dk h2 S)) (m_cons rfl m_nil)))) (show 4 ≤ lim by decide)) (m_cons rfl m_nil)) (show 2 ≤ lim by decide))]
    rfl
  | .pot _ _, _, h => exact h.elim
  | .num _ _, _, h => exact h.elim
  | .ar _ _ _ _, _, h => exact h.elim
  | .toss _, _, h => exact h.elim
  | .under _ _ _, _, h => exact h.elim
  | .jump _, _, h => exact h.elim
  | .kept _ _, _, h => exact h.elim
  | .rest, _, _ =>
    unfold f_written_step
    show fin0 (svs (n + 1) (callN F (n + 1)) (St.ite _ [St.ret _] [] :: St.ite _ _ [] :: St.ite _ [St.ret _] [] :: [St.ret _]) _ S) = _
    rw [s_go (b_wF rfl), s_go (b_wF rfl), s_go (b_wF rfl), s_ret (t := .v (.tup [Ms.d ⟨rs, none, dk, cs⟩, .tup [.str "rest"]])) rfl]
    rfl
end
end K02
-- M7
set_option Elab.async false
set_option linter.all false
set_option maxRecDepth 100000
set_option maxHeartbeats 400000
/-! M7: step. -/
namespace K02
open PySem Ev
def m60 : Int := 10 ^ 60
theorem m60_eq : m60 = ((10 ^ 60 : Nat) : Int) := by decide +kernel
theorem big_eq : big = ((10 ^ 400 : Nat) : Int) := by decide +kernel
theorem big_of {i : Int} (h : i.natAbs ≤ 10 ^ 130) : -big < i ∧ i < big := by
  have h2 : (10 : Nat) ^ 130 < 10 ^ 400 := by decide +kernel
  rw [big_eq]
  omega
theorem abs60 {v : Int} (h : -m60 ≤ v ∧ v ≤ m60) : v.natAbs ≤ 10 ^ 60 := by
  rw [m60_eq] at h
  omega
theorem reck_big {o : Nat} {a b : Int} (ha : a.natAbs ≤ 10 ^ 60) (hb : b.natAbs ≤ 10 ^ 60) : -big < reck o a b ∧ reck o a b < big := by
  have e1 : (10 : Nat) ^ 60 + 10 ^ 60 ≤ 10 ^ 130 := by decide +kernel
  apply big_of
  match o with
  | 0 =>
    show (a + b).natAbs ≤ _
    omega
  | 1 =>
    show (a - b).natAbs ≤ _
    omega
  | o + 2 =>
    show (a * b).natAbs ≤ _
    rw [Int.natAbs_mul]
    exact Nat.le_trans (Nat.mul_le_mul ha hb) (by decide +kernel)
theorem mul60 {a b : Int} (ha : a.natAbs ≤ 10 ^ 60) (hb : b.natAbs ≤ 10 ^ 60) : mulOk a b = true := by
  have h1 : (10 : Nat) ^ 60 < 2 ^ 200 := by decide +kernel
  have h2 : (2 : Nat) ^ 200 ≤ 2 ^ 400000 := Nat.pow_le_pow_right (by decide) (by decide)
  unfold mulOk
  rw [decide_eq_true (Nat.lt_of_lt_of_le (Nat.lt_of_le_of_lt ha h1) h2), decide_eq_true (Nat.lt_of_lt_of_le (Nat.lt_of_le_of_lt hb h1) h2), Bool.and_true, Bool.or_true]
theorem eqv_str (a b : Str) : PyData.eqv (.str a) (.str b) = decide (a = b) := by
  rw [PyData.eqv]
  by_cases h : a = b
  · rw [decide_eq_true h, h]
    exact beq_self_eq_true _
  · rw [decide_eq_false h]
    exact beq_eq_false_iff_ne.mpr h
section
variable {n : Nat} {C : Calls} {ρ : Ev.Env} {S : Store}
theorem inD_str (s : Str) : ∀ ws : List Str, inD (ws.map D.str) (.str s) = ws.any fun t => decide (t = s)
  | [] => rfl
  | t :: ws => by
    show (PyData.eqv (.str t) (.str s) || inD (ws.map D.str) (.str s)) = _
    rw [eqv_str, inD_str s ws]
    rfl
theorem m_strs : ∀ ws : List Str, evM (evs C (ws.map fun w => Ex.c (.str w))) ρ S = .ok (ws.map D.str) S
  | [] => rfl
  | t :: ws => m_cons rfl (m_strs ws)
theorem b_in {a : Ex} {s : Str} {ws : List Str} (hl : ws.length ≤ lim) (ha : (ev C a).E ρ S = .ok (.v (.str s)) S) : (ev C (Ex.isin false a (Ex.tup (ws.map fun w => Ex.c (.str w))))).B ρ S = .ok (ws.any fun t => decide (t = s)) S := by
  rw [ev_isinB, ha, bind_ok, x_tup (m_strs ws) (by rw [List.length_map]; exact hl), bind_ok]
  have e : inF (.v (.str s)) (.v (.tup (ws.map D.str))) S = some (inD (ws.map D.str) (.str s)) := by
    show (if (D.str s).flat && (ws.map D.str).all D.flat then some (inD (ws.map D.str) (.str s)) else none) = _
    have : (ws.map D.str).all D.flat = true := by
      rw [List.all_map]
      exact List.all_eq_true.mpr fun _ _ => rfl
    rw [this]
    rfl
  rw [e, opt_some, bind_ok, inD_str]
  rfl
abbrev inK : Ex := Ex.isin false ((Ex.v 6).ix (Ex.c (D.int 0))) (Ex.tup [Ex.c (D.str "keep"), Ex.c (D.str "put"), Ex.c (D.str "turn"), Ex.c (D.str "rest")])
theorem b_inK {s : Str} {r : List D} {b : Bool} (h : ρ[6]? = some (some (.tup (.str s :: r)))) (hb : (["keep", "put", "turn", "rest"] : List Str).any (fun t => decide (t = s)) = b := by decide) : (ev C inK).B ρ S = .ok b S := by
  have z := b_in (C := C) (ρ := ρ) (S := S) (ws := ["keep", "put", "turn", "rest"]) (show 4 ≤ lim by decide) (x_at (k := 0) h (atI0 (D.str s) r))
  rw [hb] at z
  exact z
abbrev stepB : List St := f_step.body.tail.tail
theorem t_step (n : Nat) {P : Nat} {i : Ins} {s : Ms} {pl : Nat} {rows : List D} (hi : i.ok P) (wf : Wf P m60 s) (hp : s.pl = some pl) (hr : rows[pl]? = some i.d) {S : Store} (w : WS S) : callN F (n + 5) 21 [cD P rows, s.d] S = resS S (stepM i s pl) := by
  rw [callN_at (fd := f_step) rfl rfl]
  have wf0 := wf
  have hp0 := hp
  obtain ⟨rs, pl', dk, cs⟩ := s
  cases hp
  obtain ⟨h1, h2, h3, h4, h5, h6, h7, h8⟩ := wf
  have h1 : rs.length = 16 := h1
  have h2 : dk.b ≤ 1 := h2
  have h3 : dk.x.length = P := h3
  have h4 : dk.y.length = P := h4
  have h6 : ∀ v ∈ rs, -m60 ≤ v ∧ v ≤ m60 := h6
  have h7 : ∀ c ∈ cs, 0 ≤ c ∧ c ≤ 1 := h7
  have h8 : cs.length ≤ 100 := h8
  have lt : ∀ {r : Nat}, r < 4 → r < rs.length := fun h => by omega
  have sm : ∀ {r : Nat}, r < 4 → (at_ rs r).natAbs ≤ 10 ^ 60 := fun {r} h => abs60 (h6 _ (List.mem_of_getElem? (at_get (lt h))))
  have pre : svs (n + 4) (callN F (n + 4)) f_step.body (startE f_step.nn [cD P rows, Ms.d ⟨rs, some pl, dk, cs⟩]) S = svs (n + 4) (callN F (n + 4)) stepB [some (cD P rows), some (Ms.d ⟨rs, some pl, dk, cs⟩), some (rD rs), some (nD pl), some dk.d, some (rD cs), some i.d, none] S := by
    show svs (n + 4) (callN F (n + 4)) (St.asg (Tg.v 6) (Ex.call 13 [Ex.v 0, Ex.v 3]) :: stepB) [some (cD P rows), some (Ms.d ⟨rs, some pl, dk, cs⟩), some (rD rs), some (nD pl), some dk.d, some (rD cs), none, none] S = _
    have ip : i.d.pure = true := by cases i <;> rfl
    rw [s_step (s_asg (show 6 < 8 by decide) (x_callV w ip (m_cons rfl (m_cons rfl m_nil)) (t_at (n + 1) w hr)))]
    rfl
  rw [pre]
  have wr : ∀ i : Ins, i.ok P → i.wr → (ev (callN F (n + 4)) inK).B [some (cD P rows), some (Ms.d ⟨rs, some pl, dk, cs⟩), some (rD rs), some (nD pl), some dk.d, some (rD cs), some i.d, none] S = .ok true S →
      fin0 (svs (n + 4) (callN F (n + 4)) stepB [some (cD P rows), some (Ms.d ⟨rs, some pl, dk, cs⟩), some (rD rs), some (nD pl), some dk.d, some (rD cs), some i.d, none] S) = resS S (stepM i ⟨rs, some pl, dk, cs⟩ pl) := fun i hi hw hb => by
    have e := t_written (n + 2) hi wf0 hp0 hw w
    show fin0 (svs (n + 4) (callN F (n + 4)) (St.ite inK [St.ret (Ex.call 20 [Ex.v 6, Ex.v 1])] [] :: _) _ S) = _
    cases hm : stepM i ⟨rs, some pl, dk, cs⟩ pl with
    | none =>
      rw [hm] at e
      rw [svs_cons, s_yes hb, s_ret_exc (x_callX (x := "Nothing") w (m_cons rfl (m_cons rfl m_nil)) e)]
      rfl
    | some q =>
      rw [hm] at e
      have qp : (D.tup [q.1.d, q.2.d]).pure = true := by
        show (q.1.d.pure && (q.2.d.pure && true)) = true
        rw [Ms.pure, Dd.pure]
        rfl
      rw [s_stop hb (x_callV w qp (m_cons rfl (m_cons rfl m_nil)) e)]
      rfl
  match i, hi with
  | .keep r, hi => exact wr _ hi trivial (b_inK rfl)
  | .put p r, hi => exact wr _ hi trivial (b_inK rfl)
  | .turn, hi => exact wr _ hi trivial (b_inK rfl)
  | .rest, hi => exact wr _ hi trivial (b_inK rfl)
  | .jump to, _ =>
    show fin0 (svs (n + 4) (callN F (n + 4)) (St.ite inK _ [] :: St.ite _ [St.ret _] [] :: _) _ S) = _
    rw [s_go (b_inK rfl), s_stop (b_wT rfl) (x_tup (m_cons (x_tup (m_cons rfl (m_cons (x_at rfl rfl) (m_cons rfl (m_cons rfl m_nil)))) (show 4 ≤ lim by decide)) (m_cons rfl m_nil)) (show 2 ≤ lim by decide))]
    rfl
  | .under a b to, hi =>
    have ha := lt hi.1
    have hb := lt hi.2
    show fin0 (svs (n + 4) (callN F (n + 4)) (St.ite inK _ [] :: St.ite _ [St.ret _] [] :: St.ite _ [St.ret _] [] :: _) _ S) = _
    have et : (ev (callN F (n + 4)) (Ex.cmp Cm.lt ((Ex.v 2).ix ((Ex.v 6).ix (Ex.c (D.int 1)))) ((Ex.v 2).ix ((Ex.v 6).ix (Ex.c (D.int 2)))))).B [some (cD P rows), some (Ms.d ⟨rs, some pl, dk, cs⟩), some (rD rs), some (nD pl), some dk.d, some (rD cs), some (Ins.under a b to).d, none] S = .ok (decide (at_ rs a < at_ rs b)) S := by
      rw [ev_cmpB, x_rp rfl rfl rfl ha, bind_ok, x_rp rfl rfl rfl hb, bind_ok]
      rfl
    have ei : (ev (callN F (n + 4)) ((Ex.cmp Cm.lt ((Ex.v 2).ix ((Ex.v 6).ix (Ex.c (D.int 1)))) ((Ex.v 2).ix ((Ex.v 6).ix (Ex.c (D.int 2))))).ife ((Ex.v 6).ix (Ex.c (D.int 3))) (Ex.bin Op2.add (Ex.v 3) (Ex.c (D.int 1))))).E [some (cD P rows), some (Ms.d ⟨rs, some pl, dk, cs⟩), some (rD rs), some (nD pl), some dk.d, some (rD cs), some (Ins.under a b to).d, none] S = .ok (.v (nD (if at_ rs a < at_ rs b then to else pl + 1))) S := by
      by_cases hq : at_ rs a < at_ rs b
      · rw [x_ifeT (by rw [et, decide_eq_true hq]), if_pos hq]
        exact x_at rfl rfl
      · rw [x_ifeF (by rw [et, decide_eq_false hq]), if_neg hq]
        exact x_succ rfl
    rw [s_go (b_inK rfl), s_go (b_wF rfl), s_stop (b_wT rfl) (x_tup (m_cons (x_tup (m_cons rfl (m_cons ei (m_cons rfl (m_cons rfl m_nil)))) (show 4 ≤ lim by decide)) (m_cons rfl m_nil)) (show 2 ≤ lim by decide))]
    rfl
  | .kept r to, hi =>
    have hr := lt hi
    show fin0 (svs (n + 4) (callN F (n + 4)) (St.ite inK _ [] :: St.ite _ [St.ret _] [] :: St.ite _ [St.ret _] [] :: St.ite _ [St.ite _ [St.ret _] [], St.ret _] [] :: _) _ S) = _
    rw [s_go (b_inK rfl), s_go (b_wF rfl), s_go (b_wF rfl), svs_cons, s_yes (b_wT rfl)]
    obtain ⟨b, x, y, k⟩ := dk
    cases k with
    | none =>
      rw [s_stop (t := Ex.cmp Cm.isN ((Ex.v 4).ix (Ex.c (D.int 2))) (Ex.c D.non)) (b_isN (d := .non) rfl) (x_tup (m_cons (x_tup (m_cons rfl (m_cons (x_at rfl rfl) (m_cons rfl (m_cons rfl m_nil)))) (show 4 ≤ lim by decide)) (m_cons rfl m_nil)) (show 2 ≤ lim by decide))]
      rfl
    | some k =>
      rw [s_go (t := Ex.cmp Cm.isN ((Ex.v 4).ix (Ex.c (D.int 2))) (Ex.c D.non)) (b_isN (d := .int k) rfl), s_ret (x_tup (m_cons (x_tup (m_cons (x_callV w (rD_pure (rs.set r k)) (m_cons rfl (m_cons (x_at (k := 1) (d := nD r) rfl rfl) (m_cons (x_at (k := 2) (d := .int k) rfl rfl) m_nil))) (t_wreg (n + 3) rs k hr (by omega) S)) (m_cons (x_succ (j := pl) rfl) (m_cons rfl (m_cons rfl m_nil)))) (show 4 ≤ lim by decide)) (m_cons rfl m_nil)) (show 2 ≤ lim by decide))]
      rfl
  | .toss r, hi =>
    have hr := lt hi
    have hs := sm hi
    show fin0 (svs (n + 4) (callN F (n + 4)) (St.ite inK _ [] :: St.ite _ [St.ret _] [] :: St.ite _ [St.ret _] [] :: St.ite _ [St.ite _ [St.ret _] [], St.ret _] [] :: St.ite _ [St.ite (Ex.cmp Cm.eq (Ex.v 5) (Ex.tup [])) [St.ret _] [], St.asg _ _, St.ret _] [] :: _) _ S) = _
    rw [s_go (b_inK rfl), s_go (b_wF rfl), s_go (b_wF rfl), s_go (b_wF rfl), svs_cons, s_yes (b_wT rfl)]
    cases cs with
    | nil =>
      have ee : (ev (callN F (n + 4)) (Ex.cmp Cm.eq (Ex.v 5) (Ex.tup []))).B [some (cD P rows), some (Ms.d ⟨rs, some pl, dk, []⟩), some (rD rs), some (nD pl), some dk.d, some (rD []), some (Ins.toss r).d, none] S = .ok true S := by
        rw [ev_cmpB]
        show opt (cmp2 .eq (.v (.tup [])) (.v (.tup [])) S) S = _
        have z := ne_self (d := .tup []) rfl (by decide) S
        have z' : (cmp2 .eq (.v (.tup [])) (.v (.tup [])) S).map (fun k => !k) = some false := z
        cases hq : cmp2 .eq (.v (.tup [])) (.v (.tup [])) S with
        | none => rw [hq] at z'; cases z'
        | some k =>
          rw [hq] at z'
          cases k with
          | true => rfl
          | false => cases z'
      rw [s_stop ee rfl]
      rfl
    | cons c cs =>
      have ee : (ev (callN F (n + 4)) (Ex.cmp Cm.eq (Ex.v 5) (Ex.tup []))).B [some (cD P rows), some (Ms.d ⟨rs, some pl, dk, c :: cs⟩), some (rD rs), some (nD pl), some dk.d, some (rD (c :: cs)), some (Ins.toss r).d, none] S = .ok false S := by
        rw [ev_cmpB]
        show opt (eqT (.v (rD (c :: cs))) (.v (.tup [])) S) S = _
        have e : eqT (.v (rD (c :: cs))) (.v (.tup [])) S = some false := by
          unfold eqT
          rw [toPy_v (rD_pure _), toPy_v (d := .tup []) rfl]
          show (if min (rD (c :: cs)).py.depth (D.tup []).py.depth ≤ 60 then some (PyData.eqv (rD (c :: cs)).py (D.tup []).py) else none) = _
          rw [py_dep, py_dep, if_pos (Nat.le_trans (Nat.min_le_right _ _) (by decide))]
          show some (PyData.eqv (.tuple (.int c :: D.pys (cs.map D.int))) (.tuple [])) = _
          simp [PyData.eqv, PyData.eqvAll]
        rw [e]
        rfl
      have hc := h7 c List.mem_cons_self
      have hf : -big < 2 * at_ rs r + c ∧ 2 * at_ rs r + c < big := by
        apply big_of
        have : (10 : Nat) ^ 60 + 10 ^ 60 + 1 ≤ 10 ^ 130 := by decide +kernel
        omega
      have ev1 : (ev (callN F (n + 4)) (Ex.bin Op2.add (Ex.bin Op2.mul (Ex.c (D.int 2)) ((Ex.v 2).ix ((Ex.v 6).ix (Ex.c (D.int 1))))) ((Ex.v 5).ix (Ex.c (D.int 0))))).E [some (cD P rows), some (Ms.d ⟨rs, some pl, dk, c :: cs⟩), some (rD rs), some (nD pl), some dk.d, some (rD (c :: cs)), some (Ins.toss r).d, none] S = .ok (.v (.int (2 * at_ rs r + c))) S :=
        x_add (x_mul (i := 2) rfl (x_rp rfl rfl rfl hr) (by decide)) (x_at rfl (atI0 _ _))
      have ev2 := x_callV (f := 14) (C := callN F (n + 4)) (ρ := [some (cD P rows), some (Ms.d ⟨rs, some pl, dk, c :: cs⟩), some (rD rs), some (nD pl), some dk.d, some (rD (c :: cs)), some (Ins.toss r).d, none]) w (rD_pure (rs.set r (2 * at_ rs r + c))) (m_cons (e := Ex.v 2) rfl (m_cons (x_at (i := 6) (k := 1) (d := nD r) rfl rfl) (m_cons (x_callV (f := 15) (d := .int (2 * at_ rs r + c)) w rfl (m_cons ev1 m_nil) (t_fig (n + 2) w hf)) m_nil))) (t_wreg (n + 3) rs _ hr (by omega) S)
      have ev3 : (ev (callN F (n + 4)) (Ex.sl true false (Ex.v 5) (Ex.c (D.int 1)) (Ex.c D.non))).E [some (cD P rows), some (Ms.d ⟨rs, some pl, dk, c :: cs⟩), some (rD rs), some (nD pl), some dk.d, some (rD (c :: cs)), some (Ins.toss r).d, some (rD (rs.set r (2 * at_ rs r + c)))] S = .ok (.v (rD cs)) S :=
        x_slFrom (xs := (c :: cs).map D.int) (j := 1) rfl rfl (by rw [List.length_map, List.length_cons]; omega)
      rw [s_go ee, s_step (s_asg (show 7 < 8 by decide) ev2)]
      have ev4 : (ev (callN F (n + 4)) (Ex.tup [Ex.tup [Ex.v 7, Ex.bin Op2.add (Ex.v 3) (Ex.c (D.int 1)), Ex.v 4, Ex.sl true false (Ex.v 5) (Ex.c (D.int 1)) (Ex.c D.non)], Ex.c D.non])).E [some (cD P rows), some (Ms.d ⟨rs, some pl, dk, c :: cs⟩), some (rD rs), some (nD pl), some dk.d, some (rD (c :: cs)), some (Ins.toss r).d, some (rD (rs.set r (2 * at_ rs r + c)))] S = .ok (.v (.tup [Ms.d ⟨rs.set r (2 * at_ rs r + c), some (pl + 1), dk, cs⟩, .non])) S :=
        x_tup (m_cons (x_tup (m_cons rfl (m_cons (x_succ (j := pl) rfl) (m_cons rfl (m_cons ev3 m_nil)))) (show 4 ≤ lim by decide)) (m_cons rfl m_nil)) (show 2 ≤ lim by decide)
      show fin0 (seqS (svs (n + 4) (callN F (n + 4)) [St.ret _] [some (cD P rows), some (Ms.d ⟨rs, some pl, dk, c :: cs⟩), some (rD rs), some (nD pl), some dk.d, some (rD (c :: cs)), some (Ins.toss r).d, some (rD (rs.set r (2 * at_ rs r + c)))] S) _) = _
      rw [s_ret ev4]
      rfl
  | .pot r p, hi =>
    have hr := lt hi.1
    have hpp : p < dk.on.length := by
      unfold Dk.on
      split
      · rw [h3]; exact hi.2
      · rw [h4]; exact hi.2
    show fin0 (svs (n + 4) (callN F (n + 4)) (St.ite inK _ [] :: St.ite _ [St.ret _] [] :: St.ite _ [St.ret _] [] :: St.ite _ [St.ite _ [St.ret _] [], St.ret _] [] :: St.ite _ _ [] :: [St.ret _]) _ S) = _
    rw [s_go (b_inK rfl), s_go (b_wF rfl), s_go (b_wF rfl), s_go (b_wF rfl), s_go (b_wF rfl), s_ret (x_tup (m_cons (x_tup (m_cons (x_callV w (rD_pure (rs.set r (at_ dk.on p))) (m_cons rfl (m_cons (x_at (k := 1) (d := nD r) rfl rfl) (m_cons (x_callV (d := .int (at_ dk.on p)) w rfl (m_cons rfl (m_cons rfl (m_cons rfl m_nil))) (t_rec_pot (n + 1) h2 w (at_get hpp))) m_nil))) (t_wreg (n + 3) rs _ hr (by omega) S)) (m_cons (x_succ (j := pl) rfl) (m_cons rfl (m_cons rfl m_nil)))) (show 4 ≤ lim by decide)) (m_cons rfl m_nil)) (show 2 ≤ lim by decide))]
    rfl
  | .num r v, hi =>
    have hr := lt hi
    show fin0 (svs (n + 4) (callN F (n + 4)) (St.ite inK _ [] :: St.ite _ [St.ret _] [] :: St.ite _ [St.ret _] [] :: St.ite _ [St.ite _ [St.ret _] [], St.ret _] [] :: St.ite _ _ [] :: [St.ret _]) _ S) = _
    rw [s_go (b_inK rfl), s_go (b_wF rfl), s_go (b_wF rfl), s_go (b_wF rfl), s_go (b_wF rfl), s_ret (x_tup (m_cons (x_tup (m_cons (x_callV w (rD_pure (rs.set r (v : Nat))) (m_cons rfl (m_cons (x_at (k := 1) (d := nD r) rfl rfl) (m_cons (x_callV (d := nD v) w rfl (m_cons rfl (m_cons rfl (m_cons rfl m_nil))) (t_rec_num (n + 1) S)) m_nil))) (t_wreg (n + 3) rs _ hr (by omega) S)) (m_cons (x_succ (j := pl) rfl) (m_cons rfl (m_cons rfl m_nil)))) (show 4 ≤ lim by decide)) (m_cons rfl m_nil)) (show 2 ≤ lim by decide))]
    rfl
  | .ar o r a b, hi =>
    obtain ⟨ho, hr4, ha4, hb4⟩ := hi
    have hr := lt hr4
    show fin0 (svs (n + 4) (callN F (n + 4)) (St.ite inK _ [] :: St.ite _ [St.ret _] [] :: St.ite _ [St.ret _] [] :: St.ite _ [St.ite _ [St.ret _] [], St.ret _] [] :: St.ite _ _ [] :: [St.ret _]) _ S) = _
    have er := t_rec (n + 1) (rs := rs) (d := dk.d) (o := o) ho (r := nD r) w (at_get (lt ha4)) (at_get (lt hb4)) (reck_big (sm ha4) (sm hb4)) (mul60 (sm ha4) (sm hb4))
    have wd : ∀ t : Str, t = "jump" ∨ t = "under" ∨ t = "kept" ∨ t = "toss" → decide (reckW o = t) = false := fun t ht => by
      match o, ho with
      | 0, _ => rcases ht with rfl | rfl | rfl | rfl <;> decide
      | 1, _ => rcases ht with rfl | rfl | rfl | rfl <;> decide
      | 2, _ => rcases ht with rfl | rfl | rfl | rfl <;> decide
    have ink : (["keep", "put", "turn", "rest"] : List Str).any (fun t => decide (t = reckW o)) = false := by
      match o, ho with
      | 0, _ => decide
      | 1, _ => decide
      | 2, _ => decide
    rw [s_go (b_inK rfl ink), s_go (b_wF rfl (wd _ (.inl rfl))), s_go (b_wF rfl (wd _ (.inr (.inl rfl)))), s_go (b_wF rfl (wd _ (.inr (.inr (.inl rfl))))), s_go (b_wF rfl (wd _ (.inr (.inr (.inr rfl))))), s_ret (x_tup (m_cons (x_tup (m_cons (x_callV w (rD_pure (rs.set r (reck o (at_ rs a) (at_ rs b)))) (m_cons rfl (m_cons (x_at (k := 1) (d := nD r) rfl rfl) (m_cons (x_callV (d := .int (reck o (at_ rs a) (at_ rs b))) w rfl (m_cons rfl (m_cons rfl (m_cons rfl m_nil))) er) m_nil))) (t_wreg (n + 3) rs _ hr (by omega) S)) (m_cons (x_succ (j := pl) rfl) (m_cons rfl (m_cons rfl m_nil)))) (show 4 ≤ lim by decide)) (m_cons rfl m_nil)) (show 2 ≤ lim by decide))]
    rfl
end
end K02
-- M8
set_option Elab.async false
set_option linter.all false
set_option maxRecDepth 100000
set_option maxHeartbeats 400000
/-! M8: _law_own_step: its start, its end. -/
namespace K02
open PySem Ev
def Ins.w : Ins → Str
  | .pot _ _ => "pot"
  | .num _ _ => "num"
  | .ar o _ _ _ => reckW o
  | .toss _ => "toss"
  | .under _ _ _ => "under"
  | .jump _ => "jump"
  | .kept _ _ => "kept"
  | .keep _ => "keep"
  | .put _ _ => "put"
  | .turn => "turn"
  | .rest => "rest"
def Dd.bad : Dd → Bool
  | .keep v => decide (v < 0)
  | .put _ v => decide (v < 0)
  | _ => false
/-- what the own step gives -/
def ownD : Option (Ms × Dd) → D
  | some (s, d) => .tup [s.d, d.d]
  | none => .non
theorem ownD_pure (o : Option (Ms × Dd)) : (ownD o).pure = true := by
  cases o with
  | none => rfl
  | some q =>
    show (q.1.d.pure && (q.2.d.pure && true)) = true
    rw [Ms.pure, Dd.pure]
    rfl
section
variable {n : Nat} {C : Calls} {ρ : Ev.Env} {S : Store} {A A' B B' : Cell}
theorem getA : (S ++ [A] ++ [B])[S.length]? = some A := by
  rw [List.append_assoc, List.getElem?_append_right (Nat.le_refl _), Nat.sub_self]
  rfl
theorem getB : (S ++ [A] ++ [B])[S.length + 1]? = some B := by
  rw [List.append_assoc, List.getElem?_append_right (by omega), show S.length + 1 - S.length = 1 by omega]
  rfl
theorem setA : (S ++ [A] ++ [B]).set S.length A' = S ++ [A'] ++ [B] := by
  rw [List.append_assoc, List.set_append_right _ _ (Nat.le_refl _), Nat.sub_self, List.append_assoc]
  rfl
theorem setB : (S ++ [A] ++ [B]).set (S.length + 1) B' = S ++ [A] ++ [B'] := by
  rw [List.append_assoc, List.set_append_right _ _ (by omega), show S.length + 1 - S.length = 1 by omega, List.append_assoc]
  rfl
theorem seqS_id (r : SR) : seqS r (fun ρ S => .ok .nx ρ S) = r := by
  cases r with
  | ok f ρ S => cases f <;> rfl
  | exc => rfl
  | bad => rfl
theorem s_els1 {t : Ex} {a : List St} {s : St} (h : (ev C t).B ρ S = .ok false S) : sv n C (.ite t a [s]) ρ S = sv n C s ρ S := by
  rw [s_els h, svs_cons]
  exact seqS_id _
theorem b_8F {s t : Str} (h : ρ[8]? = some (some (.str s))) (hn : decide (s = t) = false := by first | decide | rfl) : (ev C (Ex.cmp Cm.eq (Ex.v 8) (Ex.c (D.str t)))).B ρ S = .ok false S := by
  rw [b_eqS (x_v h) x_c, hn]
theorem b_8T {s t : Str} (h : ρ[8]? = some (some (.str s))) (hn : decide (s = t) = true := by first | decide | rfl) : (ev C (Ex.cmp Cm.eq (Ex.v 8) (Ex.c (D.str t)))).B ρ S = .ok true S := by
  rw [b_eqS (x_v h) x_c, hn]
abbrev inA : Ex := Ex.isin false (Ex.v 8) (Ex.tup [Ex.c (D.str "plus"), Ex.c (D.str "minus"), Ex.c (D.str "times")])
theorem b_inA {s : Str} {b : Bool} (h : ρ[8]? = some (some (.str s))) (hb : (["plus", "minus", "times"] : List Str).any (fun t => decide (t = s)) = b := by first | decide | rfl) : (ev C inA).B ρ S = .ok b S := by
  have z := b_in (C := C) (ρ := ρ) (S := S) (ws := ["plus", "minus", "times"]) (show 3 ≤ lim by decide) (x_v h)
  rw [hb] at z
  exact z
theorem x_tupL {e : Ex} {k : Nat} {xs : List D} {b : Bool} (h : (ev C e).E ρ S = .ok (.v (.ref k)) S) (hk : S[k]? = some (.lst b xs)) : (ev C (.bi .tuple [e])).E ρ S = .ok (.v (.tup xs)) S := by
  rw [ev_bi, evs_cons, evs_nil, evTs_cons, h, bind_ok, evTs_nil, bind_ok, bind_ok]
  have ea : asQ (.v (.ref k)) S = some xs := by
    show asL (.v (.ref k)) S = _
    show (match S[k]? with | some (.lst _ xs) => some xs | some (.ro xs) => some xs | _ => none) = _
    rw [hk]
  show opt ((asQ (.v (.ref k)) S).map fun xs => T.v (.tup xs)) S = _
  rw [ea]
  rfl
theorem x_listT {e : Ex} {xs : List D} (h : (ev C e).E ρ S = .ok (.v (.tup xs)) S) : (ev C (.bi .list [e])).E ρ S = .ok (.l xs) S := by
  rw [ev_bi, evs_cons, evs_nil, evTs_cons, h, bind_ok, evTs_nil, bind_ok, bind_ok]
  rfl
theorem m_consL {e : Ex} {es : List Ex} {xs ds : List D} {S1 S2 : Store} (h : (ev C e).E ρ S = .ok (.l xs) S1) (r : evM (evs C es) ρ (S1 ++ [.lst false xs]) = .ok ds S2) : evM (evs C (e :: es)) ρ S = .ok (.ref S1.length :: ds) S2 := by
  rw [evs_cons, evM_cons', h, bind_ok, mat_l, bind_ok, r, bind_ok]
theorem eq_nil0 : cmp2 .eq (.v (.tup [])) (.v (.tup [])) S = some true := by
  have z : (cmp2 .eq (.v (.tup [])) (.v (.tup [])) S).map (fun k => !k) = some false := ne_self (d := .tup []) rfl (by decide) S
  cases hq : cmp2 .eq (.v (.tup [])) (.v (.tup [])) S with
  | none => rw [hq] at z; cases z
  | some k =>
    rw [hq] at z
    cases k with
    | true => rfl
    | false => cases z
theorem eq_nil1 {c : Int} {cs : List Int} : cmp2 .eq (.v (rD (c :: cs))) (.v (.tup [])) S = some false := by
  show eqT (.v (rD (c :: cs))) (.v (.tup [])) S = some false
  unfold eqT
  rw [toPy_v (rD_pure _), toPy_v (d := .tup []) rfl]
  show (if min (rD (c :: cs)).py.depth (D.tup []).py.depth ≤ 60 then some (PyData.eqv (rD (c :: cs)).py (D.tup []).py) else none) = _
  rw [py_dep, py_dep, if_pos (Nat.le_trans (Nat.min_le_right _ _) (by decide))]
  show some (PyData.eqv (.tuple (.int c :: D.pys (cs.map D.int))) (.tuple [])) = _
  simp [PyData.eqv, PyData.eqvAll]
abbrev endB : List St := f__law_own_step.body.drop 5
abbrev endE : Ex := Ex.tup [Ex.tup [Ex.bi Bi.tuple [Ex.v 7], Ex.v 12, Ex.tup [Ex.v 9, Ex.bi Bi.tuple [Ex.v 10], Ex.v 11], Ex.v 5], Ex.v 13]
abbrev badE : Ex := Ex.and [Ex.cmp Cm.noN (Ex.v 13) (Ex.c D.non), Ex.cmp Cm.gt (Ex.bi Bi.len [Ex.v 13]) (Ex.c (D.int 1)), Ex.cmp Cm.lt ((Ex.v 13).ix (Ex.c (D.int 1)).neg) (Ex.c (D.int 0))]
theorem own_end {N M : Nat} {xs ys : List D} {b k l cs : D} {dd : Dd} (h5 : ρ[5]? = some (some cs)) (h7 : ρ[7]? = some (some (.ref N))) (h9 : ρ[9]? = some (some b)) (h10 : ρ[10]? = some (some (.ref M))) (h11 : ρ[11]? = some (some k)) (h12 : ρ[12]? = some (some l)) (h13 : ρ[13]? = some (some dd.d))
    (hN : S[N]? = some (.lst false xs)) (hM : S[M]? = some (.lst false ys)) : svs n C endB ρ S = .ok (.rt (.v (if dd.bad then .non else .tup [.tup [.tup xs, l, .tup [b, .tup ys, k], cs], dd.d]))) ρ S := by
  have hb : (ev C badE).B ρ S = .ok dd.bad S := by
    rw [ev_andB, evs_cons, evs_cons, evs_cons, evs_nil, evC_cons]
    have e1 : (ev C (Ex.cmp Cm.noN (Ex.v 13) (Ex.c D.non))).B ρ S = .ok (!(T.v dd.d).isNon) S := by
      rw [ev_cmpB, x_v h13, bind_ok]
      rfl
    have e2 : ∀ ys : List D, dd.d = .tup ys → (ev C (Ex.cmp Cm.gt (Ex.bi Bi.len [Ex.v 13]) (Ex.c (D.int 1)))).B ρ S = .ok (decide ((1 : Int) < (ys.length : Nat))) S := fun ys hy => by
      rw [hy] at h13
      rw [ev_cmpB, ev_bi, evs_cons, evs_nil, evTs_cons, x_v h13, bind_ok, evTs_nil, bind_ok, bind_ok]
      rfl
    have e3 : ∀ (ys : List D) (v : Int), dd.d = .tup ys → L2.atI ys (-1) = some (.int v) → (ev C (Ex.cmp Cm.lt ((Ex.v 13).ix (Ex.c (D.int 1)).neg) (Ex.c (D.int 0)))).B ρ S = .ok (decide (v < 0)) S := fun ys v hy hv => by
      rw [hy] at h13
      exact b_neg (x_ix (x_v h13) (x_neg x_c) hv)
    rw [e1, bind_ok]
    cases dd with
    | non => rfl
    | empty =>
      rw [if_pos (by rfl), evC_cons, e2 _ rfl, bind_ok]
      rfl
    | turn =>
      rw [if_pos (by rfl), evC_cons, e2 _ rfl, bind_ok]
      rfl
    | rest =>
      rw [if_pos (by rfl), evC_cons, e2 _ rfl, bind_ok]
      rfl
    | keep v =>
      rw [if_pos (by rfl), evC_cons, e2 _ rfl, bind_ok, if_pos (by rfl), evC_cons, e3 _ v rfl rfl, bind_ok]
      show (if decide (v < 0) = true then R.ok true S else .ok false S) = .ok (decide (v < 0)) S
      cases decide (v < 0) <;> rfl
    | put p v =>
      rw [if_pos (by rfl), evC_cons, e2 _ rfl, bind_ok, if_pos (by rfl), evC_cons, e3 _ v rfl rfl, bind_ok]
      show (if decide (v < 0) = true then R.ok true S else .ok false S) = .ok (decide (v < 0)) S
      cases decide (v < 0) <;> rfl
  have he : (ev C endE).E ρ S = .ok (.v (.tup [.tup [.tup xs, l, .tup [b, .tup ys, k], cs], dd.d])) S :=
    x_tup (m_cons (x_tup (m_cons (x_tupL (x_v h7) hN) (m_cons (x_v h12) (m_cons (x_tup (m_cons (x_v h9) (m_cons (x_tupL (x_v h10) hM) (m_cons (x_v h11) m_nil))) (show 3 ≤ lim by decide)) (m_cons (x_v h5) m_nil)))) (show 4 ≤ lim by decide)) (m_cons (x_v h13) m_nil)) (show 2 ≤ lim by decide)
  show svs n C (St.ite badE [St.ret (Ex.c D.non)] [] :: [St.ret endE]) ρ S = _
  cases hq : dd.bad with
  | true =>
    rw [hq] at hb
    rw [s_stop hb rfl]
    rfl
  | false =>
    rw [hq] at hb
    rw [s_go hb, s_ret he]
    rfl
abbrev env0 (c : D) (rs : List Int) (pl : Nat) (dk : Dk) (cs : List Int) (i : Ins) (N : Nat) (x14 x15 x16 : Option D) : Ev.Env :=
  [some c, some (Ms.d ⟨rs, some pl, dk, cs⟩), some (rD rs), some (nD pl), some dk.d, some (rD cs), some i.d, some (.ref N), some (.str i.w), some (nD dk.b), some (.ref (N + 1)), some (oD dk.k), some (nD (pl + 1)), some .non, x14, x15, x16]
abbrev ownI : St := f__law_own_step.body.getD 4 .pass
theorem own_start {P : Nat} {i : Ins} {rs : List Int} {pl : Nat} {dk : Dk} {cs : List Int} {rows : List D} (hr : rows[pl]? = some i.d) : svs n C f__law_own_step.body (startE f__law_own_step.nn [cD P rows, Ms.d ⟨rs, some pl, dk, cs⟩]) S =
    svs n C (ownI :: endB) (env0 (cD P rows) rs pl dk cs i S.length none none none) (S ++ [.lst false (rs.map D.int)] ++ [.lst false [rD dk.x, rD dk.y]]) := by
  show svs n C (St.par 6 7 (((Ex.v 0).ix (Ex.c (D.int 2))).ix (Ex.v 3)) (Ex.bi Bi.list [Ex.v 2]) :: _) [some (cD P rows), some (Ms.d ⟨rs, some pl, dk, cs⟩), some (rD rs), some (nD pl), some dk.d, some (rD cs), none, none, none, none, none, none, none, none, none, none, none] S = _
  have s1 : sv n C (St.par 6 7 (((Ex.v 0).ix (Ex.c (D.int 2))).ix (Ex.v 3)) (Ex.bi Bi.list [Ex.v 2])) [some (cD P rows), some (Ms.d ⟨rs, some pl, dk, cs⟩), some (rD rs), some (nD pl), some dk.d, some (rD cs), none, none, none, none, none, none, none, none, none, none, none] S =
      .ok .nx [some (cD P rows), some (Ms.d ⟨rs, some pl, dk, cs⟩), some (rD rs), some (nD pl), some dk.d, some (rD cs), some i.d, some (.ref S.length), none, none, none, none, none, none, none, none, none] (S ++ [.lst false (rs.map D.int)]) := by
    rw [sv_par]
    have m : evM (evs C [((Ex.v 0).ix (Ex.c (D.int 2))).ix (Ex.v 3), Ex.bi Bi.list [Ex.v 2]]) [some (cD P rows), some (Ms.d ⟨rs, some pl, dk, cs⟩), some (rD rs), some (nD pl), some dk.d, some (rD cs), none, none, none, none, none, none, none, none, none, none, none] S = .ok [i.d, .ref S.length] (S ++ [.lst false (rs.map D.int)]) :=
      m_cons (x_ix (xs := rows) (k := (pl : Nat)) rfl rfl (atI_nat hr)) (m_consL (x_listT rfl) m_nil)
    rw [show [ev C (((Ex.v 0).ix (Ex.c (D.int 2))).ix (Ex.v 3)), ev C (Ex.bi Bi.list [Ex.v 2])] = evs C [((Ex.v 0).ix (Ex.c (D.int 2))).ix (Ex.v 3), Ex.bi Bi.list [Ex.v 2]] from rfl, m]
    rfl
  rw [s_step s1]
  have hw : L2.atI (match i.d with | .tup l => l | _ => []) 0 = some (.str i.w) := by cases i <;> rfl
  have hw2 : ∃ l, i.d = .tup (.str i.w :: l) := by cases i <;> exact ⟨_, rfl⟩
  obtain ⟨l, hl⟩ := hw2
  have s2 : sv n C (St.asg (Tg.tup [Tg.v 8, Tg.v 9, Tg.v 10, Tg.v 11]) (Ex.tup [(Ex.v 6).ix (Ex.c (D.int 0)), (Ex.v 4).ix (Ex.c (D.int 0)), Ex.bi Bi.list [(Ex.v 4).ix (Ex.c (D.int 1))], (Ex.v 4).ix (Ex.c (D.int 2))])) [some (cD P rows), some (Ms.d ⟨rs, some pl, dk, cs⟩), some (rD rs), some (nD pl), some dk.d, some (rD cs), some i.d, some (.ref S.length), none, none, none, none, none, none, none, none, none] (S ++ [.lst false (rs.map D.int)]) =
      .ok .nx [some (cD P rows), some (Ms.d ⟨rs, some pl, dk, cs⟩), some (rD rs), some (nD pl), some dk.d, some (rD cs), some i.d, some (.ref S.length), some (.str i.w), some (nD dk.b), some (.ref (S.length + 1)), some (oD dk.k), none, none, none, none, none] (S ++ [.lst false (rs.map D.int)] ++ [.lst false [rD dk.x, rD dk.y]]) := by
    have e6 : (ev C ((Ex.v 6).ix (Ex.c (D.int 0)))).E [some (cD P rows), some (Ms.d ⟨rs, some pl, dk, cs⟩), some (rD rs), some (nD pl), some dk.d, some (rD cs), some i.d, some (.ref S.length), none, none, none, none, none, none, none, none, none] (S ++ [.lst false (rs.map D.int)]) = .ok (.v (.str i.w)) (S ++ [.lst false (rs.map D.int)]) := by
      rw [hl]
      exact x_at rfl (atI0 _ _)
    have m := x_tup (C := C) (m_cons e6 (m_cons (e := (Ex.v 4).ix (Ex.c (D.int 0))) (d := nD dk.b) rfl (m_consL (e := Ex.bi Bi.list [(Ex.v 4).ix (Ex.c (D.int 1))]) (xs := [rD dk.x, rD dk.y]) rfl (m_cons (e := (Ex.v 4).ix (Ex.c (D.int 2))) (d := oD dk.k) rfl m_nil)))) (show 4 ≤ lim by decide)
    rw [sv_asg, m, bind_ok, mat_v, thenS_ok, List.length_append]
    rfl
  show svs n C (St.asg (Tg.tup [Tg.v 8, Tg.v 9, Tg.v 10, Tg.v 11]) (Ex.tup [(Ex.v 6).ix (Ex.c (D.int 0)), (Ex.v 4).ix (Ex.c (D.int 0)), Ex.bi Bi.list [(Ex.v 4).ix (Ex.c (D.int 1))], (Ex.v 4).ix (Ex.c (D.int 2))]) :: _) _ _ = _
  rw [s_step s2]
  rfl
end
end K02
-- M9
set_option Elab.async false
set_option linter.all false
set_option maxRecDepth 100000
set_option maxHeartbeats 400000
/-! M9: _law_own_step, word by word. -/
namespace K02
open PySem Ev
section
variable {n : Nat} {C : Calls} {S : Store}
/-- the own step's instruction, then its end -/
theorem own_by {c : D} {rs : List Int} {pl : Nat} {dk : Dk} {cs : List Int} {i : Ins} {x14 x15 x16 : Option D} {rs' : List Int} {x y : List Int} {b : Nat} {k : Option Int} {pl' : Option Nat} {cs' : List Int} {dd : Dd} {G : List Cell} {y6 y8 : Option D}
    (h : sv n C ownI (env0 c rs pl dk cs i S.length none none none) (S ++ [.lst false (rs.map D.int)] ++ [.lst false [rD dk.x, rD dk.y]]) =
      .ok .nx [some c, some (Ms.d ⟨rs, some pl, dk, cs⟩), some (rD rs), some (nD pl), some dk.d, some (rD cs'), y6, some (.ref S.length), y8, some (nD b), some (.ref (S.length + 1)), some (oD k), some (pD pl'), some dd.d, x14, x15, x16] (S ++ [.lst false (rs'.map D.int)] ++ [.lst false [rD x, rD y]] ++ G)) :
    ∃ G', fin0 (svs n C (ownI :: endB) (env0 c rs pl dk cs i S.length none none none) (S ++ [.lst false (rs.map D.int)] ++ [.lst false [rD dk.x, rD dk.y]])) = .ok (.v (if dd.bad then .non else .tup [Ms.d ⟨rs', pl', ⟨b, x, y, k⟩, cs'⟩, dd.d])) (S ++ G') := by
  have hl : (S ++ [.lst false (rs'.map D.int)] ++ [.lst false [rD x, rD y]] : Store).length = S.length + 2 := by
    rw [List.length_append, List.length_append]
    rfl
  refine ⟨[.lst false (rs'.map D.int)] ++ [.lst false [rD x, rD y]] ++ G, ?_⟩
  rw [s_step h, own_end (N := S.length) (M := S.length + 1) (xs := rs'.map D.int) (ys := [rD x, rD y]) (b := nD b) (k := oD k) (l := pD pl') (cs := rD cs') (dd := dd) rfl rfl rfl rfl rfl rfl rfl
    (by rw [List.getElem?_append_left (by omega)]; exact getA) (by rw [List.getElem?_append_left (by omega)]; exact getB)]
  rw [fin0_rt, List.append_assoc, List.append_assoc, List.append_assoc]
  rfl
theorem x_sel {ks : List Str} {vs : List Ex} {k d : Ex} {ds : List D} {s : Str} {x : D} {ρ : Ev.Env} (hv : evM (evs C vs) ρ S = .ok ds S) (hk : (ev C k).E ρ S = .ok (.v (.str s)) S) (hs : selF ks ds s = some x) : (ev C (.sel ks vs false k d)).E ρ S = .ok (.v x) S := by
  show (evM (evs C vs) ρ S).bind (fun ds S1 => ((ev C k).E ρ S1).bind fun tk S2 => (match tk with
    | .v (.str s) => (opt (selF ks ds s) S2).bind fun x S3 => R.ok (T.v x) S3
    | _ => .bad)) = _
  rw [hv, bind_ok, hk, bind_ok]
  show (opt (selF ks ds s) S).bind (fun x S3 => R.ok (T.v x) S3) = _
  rw [hs, opt_some, bind_ok]
theorem map_set (rs : List Int) (r : Nat) (v : Int) : (rs.map D.int).set r (.int v) = (rs.set r v).map D.int := by rw [List.map_set]
theorem ix16 {rs : List Int} {r : Nat} (h : r < rs.length) : L2.ixN (rs.map D.int).length ((r : Nat) : Int) = some r := ixN_nat (by rw [List.length_map]; exact h)
theorem set_at {rs : List Int} {r : Nat} (h : r < rs.length) : rs.set r (at_ rs r) = rs := by
  apply List.ext_getElem?
  intro i
  by_cases e : r = i
  · subst e
    rw [List.getElem?_set_self h, at_get h]
  · rw [List.getElem?_set_ne e]
/-- a number put into the own registers -/
theorem own_set {c : D} {rs : List Int} {pl : Nat} {dk : Dk} {cs : List Int} {i : Ins} {x14 x15 x16 l13 : Option D} {l : D} {r : Nat} {v : Int} {e : Ex} {xs : List D} (hi : i.d = .tup xs) (hx : L2.atI xs 1 = some (nD r)) (hr : r < rs.length)
    (he : (ev C e).E [some c, some (Ms.d ⟨rs, some pl, dk, cs⟩), some (rD rs), some (nD pl), some dk.d, some (rD cs), some i.d, some (.ref S.length), some (.str i.w), some (nD dk.b), some (.ref (S.length + 1)), some (oD dk.k), some l, l13, x14, x15, x16] (S ++ [.lst false (rs.map D.int)] ++ [.lst false [rD dk.x, rD dk.y]]) = .ok (.v (.int v)) (S ++ [.lst false (rs.map D.int)] ++ [.lst false [rD dk.x, rD dk.y]])) :
    sv n C (St.seti (Ex.v 7) ((Ex.v 6).ix (Ex.c (D.int 1))) e) [some c, some (Ms.d ⟨rs, some pl, dk, cs⟩), some (rD rs), some (nD pl), some dk.d, some (rD cs), some i.d, some (.ref S.length), some (.str i.w), some (nD dk.b), some (.ref (S.length + 1)), some (oD dk.k), some l, l13, x14, x15, x16] (S ++ [.lst false (rs.map D.int)] ++ [.lst false [rD dk.x, rD dk.y]]) =
      .ok .nx [some c, some (Ms.d ⟨rs, some pl, dk, cs⟩), some (rD rs), some (nD pl), some dk.d, some (rD cs), some i.d, some (.ref S.length), some (.str i.w), some (nD dk.b), some (.ref (S.length + 1)), some (oD dk.k), some l, l13, x14, x15, x16] (S ++ [.lst false ((rs.set r v).map D.int)] ++ [.lst false [rD dk.x, rD dk.y]]) := by
  rw [s_seti (k := S.length) (xs := rs.map D.int) (j := (r : Nat)) (p := r) he rfl (by rw [hi]; exact x_at rfl hx) getA (ix16 hr), setA, map_set]
theorem svs1 {s : St} {ρ ρ' : Ev.Env} {S S' : Store} (h : sv n C s ρ S = .ok .nx ρ' S') : svs n C [s] ρ S = .ok .nx ρ' S' := by
  rw [svs_cons, h]
  rfl
theorem t_own (n : Nat) {P : Nat} {i : Ins} {s : Ms} {pl : Nat} {rows : List D} {most : Int} (hi : i.ok P) (wf : Wf P most s) (hm : ∀ v ∈ s.rs, v.natAbs ≤ 10 ^ 60) (hp : s.pl = some pl) (hr : rows[pl]? = some i.d) (S : Store) : ∃ G, callN F (n + 1) 28 [cD P rows, s.d] S = .ok (.v (ownD (stepM i s pl))) (S ++ G) := by
  rw [callN_at (fd := f__law_own_step) rfl rfl]
  obtain ⟨rs, pl', dk, cs⟩ := s
  cases hp
  obtain ⟨h1, h2, h3, h4, h5, h6, h7, h8⟩ := wf
  have h1 : rs.length = 16 := h1
  have h2 : dk.b ≤ 1 := h2
  have h3 : dk.x.length = P := h3
  have h4 : dk.y.length = P := h4
  have hm : ∀ v ∈ rs, v.natAbs ≤ 10 ^ 60 := hm
  have lt : ∀ {r : Nat}, r < 4 → r < rs.length := fun h => by omega
  have sm : ∀ {r : Nat}, r < 4 → (at_ rs r).natAbs ≤ 10 ^ 60 := fun {r} h => hm _ (List.mem_of_getElem? (at_get (lt h)))
  rw [own_start hr]
  match i, hi with
  | .pot r p, hi =>
    obtain ⟨b, x, y, k⟩ := dk
    have hpp : p < (Dk.on ⟨b, x, y, k⟩).length := by
      unfold Dk.on
      split
      · exact Nat.lt_of_lt_of_eq hi.2 h3.symm
      · exact Nat.lt_of_lt_of_eq hi.2 h4.symm
    refine own_by (b := b) (x := x) (y := y) (k := k) (pl' := some (pl + 1)) (cs' := cs) (x14 := none) (x15 := none) (x16 := none) (rs' := rs.set r (at_ (Dk.on ⟨b, x, y, k⟩) p)) (dd := .non) (G := []) (y6 := some (Ins.pot r p).d) (y8 := some (.str "pot")) ?_
    show sv _ _ (St.ite _ _ _) _ _ = _
    rw [s_yes (b_8T rfl), List.append_nil]
    have eb : L2.atI [rD x, rD y] ((b : Nat) : Int) = some (rD (Dk.on ⟨b, x, y, k⟩)) := by
      match b, h2 with
      | 0, _ => rfl
      | 1, _ => rfl
    exact svs1 (own_set (i := .pot r p) (r := r) rfl rfl (lt hi.1) (x_ix (x_ixL (k := S.length + 1) (xs := [rD x, rD y]) rfl rfl getB eb) (x_at (d := nD p) rfl rfl) (at_map (at_get hpp))))
  | .num r v, hi =>
    refine own_by (x14 := none) (x15 := none) (x16 := none) (b := dk.b) (x := dk.x) (y := dk.y) (k := dk.k) (pl' := some (pl + 1)) (cs' := cs) (rs' := rs.set r (v : Nat)) (dd := .non) (G := []) (y6 := some (Ins.num r v).d) (y8 := some (.str "num")) ?_
    show sv _ _ (St.ite _ _ _) _ _ = _
    rw [s_els1 (b_8F rfl), s_yes (b_8T rfl), List.append_nil]
    exact svs1 (own_set (i := .num r v) (r := r) rfl rfl (lt hi) (x_at rfl rfl))
  | .ar o r a b, hi =>
    obtain ⟨ho, hr4, ha4, hb4⟩ := hi
    have wd : decide (reckW o = "pot") = false ∧ decide (reckW o = "num") = false ∧ (["plus", "minus", "times"] : List Str).any (fun t => decide (t = reckW o)) = true := by
      match o, ho with
      | 0, _ => decide
      | 1, _ => decide
      | 2, _ => decide
    refine own_by (b := dk.b) (x := dk.x) (y := dk.y) (k := dk.k) (pl' := some (pl + 1)) (cs' := cs) (rs' := rs.set r (reck o (at_ rs a) (at_ rs b))) (dd := .non) (G := []) (y6 := some (Ins.ar o r a b).d) (y8 := some (.str (reckW o))) (x14 := some (.int (at_ rs a))) (x15 := some (.int (at_ rs b))) (x16 := none) ?_
    show sv _ _ (St.ite _ _ _) _ _ = _
    rw [s_els1 (b_8F rfl wd.1), s_els1 (b_8F rfl wd.2.1), s_yes (b_inA rfl wd.2.2), List.append_nil]
    refine Eq.trans (s_step (s_par (i := 14) (j := 15) (show 14 < 17 by decide) (show 15 < 17 by decide) (x_rp (r := a) rfl rfl rfl (lt ha4)) (x_rp (r := b) rfl rfl rfl (lt hb4)))) ?_
    refine svs1 (own_set (i := .ar o r a b) (r := r) rfl rfl (lt hr4) (x_sel (s := reckW o) (ds := [.int (at_ rs a + at_ rs b), .int (at_ rs a - at_ rs b), .int (at_ rs a * at_ rs b)]) (m_cons (x_add rfl rfl) (m_cons (x_sub rfl rfl) (m_cons ?_ m_nil))) rfl ?_))
    · show opt ((if mulOk (at_ rs a) (at_ rs b) then some (at_ rs a * at_ rs b) else none).map fun k => T.v (.int k)) _ = _
      rw [if_pos (mul60 (sm ha4) (sm hb4))]
      rfl
    · match o, ho with
      | 0, _ => rfl
      | 1, _ => rfl
      | 2, _ => rfl
  | .under a b to, hi =>
    refine own_by (x14 := none) (x15 := none) (x16 := none) (b := dk.b) (x := dk.x) (y := dk.y) (k := dk.k) (pl' := some (if at_ rs a < at_ rs b then to else pl + 1)) (cs' := cs) (rs' := rs) (dd := .non) (G := []) (y6 := some (Ins.under a b to).d) (y8 := some (.str "under")) ?_
    show sv _ _ (St.ite _ _ _) _ _ = _
    rw [s_els1 (b_8F rfl), s_els1 (b_8F rfl), s_els1 (b_inA rfl), s_els1 (b_8F rfl), s_yes (b_8T rfl), List.append_nil]
    refine svs1 ?_
    have et : (ev (callN F n) (Ex.cmp Cm.lt ((Ex.v 2).ix ((Ex.v 6).ix (Ex.c (D.int 1)))) ((Ex.v 2).ix ((Ex.v 6).ix (Ex.c (D.int 2)))))).B (env0 (cD P rows) rs pl dk cs (Ins.under a b to) S.length none none none) (S ++ [.lst false (rs.map D.int)] ++ [.lst false [rD dk.x, rD dk.y]]) = .ok (decide (at_ rs a < at_ rs b)) (S ++ [.lst false (rs.map D.int)] ++ [.lst false [rD dk.x, rD dk.y]]) := by
      rw [ev_cmpB, x_rp rfl rfl rfl (lt hi.1), bind_ok, x_rp rfl rfl rfl (lt hi.2), bind_ok]
      rfl
    refine s_asg (C := callN F n) (d := nD (if at_ rs a < at_ rs b then to else pl + 1)) (show 12 < 17 by decide) ?_
    by_cases hq : at_ rs a < at_ rs b
    · have et' := et
      rw [decide_eq_true hq] at et'
      rw [x_ifeT et', if_pos hq]
      exact x_at rfl rfl
    · have et' := et
      rw [decide_eq_false hq] at et'
      rw [x_ifeF et', if_neg hq]
      rfl
  | .jump to, _ =>
    refine own_by (x14 := none) (x15 := none) (x16 := none) (b := dk.b) (x := dk.x) (y := dk.y) (k := dk.k) (pl' := some to) (cs' := cs) (rs' := rs) (dd := .non) (G := []) (y6 := some (Ins.jump to).d) (y8 := some (.str "jump")) ?_
    show sv _ _ (St.ite _ _ _) _ _ = _
    rw [s_els1 (b_8F rfl), s_els1 (b_8F rfl), s_els1 (b_inA rfl), s_els1 (b_8F rfl), s_els1 (b_8F rfl), s_yes (b_8T rfl), List.append_nil]
    exact svs1 (s_asg (d := nD to) (show 12 < 17 by decide) (x_at rfl rfl))
  | .turn, _ =>
    obtain ⟨b, x, y, k⟩ := dk
    refine own_by (x14 := none) (x15 := none) (x16 := none) (b := 1 - b) (x := x) (y := y) (k := none) (pl' := some (pl + 1)) (cs' := cs) (rs' := rs) (dd := .turn) (G := []) (y6 := some Ins.turn.d) (y8 := some (.str "turn")) ?_
    show sv _ _ (St.ite _ _ _) _ _ = _
    rw [s_els1 (b_8F rfl), s_els1 (b_8F rfl), s_els1 (b_inA rfl), s_els1 (b_8F rfl), s_els1 (b_8F rfl), s_els1 (b_8F rfl), s_els1 (b_8F rfl), s_els1 (b_8F rfl), s_els1 (b_8F rfl), s_yes (b_8T rfl), List.append_nil]
    match b, h2 with
    | 0, _ => rfl
    | 1, _ => rfl
  | .rest, _ =>
    refine own_by (x14 := none) (x15 := none) (x16 := none) (b := dk.b) (x := dk.x) (y := dk.y) (k := dk.k) (pl' := none) (cs' := cs) (rs' := rs) (dd := .rest) (G := []) (y6 := some Ins.rest.d) (y8 := some (.str "rest")) ?_
    show sv _ _ (St.ite _ _ _) _ _ = _
    rw [s_els1 (b_8F rfl), s_els1 (b_8F rfl), s_els1 (b_inA rfl), s_els1 (b_8F rfl), s_els1 (b_8F rfl), s_els1 (b_8F rfl), s_els1 (b_8F rfl), s_els1 (b_8F rfl), s_els1 (b_8F rfl), s_els (b_8F rfl), List.append_nil]
    rfl
  | .kept r to, hi =>
    have hr := lt hi
    obtain ⟨b, x, y, k⟩ := dk
    cases k with
    | none =>
      refine own_by (x14 := none) (x15 := none) (x16 := none) (b := b) (x := x) (y := y) (k := none) (pl' := some to) (cs' := cs) (rs' := rs) (dd := .non) (G := []) (y6 := some (Ins.kept r to).d) (y8 := some (.str "kept")) ?_
      show sv _ _ (St.ite _ _ _) _ _ = _
      rw [s_els1 (b_8F rfl), s_els1 (b_8F rfl), s_els1 (b_inA rfl), s_els1 (b_8F rfl), s_els1 (b_8F rfl), s_els1 (b_8F rfl), s_yes (b_8T rfl), List.append_nil]
      refine Eq.trans (s_step (s_asg (i := 12) (d := nD to) (show 12 < 17 by decide) (by rw [x_ifeT (b_isN (d := .non) rfl)]; exact x_at rfl rfl))) ?_
      have z := own_set (n := n) (C := callN F n) (S := S) (c := cD P rows) (rs := rs) (pl := pl) (dk := ⟨b, x, y, none⟩) (cs := cs) (i := .kept r to) (x14 := none) (x15 := none) (x16 := none) (l13 := some .non) (l := nD to) (r := r) (v := at_ rs r) (e := (Ex.cmp Cm.isN (Ex.v 11) (Ex.c D.non)).ife ((Ex.v 2).ix ((Ex.v 6).ix (Ex.c (D.int 1)))) (Ex.v 11)) rfl rfl hr (by rw [x_ifeT (b_isN (d := .non) rfl)]; exact x_rp rfl rfl rfl hr)
      rw [set_at hr] at z
      exact svs1 z
    | some k =>
      refine own_by (x14 := none) (x15 := none) (x16 := none) (b := b) (x := x) (y := y) (k := some k) (pl' := some (pl + 1)) (cs' := cs) (rs' := rs.set r k) (dd := .non) (G := []) (y6 := some (Ins.kept r to).d) (y8 := some (.str "kept")) ?_
      show sv _ _ (St.ite _ _ _) _ _ = _
      rw [s_els1 (b_8F rfl), s_els1 (b_8F rfl), s_els1 (b_inA rfl), s_els1 (b_8F rfl), s_els1 (b_8F rfl), s_els1 (b_8F rfl), s_yes (b_8T rfl), List.append_nil]
      refine Eq.trans (s_step (s_asg (i := 12) (d := nD (pl + 1)) (show 12 < 17 by decide) (by rw [x_ifeF (b_isN (d := .int k) rfl)]; rfl))) ?_
      exact svs1 (own_set (dk := ⟨b, x, y, some k⟩) (i := .kept r to) (r := r) rfl rfl hr (by rw [x_ifeF (b_isN (d := .int k) rfl)]; rfl))
  | .keep r, hi =>
    have hr := lt hi
    obtain ⟨G', e⟩ := own_by (n := n) (C := callN F n) (S := S) (c := cD P rows) (rs := rs) (pl := pl) (dk := dk) (cs := cs) (i := .keep r) (x14 := none) (x15 := none) (x16 := none) (b := dk.b) (x := dk.x) (y := dk.y) (k := some (at_ rs r)) (pl' := some (pl + 1)) (cs' := cs) (rs' := rs) (dd := .keep (at_ rs r)) (G := []) (y6 := some (Ins.keep r).d) (y8 := some (.str "keep")) (by
      show sv _ _ (St.ite _ _ _) _ _ = _
      rw [s_els1 (b_8F rfl), s_els1 (b_8F rfl), s_els1 (b_inA rfl), s_els1 (b_8F rfl), s_els1 (b_8F rfl), s_els1 (b_8F rfl), s_els1 (b_8F rfl), s_yes (b_8T rfl), List.append_nil]
      exact svs1 (s_par (i := 11) (j := 13) (show 11 < 17 by decide) (show 13 < 17 by decide) (x_rp (r := r) rfl rfl rfl hr) (x_tup (ds := [.str "keep", .int (at_ rs r)]) (m_cons rfl (m_cons (x_rp rfl rfl rfl hr) m_nil)) (show 2 ≤ lim by decide))))
    refine ⟨G', e.trans ?_⟩
    show R.ok (T.v (if decide (at_ rs r < 0) = true then _ else _)) _ = R.ok (T.v (ownD (if at_ rs r < 0 then none else _))) _
    by_cases hq : at_ rs r < 0
    · rw [if_pos hq, if_pos (decide_eq_true hq)]
      rfl
    · rw [if_neg hq, if_neg (by rw [decide_eq_false hq]; exact Bool.false_ne_true)]
      rfl
  | .toss r, hi =>
    have hr := lt hi
    cases cs with
    | nil =>
      refine ⟨[.lst false (rs.map D.int)] ++ [.lst false [rD dk.x, rD dk.y]], ?_⟩
      have ee : (ev (callN F n) (Ex.cmp Cm.eq (Ex.v 5) (Ex.tup []))).B (env0 (cD P rows) rs pl dk [] (Ins.toss r) S.length none none none) (S ++ [.lst false (rs.map D.int)] ++ [.lst false [rD dk.x, rD dk.y]]) = .ok true (S ++ [.lst false (rs.map D.int)] ++ [.lst false [rD dk.x, rD dk.y]]) := by
        rw [ev_cmpB]
        show opt (cmp2 .eq (.v (.tup [])) (.v (.tup [])) (S ++ [.lst false (rs.map D.int)] ++ [.lst false [rD dk.x, rD dk.y]])) (S ++ [.lst false (rs.map D.int)] ++ [.lst false [rD dk.x, rD dk.y]]) = _
        rw [eq_nil0]
        rfl
      show fin0 (svs _ _ (St.ite _ _ _ :: _) _ _) = _
      rw [svs_cons, s_els1 (b_8F rfl), s_els1 (b_8F rfl), s_els1 (b_inA rfl), s_yes (b_8T rfl), s_stop ee (v := .v (.tup [Ms.d ⟨rs, some pl, dk, []⟩, .tup [.str "empty"]])) rfl, List.append_assoc]
      rfl
    | cons c cs =>
      have ee : (ev (callN F n) (Ex.cmp Cm.eq (Ex.v 5) (Ex.tup []))).B (env0 (cD P rows) rs pl dk (c :: cs) (Ins.toss r) S.length none none none) (S ++ [.lst false (rs.map D.int)] ++ [.lst false [rD dk.x, rD dk.y]]) = .ok false (S ++ [.lst false (rs.map D.int)] ++ [.lst false [rD dk.x, rD dk.y]]) := by
        rw [ev_cmpB]
        show opt (cmp2 .eq (.v (rD (c :: cs))) (.v (.tup [])) (S ++ [.lst false (rs.map D.int)] ++ [.lst false [rD dk.x, rD dk.y]])) (S ++ [.lst false (rs.map D.int)] ++ [.lst false [rD dk.x, rD dk.y]]) = _
        rw [eq_nil1]
        rfl
      refine own_by (x14 := none) (x15 := none) (x16 := none) (b := dk.b) (x := dk.x) (y := dk.y) (k := dk.k) (pl' := some (pl + 1)) (cs' := cs) (rs' := rs.set r (2 * at_ rs r + c)) (dd := .non) (G := []) (y6 := some (Ins.toss r).d) (y8 := some (.str "toss")) ?_
      show sv _ _ (St.ite _ _ _) _ _ = _
      rw [s_els1 (b_8F rfl), s_els1 (b_8F rfl), s_els1 (b_inA rfl), s_yes (b_8T rfl), List.append_nil, s_go ee]
      refine svs1 ?_
      refine Eq.trans (s_subn (q := 5) (k := S.length) (xs := rs.map D.int) (j := (r : Nat)) (p := r) (x := .int (2 * at_ rs r + c)) (y := rD cs) (show 5 < 17 by decide) (x_add (x_mul (i := 2) rfl (x_rp rfl rfl rfl hr) (by decide)) (x_at rfl (atI0 _ _))) (x_slFrom (xs := (c :: cs).map D.int) (j := 1) rfl rfl (by rw [List.length_map, List.length_cons]; omega)) rfl (x_at rfl rfl) getA (ix16 hr)) ?_
      rw [setA, map_set]
      rfl
  | .put p r, hi =>
    have hpP : p < P := hi.1
    have hr := lt hi.2
    obtain ⟨b, x, y, k⟩ := dk
    have h3 : x.length = P := h3
    have h4 : y.length = P := h4
    have fin_ : ∀ (rw_ : List Int) (q : Nat) (x' y' : List Int), p < rw_.length → L2.atI [rD x, rD y] (1 - ((b : Nat) : Int)) = some (rD rw_) → L2.ixN 2 (1 - ((b : Nat) : Int)) = some q → ([rD x, rD y] : List D).set q (rD (rw_.set p (at_ rs r))) = [rD x', rD y'] → (Dk.put ⟨b, x, y, k⟩ p (at_ rs r)) = ⟨b, x', y', k⟩ →
        ∃ G, fin0 (svs n (callN F n) (ownI :: endB) (env0 (cD P rows) rs pl ⟨b, x, y, k⟩ cs (.put p r) S.length none none none) (S ++ [.lst false (rs.map D.int)] ++ [.lst false [rD x, rD y]])) = .ok (.v (ownD (stepM (.put p r) ⟨rs, some pl, ⟨b, x, y, k⟩, cs⟩ pl))) (S ++ G) := by
      intro rw_ q x' y' hl ha hx hset hput
      obtain ⟨G', e⟩ := own_by (n := n) (C := callN F n) (S := S) (c := cD P rows) (rs := rs) (pl := pl) (dk := ⟨b, x, y, k⟩) (cs := cs) (i := .put p r) (x14 := none) (x15 := none) (x16 := some (.ref (S.length + 2))) (b := b) (x := x') (y := y') (k := k) (pl' := some (pl + 1)) (cs' := cs) (rs' := rs) (dd := .put p (at_ rs r)) (G := [.lst false ((rw_.set p (at_ rs r)).map D.int)]) (y6 := some (Ins.put p r).d) (y8 := some (.str "put")) (by
        show sv _ _ (St.ite _ _ _) _ _ = _
        rw [s_els1 (b_8F rfl), s_els1 (b_8F rfl), s_els1 (b_inA rfl), s_els1 (b_8F rfl), s_els1 (b_8F rfl), s_els1 (b_8F rfl), s_els1 (b_8F rfl), s_els1 (b_8F rfl), s_yes (b_8T rfl)]
        have hl2 : (S ++ [.lst false (rs.map D.int)] ++ [.lst false [rD x, rD y]] : Store).length = S.length + 2 := by
          rw [List.length_append, List.length_append]
          rfl
        have s1 := s_asgL (n := n) (C := callN F n) (i := 16) (e := Ex.bi Bi.list [(Ex.v 10).ix (Ex.bin Op2.sub (Ex.c (D.int 1)) (Ex.v 9))]) (ρ := env0 (cD P rows) rs pl ⟨b, x, y, k⟩ cs (.put p r) S.length none none none) (S := S ++ [.lst false (rs.map D.int)] ++ [.lst false [rD x, rD y]]) (xs := rw_.map D.int) (show 16 < 17 by decide) (x_listT (x_ixL (k := S.length + 1) (xs := [rD x, rD y]) rfl (x_sub rfl rfl) getB ha))
        rw [hl2] at s1
        rw [s_step s1]
        have g3 : ∀ c : Cell, (S ++ [.lst false (rs.map D.int)] ++ [.lst false [rD x, rD y]] ++ [c] : Store)[S.length + 2]? = some c := fun c => by
          rw [← hl2]
          exact at_endL
        have t3 : ∀ c c' : Cell, (S ++ [.lst false (rs.map D.int)] ++ [.lst false [rD x, rD y]] ++ [c] : Store).set (S.length + 2) c' = S ++ [.lst false (rs.map D.int)] ++ [.lst false [rD x, rD y]] ++ [c'] := fun c c' => by
          rw [← hl2, List.set_append_right _ _ (Nat.le_refl _), Nat.sub_self]
          rfl
        rw [s_step (s_seti (k := S.length + 2) (xs := rw_.map D.int) (j := (p : Nat)) (p := p) (d := .int (at_ rs r)) (x_rp rfl rfl rfl hr) rfl (x_at rfl rfl) (g3 _) (ix16 hl)), t3, map_set]
        refine svs1 ?_
        refine Eq.trans (s_subn (q := 13) (k := S.length + 1) (xs := [rD x, rD y]) (j := 1 - ((b : Nat) : Int)) (p := q) (x := rD (rw_.set p (at_ rs r))) (y := .tup [.str "put", nD p, .int (at_ rs r)]) (show 13 < 17 by decide) (x_tupL (k := S.length + 2) rfl (g3 _)) (x_tup (m_cons rfl (m_cons (x_at rfl rfl) (m_cons (x_rp rfl rfl rfl hr) m_nil))) (show 3 ≤ lim by decide)) rfl (x_sub rfl rfl) (by rw [List.getElem?_append_left (by omega)]; exact getB) hx) ?_
        rw [List.set_append_left _ _ (by omega), setB, hset]
        rfl)
      refine ⟨G', e.trans ?_⟩
      show R.ok (T.v (if decide (at_ rs r < 0) = true then _ else _)) _ = R.ok (T.v (ownD (if at_ rs r < 0 then none else some (⟨rs, some (pl + 1), Dk.put ⟨b, x, y, k⟩ p (at_ rs r), cs⟩, .put p (at_ rs r))))) _
      rw [hput]
      by_cases hq : at_ rs r < 0
      · rw [if_pos hq, if_pos (decide_eq_true hq)]
        rfl
      · rw [if_neg hq, if_neg (by rw [decide_eq_false hq]; exact Bool.false_ne_true)]
        rfl
    have h2' : b ≤ 1 := h2
    have hb : b = 0 ∨ b = 1 := by omega
    rcases hb with rfl | rfl
    · exact fin_ y 1 x (y.set p (at_ rs r)) (by omega) rfl rfl rfl rfl
    · exact fin_ x 0 (x.set p (at_ rs r)) y (by omega) rfl rfl rfl rfl
end
end K02
-- M10
set_option Elab.async false
set_option linter.all false
set_option maxRecDepth 100000
set_option maxHeartbeats 400000
/-! M10: gone. -/
namespace Ev
mutual
theorem bnd_mono {a b : Nat} (h : a ≤ b) : ∀ d : D, d.bnd a = true → d.bnd b = true
  | .non, _ => rfl
  | .bl _, _ => rfl
  | .int _, _ => rfl
  | .str _, _ => rfl
  | .tup xs, e => bnds_mono h xs e
  | .ref k, e => decide_eq_true (Nat.lt_of_lt_of_le (of_decide_eq_true e) h)
  | .fn _, _ => rfl
theorem bnds_mono {a b : Nat} (h : a ≤ b) : ∀ ds : List D, D.bnds a ds = true → D.bnds b ds = true
  | [], _ => rfl
  | x :: xs, e => by
    have e' : (x.bnd a && D.bnds a xs) = true := e
    rw [Bool.and_eq_true] at e'
    show (x.bnd b && D.bnds b xs) = true
    rw [bnd_mono h x e'.1, bnds_mono h xs e'.2]
    rfl
end
theorem cell_mono (c : Cell) (a b : Nat) (h : a ≤ b) (e : c.bnd a = true) : c.bnd b = true := by
  cases c with
  | lst l xs => exact bnds_mono h xs e
  | ro xs => exact bnds_mono h xs e
  | dT l kvs =>
    refine List.all_eq_true.mpr fun p hp => ?_
    have z := List.all_eq_true.mp e p hp
    rw [Bool.and_eq_true] at z ⊢
    exact ⟨bnd_mono h _ z.1, bnd_mono h _ z.2⟩
theorem ws_push {S : Store} {xs : List D} (w : WS S) (h : D.pures xs = true) : WS (S ++ [.lst false xs]) := w.push (bnds_pure _ xs h) cell_mono
/-- turns that all go on -/
inductive LoopN (f : D → Env → Store → SR) : List D → Env → Store → Env → Store → Prop where
  | nil {ρ : Env} {S : Store} : LoopN f [] ρ S ρ S
  | cons {x : D} {xs : List D} {ρ ρ1 ρ2 : Env} {S S1 S2 : Store} : f x ρ S = .ok .nx ρ1 S1 → LoopN f xs ρ1 S1 ρ2 S2 → LoopN f (x :: xs) ρ S ρ2 S2
theorem LoopN.snoc {f : D → Env → Store → SR} {y : D} {ρ2 : Env} {S2 : Store} : ∀ {xs : List D} {ρ ρ1 : Env} {S S1 : Store}, LoopN f xs ρ S ρ1 S1 → f y ρ1 S1 = .ok .nx ρ2 S2 → LoopN f (xs ++ [y]) ρ S ρ2 S2
  | _, _, _, _, _, .nil, h => .cons h .nil
  | _, _, _, _, _, .cons e r, h => .cons e (r.snoc h)
theorem LoopN.run {f : D → Env → Store → SR} : ∀ {xs : List D} {ρ ρ1 : Env} {S S1 : Store}, LoopN f xs ρ S ρ1 S1 → loopS f xs ρ S = .ok .nx ρ1 S1
  | _, _, _, _, _, .nil => rfl
  | _, _, _, _, _, .cons e r => by
    rw [loopS_cons, e, contS_nx]
    exact r.run
theorem ints_snoc : ∀ (k : Nat) (lo : Int), intsFrom lo (k + 1) = intsFrom lo k ++ [.int (lo + k)]
  | 0, lo => by
    show [D.int lo] = [D.int (lo + 0)]
    rw [Int.add_zero]
  | k + 1, lo => by
    show D.int lo :: intsFrom (lo + 1) (k + 1) = D.int lo :: (intsFrom (lo + 1) k ++ [.int (lo + (k + 1 : Nat))])
    rw [ints_snoc k (lo + 1), show lo + 1 + (k : Int) = lo + ((k + 1 : Nat) : Int) by omega]
end Ev
namespace K02
open PySem Ev
def Dd.l : Dd → List Dd
  | .non => []
  | d => [d]
theorem Dd.l_len (d : Dd) : d.l.length ≤ 1 := by
  cases d <;> first | exact Nat.zero_le _ | exact Nat.le_refl _
def Dd.isE : Dd → Bool
  | .empty => true
  | _ => false
theorem eq_empty (d : Dd) (S : Store) : cmp2 .eq (.v d.d) (.v (.tup [.str "empty"])) S = some d.isE := by
  show eqT (.v d.d) (.v (.tup [.str "empty"])) S = _
  unfold eqT
  rw [toPy_v d.pure, toPy_v (d := .tup [.str "empty"]) rfl]
  show (if min d.d.py.depth (D.tup [.str "empty"]).py.depth ≤ 60 then some (PyData.eqv d.d.py (D.tup [.str "empty"]).py) else none) = _
  have hd := d.dep
  rw [py_dep, py_dep, if_pos (by omega)]
  have e0 : PyData.eqv (.str "turn") (.str "empty") = false := by rw [eqv_str]; rfl
  have e1 : PyData.eqv (.str "rest") (.str "empty") = false := by rw [eqv_str]; rfl
  have e2 : PyData.eqv (.str "empty") (.str "empty") = true := by rw [eqv_str]; rfl
  cases d with
  | non =>
    show some (PyData.eqv .none (.tuple [.str "empty"])) = _
    simp [PyData.eqv, Dd.isE]
  | empty =>
    show some (PyData.eqv (.tuple [.str "empty"]) (.tuple [.str "empty"])) = _
    rw [PyData.eqv, PyData.eqvAll, e2, PyData.eqvAll]
    rfl
  | keep v =>
    show some (PyData.eqv (.tuple [.str "keep", .int v]) (.tuple [.str "empty"])) = _
    rw [PyData.eqv, PyData.eqvAll]
    simp [PyData.eqvAll, Dd.isE]
  | put p v =>
    show some (PyData.eqv (.tuple [.str "put", .int p, .int v]) (.tuple [.str "empty"])) = _
    rw [PyData.eqv, PyData.eqvAll]
    simp [PyData.eqvAll, Dd.isE]
  | turn =>
    show some (PyData.eqv (.tuple [.str "turn"]) (.tuple [.str "empty"])) = _
    rw [PyData.eqv, PyData.eqvAll, e0]
    rfl
  | rest =>
    show some (PyData.eqv (.tuple [.str "rest"]) (.tuple [.str "empty"])) = _
    rw [PyData.eqv, PyData.eqvAll, e1]
    rfl
def rowsD (rows : List Ins) : List D := rows.map Ins.d
/-- steps from a state: as many, where they end, what was done -/
inductive Run (P : Nat) (rows : List Ins) (s0 : Ms) : Nat → Ms → List Dd → Prop where
  | zero : Run P rows s0 0 s0 []
  | succ {k : Nat} {s s' : Ms} {ds : List Dd} {pl : Nat} {i : Ins} {d : Dd} : Run P rows s0 k s ds → s.pl = some pl → rows[pl]? = some i → i.ok P → Wf P m60 s → stepM i s pl = some (s', d) → d.isE = false → Run P rows s0 (k + 1) s' (ds ++ d.l)
theorem dds_pure (ds : List Dd) : D.pures (ds.map Dd.d) = true := pures_map (f := Dd.d) Dd.pure ds
theorem dl_map (d : Dd) : (if (T.v d.d).isNon = true then ([] : List D) else [d.d]) = d.l.map Dd.d := by cases d <;> rfl
section
variable {n : Nat} {C : Calls} {ρ : Ev.Env} {S : Store}
theorem s_asgT {i j : Nat} {e : Ex} {x y : D} {S1 : Store} (hi : i < ρ.length) (hj : j < ρ.length) (h : (ev C e).E ρ S = .ok (.v (.tup [x, y])) S1) : sv n C (.asg (.tup [.v i, .v j]) e) ρ S = .ok .nx ((ρ.set i (some x)).set j (some y)) S1 := by
  rw [sv_asg, h, bind_ok, mat_v, thenS_ok]
  have e : asg (.tup [.v i, .v j]) (.tup [x, y]) ρ = some ((ρ.set i (some x)).set j (some y)) := by
    show (if i < ρ.length then some (ρ.set i (some x)) else none).bind (fun ρ' => (if j < ρ'.length then some (ρ'.set j (some y)) else none).bind fun ρ' => some ρ') = _
    rw [if_pos hi]
    show (if j < (ρ.set i (some x)).length then some ((ρ.set i (some x)).set j (some y)) else none).bind (fun ρ' => some ρ') = _
    rw [List.length_set, if_pos hj]
    rfl
  rw [e]
theorem s_ext {o e : Ex} {k : Nat} {xs ys : List D} (ho : (ev C o).E ρ S = .ok (.v (.ref k)) S) (he : (ev C e).E ρ S = .ok (.l ys) S) (hk : S[k]? = some (.lst false xs)) (hl : xs.length + ys.length ≤ lim) : sv n C (.ext o e) ρ S = .ok .nx ρ (S.set k (.lst false (xs ++ ys))) := by
  have hr : rcv .append (.v (.ref k)) S = true := by
    show ((match S[k]? with | some (.lst _ xs) => some xs | _ => none) : Option (List D)).isSome = true
    rw [hk]
    rfl
  rw [sv_ext, ho, bind_ok, if_pos hr, he, bind_ok]
  have hx : extF (.v (.ref k)) (.l ys) S = some (S.set k (.lst false (xs ++ ys))) := by
    show (match S[k]?, asM (.l ys) S with
    | some (.lst false xs), some ys => if xs.length + ys.length ≤ lim then some (S.set k (.lst false (xs ++ ys))) else none
    | _, _ => none) = _
    rw [hk]
    exact if_pos hl
  rw [hx]
  rfl
theorem x_dl {i : Nat} {d : Dd} (h : ρ[i]? = some (some d.d)) : (ev C (.ife (Ex.cmp Cm.isN (Ex.v i) (Ex.c D.non)) (Ex.lst []) (Ex.lst [Ex.v i]))).E ρ S = .ok (.l (d.l.map Dd.d)) S := by
  have e := b_isN (C := C) (x_v (S := S) h)
  cases d <;> first
    | (rw [x_ifeT e]; rfl)
    | (rw [x_ifeF e, ev_lst, evs_cons, evs_nil, evM_cons', x_v h, bind_ok, mat_v, bind_ok, evM_nil, bind_ok, bind_ok]; rfl)
theorem t_most (n : Nat) (k : Nat) (hk : k ≤ 1000) {S : Store} (w : WS S) : callN F (n + 3) 22 [.int (k : Nat)] S = .ok (.v .non) S := by
  rw [callN_at (fd := f_check_most) rfl rfl]
  show fin0 (svs (n + 2) (callN F (n + 2)) f_check_most.body [some (.int (k : Nat))] S) = _
  unfold f_check_most
  have e1 : (ev (callN F (n + 2)) (Ex.call 1 [Ex.v 0]).not).B [some (.int (k : Nat))] S = .ok false S := by
    rw [ev_notB, b_call (x_callV (d := .bl _) w rfl (m_cons (d := .int (k : Nat)) rfl m_nil) (t_cnt n (k : Nat) w)), bind_ok, decide_eq_true (by omega)]
    rfl
  have e2 : (ev (callN F (n + 2)) (Ex.cmp Cm.gt (Ex.v 0) (Ex.gc "MOST_GONE" (D.int 1000000)))).B [some (.int (k : Nat))] S = .ok false S := by
    show R.ok (decide ((1000000 : Int) < (k : Nat))) S = _
    rw [decide_eq_false (by omega)]
  rw [s_go (by rw [ev_orB, evO_f e1, evO_f e2]; rfl)]
  rfl
abbrev goneB : List St := [St.ite (Ex.cmp Cm.isN ((Ex.v 3).ix (Ex.c (D.int 1))) (Ex.c D.non)) [St.brk] [], St.asg (Tg.tup [Tg.v 3, Tg.v 6]) (Ex.call 21 [Ex.v 0, Ex.v 3]), St.ext (Ex.v 4) ((Ex.cmp Cm.isN (Ex.v 6) (Ex.c D.non)).ife (Ex.lst []) (Ex.lst [Ex.v 6])), St.ite (Ex.cmp Cm.eq (Ex.v 6) (Ex.tup [Ex.c (D.str "empty")])) [St.brk] []]
theorem gone_turn (n : Nat) {P : Nat} {rows : List Ins} {s s' : Ms} {ds : List Dd} {pl : Nat} {i : Ins} {d : Dd} (hp : s.pl = some pl) (hr : rows[pl]? = some i) (hi : i.ok P) (wf : Wf P m60 s) (hs : stepM i s pl = some (s', d)) (he : d.isE = false) (hl : ds.length ≤ 1000) {S : Store} (w : WS S) (st m : D) (j : Int) (x5 x6 : Option D) :
    turnS (n + 5) (callN F (n + 5)) (.v 5) goneB (.int j) [some (cD P (rowsD rows)), some st, some m, some s.d, some (.ref S.length), x5, x6] (S ++ [.lst false (ds.map Dd.d)]) =
      .ok .nx [some (cD P (rowsD rows)), some st, some m, some s'.d, some (.ref S.length), some (.int j), some d.d] (S ++ [.lst false ((ds ++ d.l).map Dd.d)]) := by
  rw [turn_v (show 5 < 7 by decide)]
  show svs (n + 5) (callN F (n + 5)) goneB [some (cD P (rowsD rows)), some st, some m, some s.d, some (.ref S.length), some (.int j), x6] _ = _
  have w2 := ws_push w (dds_pure ds)
  have e1 : (ev (callN F (n + 5)) (Ex.cmp Cm.isN ((Ex.v 3).ix (Ex.c (D.int 1))) (Ex.c D.non))).B [some (cD P (rowsD rows)), some st, some m, some s.d, some (.ref S.length), some (.int j), x6] (S ++ [.lst false (ds.map Dd.d)]) = .ok false (S ++ [.lst false (ds.map Dd.d)]) := by
    rw [b_isN (d := pD s.pl) rfl, hp]
    rfl
  have hr2 : (rowsD rows)[pl]? = some i.d := by
    show (rows.map Ins.d)[pl]? = _
    rw [List.getElem?_map, hr]
    rfl
  have es := t_step n (rows := rowsD rows) hi wf hp hr2 w2
  rw [hs] at es
  have qp : (D.tup [s'.d, d.d]).pure = true := by
    show (s'.d.pure && (d.d.pure && true)) = true
    rw [Ms.pure, Dd.pure]
    rfl
  rw [s_step (s_no e1)]
  refine Eq.trans (s_step (s_asgT (show 3 < 7 by decide) (show 6 < 7 by decide) (x_callV w2 qp (m_cons rfl (m_cons rfl m_nil)) es))) ?_
  show svs (n + 5) (callN F (n + 5)) _ [some (cD P (rowsD rows)), some st, some m, some s'.d, some (.ref S.length), some (.int j), some d.d] _ = _
  have hdl : d.l.length ≤ 1 := Dd.l_len d
  refine Eq.trans (s_step (s_ext (k := S.length) (xs := ds.map Dd.d) (ys := d.l.map Dd.d) rfl (x_dl rfl) at_endL (by rw [List.length_map, List.length_map]; exact Nat.le_trans (Nat.add_le_add hl hdl) (by decide)))) ?_
  rw [List.set_append_right _ _ (Nat.le_refl _), Nat.sub_self]
  have e4 : (ev (callN F (n + 5)) (Ex.cmp Cm.eq (Ex.v 6) (Ex.tup [Ex.c (D.str "empty")]))).B [some (cD P (rowsD rows)), some st, some m, some s'.d, some (.ref S.length), some (.int j), some d.d] (S ++ ([.lst false (ds.map Dd.d)] : Store).set 0 (.lst false (ds.map Dd.d ++ d.l.map Dd.d))) = .ok false (S ++ ([.lst false (ds.map Dd.d)] : Store).set 0 (.lst false (ds.map Dd.d ++ d.l.map Dd.d))) := by
    rw [ev_cmpB]
    show opt (cmp2 .eq (.v d.d) (.v (.tup [.str "empty"])) (S ++ ([.lst false (ds.map Dd.d)] : Store).set 0 (.lst false (ds.map Dd.d ++ d.l.map Dd.d)))) (S ++ ([.lst false (ds.map Dd.d)] : Store).set 0 (.lst false (ds.map Dd.d ++ d.l.map Dd.d))) = _
    rw [eq_empty, he]
    rfl
  rw [s_step (s_no e4), List.map_append]
  rfl
theorem gone_loop (n : Nat) {P : Nat} {rows : List Ins} {s0 : Ms} {S : Store} (w : WS S) (st m : D) (x5 x6 : Option D) : ∀ {k : Nat} {s : Ms} {ds : List Dd}, Run P rows s0 k s ds → k ≤ 900 → ds.length ≤ k ∧ ∃ y5 y6,
    LoopN (turnS (n + 5) (callN F (n + 5)) (.v 5) goneB) (intsFrom 0 k) [some (cD P (rowsD rows)), some st, some m, some s0.d, some (.ref S.length), x5, x6] (S ++ [.lst false []]) [some (cD P (rowsD rows)), some st, some m, some s.d, some (.ref S.length), y5, y6] (S ++ [.lst false (ds.map Dd.d)])
  | _, _, _, .zero, _ => ⟨Nat.le_refl _, x5, x6, .nil⟩
  | _, _, _, .succ (k := k) (ds := ds) (d := d) r hp hr hi wf hs he, hk => by
    obtain ⟨hl, y5, y6, L⟩ := gone_loop n w st m x5 x6 r (by omega)
    have hdl : d.l.length ≤ 1 := Dd.l_len d
    refine ⟨by rw [List.length_append]; omega, some (.int (0 + (k : Nat))), some d.d, ?_⟩
    rw [ints_snoc]
    exact L.snoc (gone_turn n hp hr hi wf hs he (by omega) w st m _ y5 y6)
theorem t_gone (n : Nat) {P : Nat} {rows : List Ins} {s0 s : Ms} {k : Nat} {ds : List Dd} (r : Run P rows s0 k s ds) (hk : k ≤ 900) {S : Store} (w : WS S) : callN F (n + 6) 23 [cD P (rowsD rows), s0.d, .int (k : Nat)] S = .ok (.v (.tup [s.d, .tup (ds.map Dd.d)])) (S ++ [.lst false (ds.map Dd.d)]) := by
  rw [callN_at (fd := f_gone) rfl rfl]
  obtain ⟨hl, y5, y6, L⟩ := gone_loop n w s0.d (.int (k : Nat)) none none r hk
  show fin0 (svs (n + 5) (callN F (n + 5)) (St.ex (Ex.call 22 [Ex.v 2]) :: St.par 3 4 (Ex.v 1) (Ex.lst []) :: St.for (Tg.v 5) (Ex.bi Bi.range [Ex.v 2]) goneB :: [St.ret (Ex.tup [Ex.v 3, Ex.bi Bi.tuple [Ex.v 4]])]) [some (cD P (rowsD rows)), some s0.d, some (.int (k : Nat)), none, none, none, none] S) = _
  have s1 : sv (n + 5) (callN F (n + 5)) (St.ex (Ex.call 22 [Ex.v 2])) [some (cD P (rowsD rows)), some s0.d, some (.int (k : Nat)), none, none, none, none] S = .ok .nx [some (cD P (rowsD rows)), some s0.d, some (.int (k : Nat)), none, none, none, none] S := by
    rw [sv_ex, x_callV (d := .non) w rfl (m_cons (d := .int (k : Nat)) rfl m_nil) (t_most (n + 2) k (by omega) w), thenS_ok]
  have s2 : sv (n + 5) (callN F (n + 5)) (St.par 3 4 (Ex.v 1) (Ex.lst [])) [some (cD P (rowsD rows)), some s0.d, some (.int (k : Nat)), none, none, none, none] S = .ok .nx [some (cD P (rowsD rows)), some s0.d, some (.int (k : Nat)), some s0.d, some (.ref S.length), none, none] (S ++ [.lst false []]) := rfl
  have it : (ev (callN F (n + 5)) (Ex.bi Bi.range [Ex.v 2])).I [some (cD P (rowsD rows)), some s0.d, some (.int (k : Nat)), some s0.d, some (.ref S.length), none, none] (S ++ [.lst false []]) = .ok (intsFrom 0 k, none) (S ++ [.lst false []]) := by
    rw [ev_biI, evs_cons, evs_nil, evTs_cons, x_v (d := .int (k : Nat)) rfl, bind_ok, evTs_nil, bind_ok, bind_ok, if_pos (show isIt Bi.range = true from rfl), itF_range k (by omega)]
    rfl
  have s3 := s_for (n := n + 5) (C := callN F (n + 5)) (tg := Tg.v 5) (body := goneB) (o := none) it L.run
  have e4 : (ev (callN F (n + 5)) (Ex.tup [Ex.v 3, Ex.bi Bi.tuple [Ex.v 4]])).E [some (cD P (rowsD rows)), some s0.d, some (.int (k : Nat)), some s.d, some (.ref S.length), y5, y6] (S ++ [.lst false (ds.map Dd.d)]) = .ok (.v (.tup [s.d, .tup (ds.map Dd.d)])) (S ++ [.lst false (ds.map Dd.d)]) :=
    x_tup (m_cons rfl (m_cons (x_tupL (k := S.length) rfl at_endL) m_nil)) (show 2 ≤ lim by decide)
  rw [s_step s1, s_step s2, s_step s3]
  show fin0 (svs (n + 5) (callN F (n + 5)) [St.ret _] [some (cD P (rowsD rows)), some s0.d, some (.int (k : Nat)), some s.d, some (.ref S.length), y5, y6] (S ++ [.lst false (ds.map Dd.d)])) = _
  rw [s_ret e4]
  rfl
end
end K02
-- M11
set_option Elab.async false
set_option linter.all false
set_option maxRecDepth 100000
set_option maxHeartbeats 400000
/-! M11: drawing: one of a list, an instruction, rows. -/
namespace K02
open PySem Ev
/-- the bag was drawn from -/
def Nx (S T : Store) : Prop := ∃ c, OkB c ∧ T = S.set 2 c
theorem Nx.refl {S : Store} (h : BG S) : Nx S S := by
  obtain ⟨c, hc, e⟩ := h.same
  exact ⟨c, hc, e.symm⟩
theorem Nx.trans {S T U : Store} (a : Nx S T) (b : Nx T U) : Nx S U := by
  obtain ⟨c, hc, rfl⟩ := a
  obtain ⟨c', hc', rfl⟩ := b
  exact ⟨c', hc', List.set_set _⟩
theorem Nx.bg {S T : Store} (a : Nx S T) (h : BG S) : BG T := by
  obtain ⟨c, hc, rfl⟩ := a
  exact h.set hc
theorem Nx.len {S T : Store} (a : Nx S T) : T.length = S.length := by
  obtain ⟨c, hc, rfl⟩ := a
  exact List.length_set
theorem Nx.get {S T : Store} (a : Nx S T) {k : Nat} (hk : k ≠ 2) : T[k]? = S[k]? := by
  obtain ⟨c, hc, rfl⟩ := a
  exact List.getElem?_set_ne (Ne.symm hk)
theorem Nx.pop {S : Store} {x : Cell} {T : Store} (h : BG S) (a : Nx (S ++ [x]) T) : ∃ T', T = T' ++ [x] ∧ Nx S T' := by
  obtain ⟨c, hc, rfl⟩ := a
  exact ⟨S.set 2 c, h.pushed x c, c, hc, rfl⟩
theorem bg_push {S : Store} {xs : List D} (h : BG S) (hp : D.pures xs = true) : BG (S ++ [.lst false xs]) := h.push (ws_push h.w hp)
section
variable {n : Nat} {C : Calls} {ρ : Ev.Env} {S : Store}
theorem x_tk (hC : Tk C) {b M : Nat} {e : Ex} (hb : ρ[b]? = some (some (.ref 2))) (he : (ev C e).E ρ S = .ok (.v (nD M)) S) (hM : 0 < M) (hM9 : M ≤ 100) (h : BG S) : ∃ (v : Nat) (T : Store), v < M ∧ Nx S T ∧ (ev C (.call 25 [.v b, e])).E ρ S = .ok (.v (nD v)) T := by
  obtain ⟨v, c, hv, hc, z⟩ := hC S M h hM hM9
  exact ⟨v, S.set 2 c, hv, ⟨c, hc, rfl⟩, x_call (m_cons (x_v hb) (m_cons he m_nil)) z⟩
theorem t_some (n : Nat) {k : Nat} {xs : List D} (h : BG S) (hk : S[k]? = some (.lst false xs)) (h2 : k ≠ 2) (h0 : 0 < xs.length) (hl : xs.length ≤ 100) : ∃ (i : Nat) (hi : i < xs.length) (T : Store), Nx S T ∧ callN F (n + 2) 26 [.ref 2, .ref k] S = .ok (.v xs[i]) T := by
  have ln : (ev (callN F (n + 1)) (Ex.bi Bi.len [Ex.v 1])).E [some (.ref 2), some (.ref k)] S = .ok (.v (nD xs.length)) S := by
    rw [ev_bi, evs_cons, evs_nil, evTs_cons, x_v (d := .ref k) rfl, bind_ok, evTs_nil, bind_ok, bind_ok]
    have ea : asQ (.v (.ref k)) S = some xs := by
      show (match S[k]? with | some (.lst _ xs) => some xs | some (.ro xs) => some xs | _ => none) = _
      rw [hk]
    show opt (match asQ (.v (.ref k)) S with
      | some xs => some (T.v (.int xs.length))
      | none => (asT (.v (.ref k)) S).map fun kvs => .v (.int kvs.length)) S = _
    rw [ea]
    rfl
  obtain ⟨i, T, hi, nx, e⟩ := x_tk (tk_F n) (ρ := [some (.ref 2), some (.ref k)]) (b := 0) rfl ln h0 hl h
  refine ⟨i, hi, T, nx, ?_⟩
  rw [callN_at (fd := f__law_some) rfl rfl]
  show fin0 (svs (n + 1) (callN F (n + 1)) [St.ret ((Ex.v 1).ix (Ex.call 25 [Ex.v 0, Ex.bi Bi.len [Ex.v 1]]))] [some (.ref 2), some (.ref k)] S) = _
  have e2 : (ev (callN F (n + 1)) ((Ex.v 1).ix (Ex.call 25 [Ex.v 0, Ex.bi Bi.len [Ex.v 1]]))).E [some (.ref 2), some (.ref k)] S = .ok (.v xs[i]) T := by
    rw [ev_ix, x_v (d := .ref k) rfl, bind_ok, e, bind_ok]
    show opt (getF (.v (.ref k)) (.v (.int (i : Nat))) T) T = _
    rw [getF_ref ((nx.get h2).trans hk), atI_nat (List.getElem?_eq_getElem hi)]
    rfl
  rw [s_ret e2]
  rfl
theorem fin_pop {T : Store} {G : List Cell} {d : D} (w : WS T) (hl : T.length = S.length) (hp : d.pure = true) : fin S.length (.ok (.v d) (T ++ G)) = .ok (.v d) T := by
  rw [← hl]
  exact fin_v w hp
theorem b_vF {i : Nat} {s t : Str} (h : ρ[i]? = some (some (.str s))) (hn : decide (s = t) = false := by first | decide | rfl) : (ev C (Ex.cmp Cm.eq (Ex.v i) (Ex.c (D.str t)))).B ρ S = .ok false S := by
  rw [b_eqS (x_v h) x_c, hn]
theorem b_vT {i : Nat} {s t : Str} (h : ρ[i]? = some (some (.str s))) (hn : decide (s = t) = true := by first | decide | rfl) : (ev C (Ex.cmp Cm.eq (Ex.v i) (Ex.c (D.str t)))).B ρ S = .ok true S := by
  rw [b_eqS (x_v h) x_c, hn]
theorem x_selO {ks : List Str} {vs : List Ex} {k d : Ex} {ds : List D} {s : Str} {x y : D} (hv : evM (evs C vs) ρ S = .ok ds S) (hk : (ev C k).E ρ S = .ok (.v (.str s)) S) (hd : (ev C d).E ρ S = .ok (.v x) S) (hs : (selF ks ds s).getD x = y) : (ev C (.sel ks vs true k d)).E ρ S = .ok (.v y) S := by
  show (evM (evs C vs) ρ S).bind (fun ds S1 => ((ev C k).E ρ S1).bind fun tk S2 => (match tk with
    | .v (.str s) => ((ev C d).E ρ S2).bind fun td S3 => (match td with
        | .v x => R.ok (T.v ((selF ks ds s).getD x)) S3
        | _ => .bad)
    | _ => .bad)) = _
  rw [hv, bind_ok, hk, bind_ok]
  show ((ev C d).E ρ S).bind (fun td S3 => (match td with
        | .v x => R.ok (T.v ((selF ks ds s).getD x)) S3
        | _ => .bad)) = _
  rw [hd, bind_ok]
  show R.ok (T.v ((selF ks ds s).getD x)) S = _
  rw [hs]
abbrev insB : List St := f__law_instruction.body.drop 3
abbrev insEnv (P size : Nat) (k : Nat) (w : Str) (r s u to : Nat) : Ev.Env := [some (.ref 2), some (nD P), some (nD size), some (.ref k), some (.str w), some (nD r), some (nD s), some (nD u), some (nD to)]
abbrev words : List D := [.str "pot", .str "num", .str "plus", .str "minus", .str "times", .str "toss", .str "toss", .str "under", .str "jump", .str "kept", .str "keep", .str "put", .str "turn"]
abbrev inP : Ex := Ex.isin false (Ex.v 4) (Ex.tup [Ex.c (D.str "plus"), Ex.c (D.str "minus"), Ex.c (D.str "times")])
abbrev inT : Ex := Ex.isin false (Ex.v 4) (Ex.tup [Ex.c (D.str "toss"), Ex.c (D.str "keep")])
theorem b_inP {s : Str} {b : Bool} (h : ρ[4]? = some (some (.str s))) (hb : (["plus", "minus", "times"] : List Str).any (fun t => decide (t = s)) = b := by first | decide | rfl) : (ev C inP).B ρ S = .ok b S := by
  have z := b_in (C := C) (ρ := ρ) (S := S) (ws := ["plus", "minus", "times"]) (show 3 ≤ lim by decide) (x_v h)
  rw [hb] at z
  exact z
theorem b_inT {s : Str} {b : Bool} (h : ρ[4]? = some (some (.str s))) (hb : (["toss", "keep"] : List Str).any (fun t => decide (t = s)) = b := by first | decide | rfl) : (ev C inT).B ρ S = .ok b S := by
  have z := b_in (C := C) (ρ := ρ) (S := S) (ws := ["toss", "keep"]) (show 2 ≤ lim by decide) (x_v h)
  rw [hb] at z
  exact z
theorem ins_tail (hC : Tk C) {P size k r s u to i : Nat} (hP : 0 < P) (hP2 : P ≤ 2) (hr : r < 4) (hs : s < 4) (hu : u < 4) (hto : to < size) (hi : i < 13) (h : BG S) (w : Str) (hw : words[i]? = some (.str w)) :
    ∃ (q : Ins) (T : Store), q.ok P ∧ q.to size ∧ Nx S T ∧ svs n C insB (insEnv P size k w r s u to) S = .ok (.rt (.v q.d)) (insEnv P size k w r s u to) T := by
  have sel_ : ∀ (w : Str) (y : D), (selF ["jump", "kept"] [.tup [.str w, nD to], .tup [.str w, nD r, nD to]] w).getD (.tup [.str w]) = y → (ev C (Ex.sel ["jump", "kept"] [Ex.tup [Ex.v 4, Ex.v 8], Ex.tup [Ex.v 4, Ex.v 5, Ex.v 8]] true (Ex.v 4) (Ex.tup [Ex.v 4]))).E (insEnv P size k w r s u to) S = .ok (.v y) S := fun w y h =>
    x_selO (ds := [.tup [.str w, nD to], .tup [.str w, nD r, nD to]]) (m_cons (x_tup (m_cons rfl (m_cons rfl m_nil)) (show 2 ≤ lim by decide)) (m_cons (x_tup (m_cons rfl (m_cons rfl (m_cons rfl m_nil))) (show 3 ≤ lim by decide)) m_nil)) rfl (x_tup (m_cons rfl m_nil) (show 1 ≤ lim by decide)) h
  have nx := Nx.refl h
  have cases13 : i = 0 ∨ i = 1 ∨ i = 2 ∨ i = 3 ∨ i = 4 ∨ i = 5 ∨ i = 6 ∨ i = 7 ∨ i = 8 ∨ i = 9 ∨ i = 10 ∨ i = 11 ∨ i = 12 := by omega
  rcases cases13 with rfl | rfl | rfl | rfl | rfl | rfl | rfl | rfl | rfl | rfl | rfl | rfl | rfl <;> cases hw
  · -- pot
    obtain ⟨p, T, hp, nx, e⟩ := x_tk hC (ρ := insEnv P size k "pot" r s u to) (b := 0) (e := Ex.v 1) (S := S) rfl rfl hP (by omega) h
    refine ⟨.pot r p, T, ⟨hr, hp⟩, trivial, nx, ?_⟩
    show svs n C (St.ite _ [St.ret _] [] :: _) _ _ = _
    rw [svs_cons, s_yes (b_vT rfl), s_ret (x_tup (m_cons rfl (m_cons rfl (m_cons e m_nil))) (show 3 ≤ lim by decide)), seqS_rt]
    rfl
  · -- num
    obtain ⟨p, T, hp, nx, e⟩ := x_tk hC (ρ := insEnv P size k "num" r s u to) (b := 0) (e := Ex.c (D.int 5)) (M := 5) (S := S) rfl rfl (by decide) (by decide) h
    refine ⟨.num r p, T, hr, trivial, nx, ?_⟩
    show svs n C (St.ite _ [St.ret _] [] :: St.ite _ [St.ret _] [] :: _) _ _ = _
    rw [s_go (b_vF rfl), svs_cons, s_yes (b_vT rfl), s_ret (x_tup (m_cons rfl (m_cons rfl (m_cons e m_nil))) (show 3 ≤ lim by decide)), seqS_rt]
    rfl
  · refine ⟨.ar 0 r s u, S, ⟨by decide, hr, hs, hu⟩, trivial, nx, ?_⟩
    show svs n C (St.ite _ [St.ret _] [] :: St.ite _ [St.ret _] [] :: St.ite inP [St.ret _] [] :: _) _ _ = _
    rw [s_go (b_vF rfl), s_go (b_vF rfl), s_stop (b_inP rfl) rfl]
    rfl
  · refine ⟨.ar 1 r s u, S, ⟨by decide, hr, hs, hu⟩, trivial, nx, ?_⟩
    show svs n C (St.ite _ [St.ret _] [] :: St.ite _ [St.ret _] [] :: St.ite inP [St.ret _] [] :: _) _ _ = _
    rw [s_go (b_vF rfl), s_go (b_vF rfl), s_stop (b_inP rfl) rfl]
    rfl
  · refine ⟨.ar 2 r s u, S, ⟨by decide, hr, hs, hu⟩, trivial, nx, ?_⟩
    show svs n C (St.ite _ [St.ret _] [] :: St.ite _ [St.ret _] [] :: St.ite inP [St.ret _] [] :: _) _ _ = _
    rw [s_go (b_vF rfl), s_go (b_vF rfl), s_stop (b_inP rfl) rfl]
    rfl
  · refine ⟨.toss r, S, hr, trivial, nx, ?_⟩
    show svs n C (St.ite _ [St.ret _] [] :: St.ite _ [St.ret _] [] :: St.ite inP [St.ret _] [] :: St.ite _ [St.ret _] [] :: St.ite inT [St.ret _] [] :: _) _ _ = _
    rw [s_go (b_vF rfl), s_go (b_vF rfl), s_go (b_inP rfl), s_go (b_vF rfl), s_stop (b_inT rfl) rfl]
    rfl
  · refine ⟨.toss r, S, hr, trivial, nx, ?_⟩
    show svs n C (St.ite _ [St.ret _] [] :: St.ite _ [St.ret _] [] :: St.ite inP [St.ret _] [] :: St.ite _ [St.ret _] [] :: St.ite inT [St.ret _] [] :: _) _ _ = _
    rw [s_go (b_vF rfl), s_go (b_vF rfl), s_go (b_inP rfl), s_go (b_vF rfl), s_stop (b_inT rfl) rfl]
    rfl
  · refine ⟨.under r s to, S, ⟨hr, hs⟩, hto, nx, ?_⟩
    show svs n C (St.ite _ [St.ret _] [] :: St.ite _ [St.ret _] [] :: St.ite inP [St.ret _] [] :: St.ite _ [St.ret _] [] :: _) _ _ = _
    rw [s_go (b_vF rfl), s_go (b_vF rfl), s_go (b_inP rfl), s_stop (b_vT rfl) rfl]
    rfl
  · refine ⟨.jump to, S, trivial, hto, nx, ?_⟩
    show svs n C (St.ite _ [St.ret _] [] :: St.ite _ [St.ret _] [] :: St.ite inP [St.ret _] [] :: St.ite _ [St.ret _] [] :: St.ite inT [St.ret _] [] :: St.ite _ [St.ret _] [] :: [St.ret _]) _ _ = _
    rw [s_go (b_vF rfl), s_go (b_vF rfl), s_go (b_inP rfl), s_go (b_vF rfl), s_go (b_inT rfl), s_go (b_vF rfl), s_ret (sel_ "jump" (Ins.jump to).d rfl)]
  · refine ⟨.kept r to, S, hr, hto, nx, ?_⟩
    show svs n C (St.ite _ [St.ret _] [] :: St.ite _ [St.ret _] [] :: St.ite inP [St.ret _] [] :: St.ite _ [St.ret _] [] :: St.ite inT [St.ret _] [] :: St.ite _ [St.ret _] [] :: [St.ret _]) _ _ = _
    rw [s_go (b_vF rfl), s_go (b_vF rfl), s_go (b_inP rfl), s_go (b_vF rfl), s_go (b_inT rfl), s_go (b_vF rfl), s_ret (sel_ "kept" (Ins.kept r to).d rfl)]
  · refine ⟨.keep r, S, hr, trivial, nx, ?_⟩
    show svs n C (St.ite _ [St.ret _] [] :: St.ite _ [St.ret _] [] :: St.ite inP [St.ret _] [] :: St.ite _ [St.ret _] [] :: St.ite inT [St.ret _] [] :: _) _ _ = _
    rw [s_go (b_vF rfl), s_go (b_vF rfl), s_go (b_inP rfl), s_go (b_vF rfl), s_stop (b_inT rfl) rfl]
    rfl
  · obtain ⟨p, T, hp, nx, e⟩ := x_tk hC (ρ := insEnv P size k "put" r s u to) (b := 0) (e := Ex.v 1) (S := S) rfl rfl hP (by omega) h
    refine ⟨.put p r, T, ⟨hp, hr⟩, trivial, nx, ?_⟩
    show svs n C (St.ite _ [St.ret _] [] :: St.ite _ [St.ret _] [] :: St.ite inP [St.ret _] [] :: St.ite _ [St.ret _] [] :: St.ite inT [St.ret _] [] :: St.ite _ [St.ret _] [] :: _) _ _ = _
    rw [s_go (b_vF rfl), s_go (b_vF rfl), s_go (b_inP rfl), s_go (b_vF rfl), s_go (b_inT rfl), svs_cons, s_yes (b_vT rfl), s_ret (x_tup (m_cons rfl (m_cons e (m_cons rfl m_nil))) (show 3 ≤ lim by decide)), seqS_rt]
    rfl
  · refine ⟨.turn, S, trivial, trivial, nx, ?_⟩
    show svs n C (St.ite _ [St.ret _] [] :: St.ite _ [St.ret _] [] :: St.ite inP [St.ret _] [] :: St.ite _ [St.ret _] [] :: St.ite inT [St.ret _] [] :: St.ite _ [St.ret _] [] :: [St.ret _]) _ _ = _
    rw [s_go (b_vF rfl), s_go (b_vF rfl), s_go (b_inP rfl), s_go (b_vF rfl), s_go (b_inT rfl), s_go (b_vF rfl), s_ret (sel_ "turn" Ins.turn.d rfl)]
end
end K02
-- M12
set_option Elab.async false
set_option linter.all false
set_option maxRecDepth 100000
set_option maxHeartbeats 400000
/-! M12: drawing an instruction; rows drawn; a step keeps what is well-formed. -/
namespace K02
open PySem Ev
section
variable {n : Nat} {C : Calls} {ρ : Ev.Env} {S : Store}
theorem s_asg4 {a b c d : Nat} {e : Ex} {x y z t : D} {S1 : Store} {ρ' : Ev.Env} (ha : asg (.tup [.v a, .v b, .v c, .v d]) (.tup [x, y, z, t]) ρ = some ρ') (h : (ev C e).E ρ S = .ok (.v (.tup [x, y, z, t])) S1) : sv n C (.asg (.tup [.v a, .v b, .v c, .v d]) e) ρ S = .ok .nx ρ' S1 := by
  rw [sv_asg, h, bind_ok, mat_v, thenS_ok, ha]
theorem words_pure : D.pures words = true := rfl
theorem t_ins (n : Nat) {P size : Nat} (hP : 0 < P) (hP2 : P ≤ 2) (hz : 0 < size) (hz2 : size ≤ 100) (h : BG S) : ∃ (q : Ins) (T : Store), q.ok P ∧ q.to size ∧ Nx S T ∧ callN F (n + 3) 27 [.ref 2, nD P, nD size] S = .ok (.v q.d) (T ++ [.lst false words]) := by
  have h1 := bg_push h words_pure
  have hlt := h.lt
  have hC : Tk (callN F (n + 2)) := tk_F (n + 1)
  obtain ⟨i, hi, T1, nx1, e1⟩ := t_some n (S := S ++ [.lst false words]) (xs := words) h1 (k := S.length) at_endL (by omega) (show 0 < 13 by decide) (show 13 ≤ 100 by decide)
  have b1 := nx1.bg h1
  have hi : i < 13 := hi
  have hw : ∃ w, words[i]? = some (.str w) := by
    have cases13 : i = 0 ∨ i = 1 ∨ i = 2 ∨ i = 3 ∨ i = 4 ∨ i = 5 ∨ i = 6 ∨ i = 7 ∨ i = 8 ∨ i = 9 ∨ i = 10 ∨ i = 11 ∨ i = 12 := by omega
    rcases cases13 with rfl | rfl | rfl | rfl | rfl | rfl | rfl | rfl | rfl | rfl | rfl | rfl | rfl <;> exact ⟨_, rfl⟩
  obtain ⟨w, hw⟩ := hw
  have hwe : words[i] = .str w := by
    have z := List.getElem?_eq_getElem (l := words) (i := i) hi
    rw [hw] at z
    exact (Option.some.inj z).symm
  have e1 : callN F (n + 2) 26 [.ref 2, .ref S.length] (S ++ [.lst false words]) = .ok (.v (.str w)) T1 := by
    rw [e1]
    show R.ok (T.v words[i]) T1 = _
    rw [hwe]
  have f1 : fin (S ++ [Cell.lst false words]).length (callN F (n + 2) 26 [.ref 2, .ref S.length] (S ++ [.lst false words])) = .ok (.v (.str w)) T1 := by
    rw [e1]
    have z := fin_pop (S := S ++ [.lst false words]) (T := T1) (G := []) (d := .str w) b1.w nx1.len rfl
    rwa [List.append_nil] at z
  obtain ⟨r, T2, hr, nx2, e2⟩ := x_tk hC (ρ := [some (.ref 2), some (nD P), some (nD size), some (.ref S.length), some (.str w), none, none, none, none]) (b := 0) (e := Ex.c (D.int 4)) (M := 4) (S := T1) rfl rfl (by decide) (by decide) b1
  have b2 := nx2.bg b1
  obtain ⟨s, T3, hs, nx3, e3⟩ := x_tk hC (ρ := [some (.ref 2), some (nD P), some (nD size), some (.ref S.length), some (.str w), none, none, none, none]) (b := 0) (e := Ex.c (D.int 4)) (M := 4) (S := T2) rfl rfl (by decide) (by decide) b2
  have b3 := nx3.bg b2
  obtain ⟨u, T4, hu, nx4, e4⟩ := x_tk hC (ρ := [some (.ref 2), some (nD P), some (nD size), some (.ref S.length), some (.str w), none, none, none, none]) (b := 0) (e := Ex.c (D.int 4)) (M := 4) (S := T3) rfl rfl (by decide) (by decide) b3
  have b4 := nx4.bg b3
  obtain ⟨to, T5, hto, nx5, e5⟩ := x_tk hC (ρ := [some (.ref 2), some (nD P), some (nD size), some (.ref S.length), some (.str w), none, none, none, none]) (b := 0) (e := Ex.v 2) (M := size) (S := T4) rfl rfl hz hz2 b4
  have b5 := nx5.bg b4
  obtain ⟨q, T6, q1, q2, nx6, e6⟩ := ins_tail (n := n + 2) hC (k := S.length) hP hP2 hr hs hu hto hi b5 w hw
  have nx : Nx (S ++ [.lst false words]) T6 := (((nx1.trans nx2).trans nx3).trans (nx4.trans nx5)).trans nx6
  obtain ⟨T', rfl, nx'⟩ := nx.pop h
  refine ⟨q, T', q1, q2, nx', ?_⟩
  rw [callN_at (fd := f__law_instruction) rfl rfl]
  show fin0 (svs (n + 2) (callN F (n + 2)) (_ :: St.asg (Tg.v 4) (Ex.call 26 [Ex.v 0, Ex.v 3]) :: St.asg (Tg.tup [Tg.v 5, Tg.v 6, Tg.v 7, Tg.v 8]) (Ex.tup [Ex.call 25 [Ex.v 0, Ex.c (D.int 4)], Ex.call 25 [Ex.v 0, Ex.c (D.int 4)], Ex.call 25 [Ex.v 0, Ex.c (D.int 4)], Ex.call 25 [Ex.v 0, Ex.v 2]]) :: insB) [some (.ref 2), some (nD P), some (nD size), none, none, none, none, none, none] S) = _
  refine Eq.trans (congrArg fin0 (s_step (ρ1 := [some (.ref 2), some (nD P), some (nD size), some (.ref S.length), none, none, none, none, none]) (S1 := S ++ [.lst false words]) rfl)) ?_
  refine Eq.trans (congrArg fin0 (s_step (s_asg (show 4 < 9 by decide) (x_call (m_cons rfl (m_cons rfl m_nil)) f1)))) ?_
  refine Eq.trans (congrArg fin0 (s_step (s_asg4 (ρ' := insEnv P size S.length w r s u to) rfl (x_tup (m_cons e2 (m_cons e3 (m_cons e4 (m_cons e5 m_nil)))) (show 4 ≤ lim by decide))))) ?_
  rw [e6]
  rfl
theorem lc_gen {w : Nat} {e : Ex} {Q : D → Prop} (hw : w < ρ.length) (h : ∀ x T, BG T → ∃ d T', Q d ∧ Nx T T' ∧ (ev C e).E ((ρ.set w none).set w (some x)) T = .ok (.v d) T') : ∀ (k : Nat) (lo : Int) (S : Store), BG S → ∃ ds T, ds.length = k ∧ (∀ d ∈ ds, Q d) ∧ Nx S T ∧ loopC (stepC [w] (ev C e) (.v w) [] ρ) (intsFrom lo k) S = .ok ds T
  | 0, lo, S, b => ⟨[], S, rfl, (fun _ z => by cases z), Nx.refl b, rfl⟩
  | k + 1, lo, S, b => by
    obtain ⟨d, T1, q1, nx1, e1⟩ := h (.int lo) S b
    obtain ⟨ds, T2, l2, q2, nx2, e2⟩ := lc_gen hw h k (lo + 1) T1 (nx1.bg b)
    refine ⟨d :: ds, T2, by rw [List.length_cons, l2], fun x hx => ?_, nx1.trans nx2, ?_⟩
    · rcases List.mem_cons.mp hx with z | z
      · rw [z]
        exact q1
      · exact q2 x z
    · show loopC _ (D.int lo :: intsFrom (lo + 1) k) S = _
      unfold loopC
      have s1 : stepC [w] (ev C e) (.v w) [] ρ (.int lo) S = .ok (some d) T1 := by
        unfold stepC
        have ea : asg (.v w) (.int lo) (wipeE ρ [w]) = some ((ρ.set w none).set w (some (.int lo))) := by
          show (if w < (ρ.set w none).length then some ((ρ.set w none).set w (some (.int lo))) else none) = _
          rw [List.length_set, if_pos hw]
        rw [ea]
        show ((R.ok true S).bind fun k S3 => if k then ((ev C e).E ((ρ.set w none).set w (some (.int lo))) S3).bind fun t S4 => (mat t S4).bind fun d S5 => R.ok (some d) S5 else .ok none S3) = _
        rw [bind_ok, if_pos rfl, e1]
        rfl
      rw [s1, bind_ok, e2, bind_ok]
theorem lc_ev {w k : Nat} {e p : Ex} {Q : D → Prop} {S0 : Store} (hw : w < ρ.length) (hk : k ≤ 1000) (hp : (ev C p).E ρ S = .ok (.v (nD k)) S0) (b : BG S0) (h : ∀ x T, BG T → ∃ d T', Q d ∧ Nx T T' ∧ (ev C e).E ((ρ.set w none).set w (some x)) T = .ok (.v d) T') :
    ∃ ds T, ds.length = k ∧ (∀ d ∈ ds, Q d) ∧ Nx S0 T ∧ (ev C (.lc [w] e (.v w) (.bi .range [p]) [])).E ρ S = .ok (.l ds) T := by
  obtain ⟨ds, T, h1, h2, h3, e3⟩ := lc_gen (C := C) (e := e) (Q := Q) hw h k 0 S0 b
  refine ⟨ds, T, h1, h2, h3, ?_⟩
  have it : (ev C (.bi .range [p])).I ρ S = .ok (intsFrom 0 k, none) S0 := by
    rw [ev_biI, evs_cons, evs_nil, evTs_cons, hp, bind_ok, evTs_nil, bind_ok, bind_ok, if_pos (show isIt Bi.range = true from rfl), show itF .range [.v (nD k)] S0 = some (intsFrom 0 k, none) from itF_range k hk S0]
    rfl
  have hl : (intsFrom 0 k).length ≤ lim := by
    have : ∀ (k : Nat) (lo : Int), (intsFrom lo k).length = k := by
      intro k
      induction k with
      | zero => intro lo; rfl
      | succ k ih =>
        intro lo
        show (D.int lo :: intsFrom (lo + 1) k).length = k + 1
        rw [List.length_cons, ih]
    rw [this]
    exact Nat.le_trans hk (by decide)
  rw [ev_lc]
  unfold evL
  rw [it, bind_ok]
  show (if (intsFrom 0 k).length ≤ lim then _ else _) = _
  rw [if_pos hl]
  show ((noX (loopC (stepC [w] (ev C e) (.v w) [] ρ) (intsFrom 0 k) S0)).bind fun ys S2 => R.ok (Ev.T.l ys) (lockO S2 none false)) = _
  rw [e3]
  rfl
/-- rows of D's that are all images -/
theorem pull {α : Type} {f : α → D} {Q : α → Prop} : ∀ {ds : List D}, (∀ d ∈ ds, ∃ a, Q a ∧ d = f a) → ∃ l : List α, ds = l.map f ∧ ∀ a ∈ l, Q a
  | [], _ => ⟨[], rfl, fun _ z => by cases z⟩
  | d :: ds, h => by
    obtain ⟨a, q, rfl⟩ := h d List.mem_cons_self
    obtain ⟨l, rfl, hl⟩ := pull (ds := ds) fun x hx => h x (List.mem_cons_of_mem _ hx)
    exact ⟨a :: l, rfl, fun x hx => (List.mem_cons.mp hx).elim (fun e => e ▸ q) (hl x)⟩
end
end K02
-- M13
set_option Elab.async false
set_option linter.all false
set_option maxRecDepth 100000
set_option maxHeartbeats 400000
/-! M13: a step keeps what is well-formed; the greatest register; no step from no place. -/
namespace K02
open PySem Ev
theorem bound_ex : ∀ rs : List Int, ∃ m : Int, ∀ v ∈ rs, -m ≤ v ∧ v ≤ m
  | [] => ⟨0, fun _ z => by cases z⟩
  | a :: rs => by
    obtain ⟨m, h⟩ := bound_ex rs
    refine ⟨m.natAbs + a.natAbs, fun v hv => ?_⟩
    rcases List.mem_cons.mp hv with z | z
    · subst z
      omega
    · have := h v z
      omega
def WfB (P : Nat) (s : Ms) : Prop := ∃ most, Wf P most s
theorem WfB.mk {P : Nat} {s : Ms} (rl : s.rs.length = 16) (b : s.dk.b ≤ 1) (x : s.dk.x.length = P) (y : s.dk.y.length = P) (P2 : P ≤ 2) (cs : ∀ c ∈ s.cs, 0 ≤ c ∧ c ≤ 1) (cl : s.cs.length ≤ 100) : WfB P s := by
  obtain ⟨m, h⟩ := bound_ex s.rs
  exact ⟨m, rl, b, x, y, P2, h, cs, cl⟩
theorem WfB.to60 {P : Nat} {s : Ms} (h : WfB P s) (hm : ∀ v ∈ s.rs, v.natAbs ≤ 10 ^ 60) : Wf P m60 s := by
  obtain ⟨m, rl, b, x, y, P2, _, cs, cl⟩ := h
  refine ⟨rl, b, x, y, P2, fun v hv => ?_, cs, cl⟩
  have := hm v hv
  rw [m60_eq]
  omega
theorem step_wf {P : Nat} {i : Ins} {s s' : Ms} {pl : Nat} {d : Dd} (h : WfB P s) (e : stepM i s pl = some (s', d)) : WfB P s' := by
  obtain ⟨m, rl, b, x, y, P2, _, cs, cl⟩ := h
  obtain ⟨rs, pl', dk, c⟩ := s
  have rl : rs.length = 16 := rl
  have b : dk.b ≤ 1 := b
  have x : dk.x.length = P := x
  have y : dk.y.length = P := y
  have cs : ∀ v ∈ c, 0 ≤ v ∧ v ≤ 1 := cs
  have cl : c.length ≤ 100 := cl
  have rset : ∀ (r : Nat) (v : Int), (rs.set r v).length = 16 := fun r v => by rw [List.length_set]; exact rl
  cases i with
  | pot r p => cases e; exact .mk (rset _ _) b x y P2 cs cl
  | num r v => cases e; exact .mk (rset _ _) b x y P2 cs cl
  | ar o r a b' => cases e; exact .mk (rset _ _) b x y P2 cs cl
  | toss r =>
    cases c with
    | nil => cases e; exact .mk rl b x y P2 cs cl
    | cons c0 c =>
      cases e
      refine .mk (rset _ _) b x y P2 (fun v hv => cs v (List.mem_cons_of_mem _ hv)) ?_
      show c.length ≤ 100
      rw [List.length_cons] at cl
      omega
  | under a b' to => cases e; exact .mk rl b x y P2 cs cl
  | jump to => cases e; exact .mk rl b x y P2 cs cl
  | kept r to =>
    obtain ⟨b', x', y', k⟩ := dk
    cases k with
    | none => cases e; exact .mk rl b x y P2 cs cl
    | some k => cases e; exact .mk (rset _ _) b x y P2 cs cl
  | keep r =>
    have e' : (if at_ rs r < 0 then none else some ((⟨rs, some (pl + 1), dk.keep (at_ rs r), c⟩ : Ms), Dd.keep (at_ rs r))) = some (s', d) := e
    split at e'
    · cases e'
    · cases e'
      exact .mk rl b x y P2 cs cl
  | put p r =>
    have e' : (if at_ rs r < 0 then none else some ((⟨rs, some (pl + 1), dk.put p (at_ rs r), c⟩ : Ms), Dd.put p (at_ rs r))) = some (s', d) := e
    split at e'
    · cases e'
    · cases e'
      refine .mk rl ?_ ?_ ?_ P2 cs cl
      · show (dk.put p (at_ rs r)).b ≤ 1
        unfold Dk.put
        split <;> exact b
      · show (dk.put p (at_ rs r)).x.length = P
        unfold Dk.put
        split
        · exact x
        · show (dk.x.set p (at_ rs r)).length = P
          rw [List.length_set]
          exact x
      · show (dk.put p (at_ rs r)).y.length = P
        unfold Dk.put
        split
        · show (dk.y.set p (at_ rs r)).length = P
          rw [List.length_set]
          exact y
        · exact y
  | turn =>
    cases e
    refine .mk rl ?_ x y P2 cs cl
    show 1 - dk.b ≤ 1
    omega
  | rest => cases e; exact .mk rl b x y P2 cs cl
/-- the place stays among the rows -/
theorem step_pl {size : Nat} {i : Ins} {s s' : Ms} {pl : Nat} {d : Dd} (hi : i.to size) (hpl : pl + 1 < size ∨ i = .rest) (hs : s.pl = some pl) (hlt : pl < size) (e : stepM i s pl = some (s', d)) : ∀ q, s'.pl = some q → q < size := by
  obtain ⟨rs, pl', dk, c⟩ := s
  rcases hpl with hpl | rfl
  · cases i with
    | pot r p => cases e; intro q hq; cases hq; exact hpl
    | num r v => cases e; intro q hq; cases hq; exact hpl
    | ar o r a b' => cases e; intro q hq; cases hq; exact hpl
    | toss r =>
      cases c with
      | nil => cases e; intro q hq; rw [hs] at hq; cases hq; exact hlt
      | cons c0 c => cases e; intro q hq; cases hq; exact hpl
    | under a b' to =>
      cases e
      intro q hq
      have hq : some (if at_ rs a < at_ rs b' then to else pl + 1) = some q := hq
      have hi : to < size := hi
      cases hq
      split
      · exact hi
      · exact hpl
    | jump to => cases e; intro q hq; cases hq; exact hi
    | kept r to =>
      obtain ⟨b', x', y', k⟩ := dk
      cases k with
      | none => cases e; intro q hq; cases hq; exact hi
      | some k => cases e; intro q hq; cases hq; exact hpl
    | keep r =>
      have e' : (if at_ rs r < 0 then none else some ((⟨rs, some (pl + 1), dk.keep (at_ rs r), c⟩ : Ms), Dd.keep (at_ rs r))) = some (s', d) := e
      split at e'
      · cases e'
      · cases e'; intro q hq; cases hq; exact hpl
    | put p r =>
      have e' : (if at_ rs r < 0 then none else some ((⟨rs, some (pl + 1), dk.put p (at_ rs r), c⟩ : Ms), Dd.put p (at_ rs r))) = some (s', d) := e
      split at e'
      · cases e'
      · cases e'; intro q hq; cases hq; exact hpl
    | turn => cases e; intro q hq; cases hq; exact hpl
    | rest => cases e; intro q hq; cases hq
  · cases e; intro q hq; cases hq
theorem maxI_ge : ∀ (ms : List Int) (m : Int), m ≤ maxI m ms ∧ ∀ v ∈ ms, v ≤ maxI m ms
  | [], m => ⟨Int.le_refl _, fun _ z => by cases z⟩
  | x :: ms, m => by
    obtain ⟨h1, h2⟩ := maxI_ge ms (if x > m then x else m)
    show m ≤ maxI (if x > m then x else m) ms ∧ ∀ v ∈ x :: ms, v ≤ maxI (if x > m then x else m) ms
    have hx : x ≤ (if x > m then x else m) ∧ m ≤ (if x > m then x else m) := by
      split
      · omega
      · omega
    refine ⟨Int.le_trans hx.2 h1, fun v hv => ?_⟩
    rcases List.mem_cons.mp hv with z | z
    · rw [z]
      exact Int.le_trans hx.1 h1
    · exact h2 v z
section
variable {n : Nat} {C : Calls} {ρ : Ev.Env} {S : Store}
/-- the test that a register is greater than 10 ** 60 -/
theorem b_max {w : Nat} {e : Ex} {rs : List Int} (hw : w < ρ.length) (he : (ev C e).I ρ S = .ok (rs.map D.int, none) S) (hl : rs.length = 16) : ∃ b : Bool, (ev C (Ex.cmp Cm.gt (Ex.bi Bi.max1 [Ex.lc [w] (Ex.bi Bi.abs [Ex.v w]) (Tg.v w) e []]) (Ex.bin Op2.pow (Ex.c (D.int 10)) (Ex.c (D.int 60))))).B ρ S = .ok b S ∧ (b = false → ∀ v ∈ rs, v.natAbs ≤ 10 ^ 60) := by
  have el : (ev C (Ex.lc [w] (Ex.bi Bi.abs [Ex.v w]) (Tg.v w) e [])).E ρ S = .ok (.l ((rs.map fun i => if i < 0 then -i else i).map D.int)) S := by
    rw [ev_lc, evL_ok (g := fun x => some (match x with | .int i => .int (if i < 0 then -i else i) | x => x)) he (by rw [List.length_map, hl]; decide) (fun x hx => ?_) rfl]
    · rw [fm_some, List.map_map, List.map_map]
      rfl
    · obtain ⟨i, _, rfl⟩ := List.mem_map.mp hx
      refine step1 hw ?_
      rw [ev_bi, evs_cons, evs_nil, evTs_cons, x_v (d := .int i) (by rw [List.getElem?_set_self (by rw [List.length_set]; exact hw)]), bind_ok, evTs_nil, bind_ok, bind_ok]
      rfl
  have em : ∃ m : Int, (ev C (Ex.bi Bi.max1 [Ex.lc [w] (Ex.bi Bi.abs [Ex.v w]) (Tg.v w) e []])).E ρ S = .ok (.v (.int m)) S ∧ ∀ v ∈ rs, (if v < 0 then -v else v) ≤ m := by
    rw [ev_bi, evs_cons, evs_nil, evTs_cons, el, bind_ok, evTs_nil, bind_ok, bind_ok]
    cases rs with
    | nil => cases hl
    | cons a rs =>
      obtain ⟨h1, h2⟩ := maxI_ge (rs.map fun i => if i < 0 then -i else i) (if a < 0 then -a else a)
      refine ⟨maxI (if a < 0 then -a else a) (rs.map fun i => if i < 0 then -i else i), ?_, fun v hv => ?_⟩
      · show opt ((intL (((a :: rs).map fun i => if i < 0 then -i else i).map D.int)).bind fun ns => (match ns with
          | m :: ms => some (T.v (.int (maxI m ms)))
          | [] => none)) S = _
        rw [show (((a :: rs).map fun i => if i < 0 then -i else i).map D.int) = ((a :: rs).map fun i => D.int (if i < 0 then -i else i)) by rw [List.map_map]; rfl, intL_map]
        rfl
      · rcases List.mem_cons.mp hv with z | z
        · rw [z]
          exact h1
        · exact h2 _ (List.mem_map.mpr ⟨v, z, rfl⟩)
  obtain ⟨m, em, hm⟩ := em
  have ep : (ev C (Ex.bin Op2.pow (Ex.c (D.int 10)) (Ex.c (D.int 60)))).E ρ S = .ok (.v (.int 1000000000000000000000000000000000000000000000000000000000000)) S := by kernel_rfl
  refine ⟨decide ((1000000000000000000000000000000000000000000000000000000000000 : Int) < m), ?_, fun hb v hv => ?_⟩
  · rw [ev_cmpB, em, bind_ok, ep, bind_ok]
    rfl
  · have h1 := of_decide_eq_false hb
    have h2 := hm v hv
    have e10 : (10 : Nat) ^ 60 = 1000000000000000000000000000000000000000000000000000000000000 := by decide +kernel
    rw [e10]
    split at h2 <;> omega
theorem t_step_none (n : Nat) {P : Nat} {rows : List D} {a b c : D} {S : Store} (w : WS S) : callN F (n + 5) 21 [cD P rows, .tup [a, .non, b, c]] S = .exc ⟨"Nothing", []⟩ S := by
  rw [callN_at (fd := f_step) rfl rfl]
  show fin0 (svs (n + 4) (callN F (n + 4)) (St.asg (Tg.v 6) (Ex.call 13 [Ex.v 0, Ex.v 3]) :: stepB) [some (cD P rows), some (.tup [a, .non, b, c]), some a, some .non, some b, some c, none, none] S) = _
  rw [s_asgX (x_callX (x := "Nothing") w (m_cons rfl (m_cons rfl m_nil)) (t_at_none (n + 1) w))]
  rfl
end
end K02
-- M14
set_option Elab.async false
set_option linter.all false
set_option maxRecDepth 100000
set_option maxHeartbeats 400000
/-! M14: one turn of the law's inner loop. -/
namespace K02
open PySem Ev
abbrev LC : Calls := callN F 11
abbrev LE (x0 x2 : Option D) (P size R : Nat) (x6 : Option D) (cd cs cnt oth dk st : D) (N : Nat) (x14 x15 x16 x17 x18 x19 x20 : Option D) : Ev.Env :=
  [x0, some (.ref 2), x2, some (nD P), some (nD size), some (.ref R), x6, some cd, some cs, some cnt, some oth, some dk, some st, some (.ref N), x14, x15, x16, x17, x18, x19, x20]
structure Rows (P : Nat) (rows : List Ins) : Prop where
  ok : ∀ i ∈ rows, i.ok P
  to : ∀ i ∈ rows, i.to rows.length
  last : ∀ pl i, rows[pl]? = some i → pl + 1 < rows.length ∨ i = .rest
  le : rows.length ≤ 100
theorem BG.setN {S : Store} (h : BG S) {N : Nat} {xs : List D} (h1 : N ≠ 1) (h2 : N ≠ 2) (hp : D.pures xs = true) : BG (S.set N (.lst false xs)) := by
  obtain ⟨b0, b1, b2, cs, h, h0, h3, h4⟩ := h
  exact ⟨b0, b1, b2, cs, ⟨ws_set h.w (bnds_pure _ xs hp), by rw [List.getElem?_set_ne h1]; exact h.c, by rw [List.getElem?_set_ne h2]; exact h.b⟩, h0, h3, h4⟩
section
variable {n : Nat} {C : Calls} {ρ : Ev.Env} {S : Store}
theorem s_brk1 {t : Ex} {r : List St} (h : (ev C t).B ρ S = .ok true S) : svs n C (.ite t [.brk] [] :: r) ρ S = .ok .bk ρ S := by
  rw [svs_cons, s_yes h]
  rfl
/-- the law's inner loop's body -/
def lawFor : List St := match f_law.body with
  | [_, .for _ _ b, _] => b
  | _ => []
def turnB : List St := match lawFor.getD 9 .pass with
  | .for _ _ b => b
  | _ => []
abbrev e1E : Ex := Ex.cmp Cm.ne (Ex.tup [Ex.call 9 [Ex.v 12], Ex.call 10 [Ex.v 12], Ex.call 11 [Ex.v 12], Ex.call 12 [Ex.v 12]]) (Ex.v 12)
abbrev e2E : Ex := Ex.cmp Cm.isN ((Ex.v 12).ix (Ex.c (D.int 1))) (Ex.c D.non)
abbrev e3E : Ex := Ex.cmp Cm.gt (Ex.bi Bi.max1 [Ex.lc [15] (Ex.bi Bi.abs [Ex.v 15]) (Tg.v 15) ((Ex.v 12).ix (Ex.c (D.int 0))) []]) (Ex.bin Op2.pow (Ex.c (D.int 10)) (Ex.c (D.int 60)))
abbrev e4E : Ex := Ex.cmp Cm.ne (Ex.call 13 [Ex.v 7, (Ex.v 12).ix (Ex.c (D.int 1))]) ((Ex.v 5).ix ((Ex.v 12).ix (Ex.c (D.int 1))))
abbrev e5E : Ex := Ex.cmp Cm.isN (Ex.v 16) (Ex.c D.non)
abbrev e6E : Ex := Ex.cmp Cm.ne (Ex.call 21 [Ex.v 7, Ex.v 12]) (Ex.v 16)
abbrev e7E : Ex := (Ex.cmp Cm.isN ((Ex.v 16).ix (Ex.c (D.int 1))) (Ex.c D.non)).ife (Ex.lst []) (Ex.lst [(Ex.v 16).ix (Ex.c (D.int 1))])
abbrev e8E : Ex := Ex.cmp Cm.eq ((Ex.v 16).ix (Ex.c (D.int 1))) (Ex.tup [Ex.c (D.str "empty")])
abbrev e9E : Ex := Ex.cmp Cm.ne (Ex.call 23 [Ex.v 7, Ex.call 8 [Ex.v 11, Ex.v 8], Ex.bin Op2.add (Ex.v 14) (Ex.c (D.int 1))]) (Ex.tup [Ex.v 12, Ex.bi Bi.tuple [Ex.v 13]])
abbrev retF : List St := [St.ret (Ex.c (D.bl false))]
theorem turnB_eq : turnB = [St.ite e1E retF [], St.ite (Ex.or [e2E, e3E]) [St.brk] [], St.asg (Tg.v 16) (Ex.call 28 [Ex.v 7, Ex.v 12]), St.ite e4E retF [], St.ite e5E [St.ite (Ex.isNo "Nothing" (Ex.call 21 [Ex.v 7, Ex.v 12])).not retF [], St.brk] [], St.ite e6E retF [], St.asg (Tg.v 12) ((Ex.v 16).ix (Ex.c (D.int 0))), St.ext (Ex.v 13) e7E, St.ite e8E [St.brk] [], St.ite e9E retF []] := rfl
theorem x_dl2 {i : Nat} {a : D} {d : Dd} (h : ρ[i]? = some (some (.tup [a, d.d]))) : (ev C (.ife (Ex.cmp Cm.isN ((Ex.v i).ix (Ex.c (D.int 1))) (Ex.c D.non)) (Ex.lst []) (Ex.lst [(Ex.v i).ix (Ex.c (D.int 1))]))).E ρ S = .ok (.l (d.l.map Dd.d)) S := by
  have x : (ev C ((Ex.v i).ix (Ex.c (D.int 1)))).E ρ S = .ok (.v d.d) S := x_at h rfl
  have e := b_isN (C := C) x
  cases d <;> first
    | (rw [x_ifeT e]; rfl)
    | (rw [x_ifeF e, ev_lst, evs_cons, evs_nil, evM_cons', x, bind_ok, mat_v, bind_ok, evM_nil, bind_ok, bind_ok]; rfl)
theorem ms_cons_dep {s : Ms} {d : Dd} : (D.tup [s.d, d.d]).dep ≤ 60 := by
  show max s.d.dep (max d.d.dep 0) + 1 ≤ 60
  have := s.dep
  have := d.dep
  omega
theorem dds_dep (ds : List Dd) : D.deps (ds.map Dd.d) ≤ 1 := deps_map (f := Dd.d) Dd.dep ds
theorem turn_ok {P : Nat} {rows : List Ins} {dk : Dk} {cs : List Int} {k : Nat} {s : Ms} {ds : List Dd} (hR : Rows P rows) (run : Run P rows ⟨List.replicate 16 0, some 0, dk, cs⟩ k s ds) (hk : k ≤ 100) (hd : ds.length ≤ k) (wf : WfB P s) (hp : ∀ q, s.pl = some q → q < rows.length)
    {R N : Nat} (b : BG S) (hSR : S[R]? = some (.lst false (rowsD rows))) (hSN : S[N]? = some (.lst false (ds.map Dd.d))) (hRN : N ≠ R) (hN : 2 < N) (x0 x2 x6 x15 x16 x17 x18 x19 x20 : Option D) (cnt oth : D) (size : Nat) :
    (∃ x15' x16' s' d S', svs 11 LC turnB (LE x0 x2 P size R x6 (cD P (rowsD rows)) (rD cs) cnt oth dk.d s.d N (some (.int (k : Nat))) x15 x16 x17 x18 x19 x20) S = .ok .nx (LE x0 x2 P size R x6 (cD P (rowsD rows)) (rD cs) cnt oth dk.d s'.d N (some (.int (k : Nat))) x15' x16' x17 x18 x19 x20) S' ∧
      Run P rows ⟨List.replicate 16 0, some 0, dk, cs⟩ (k + 1) s' (ds ++ Dd.l d) ∧ WfB P s' ∧ (∀ q, s'.pl = some q → q < rows.length) ∧ BG S' ∧ S'[R]? = some (.lst false (rowsD rows)) ∧ S'[N]? = some (.lst false ((ds ++ Dd.l d).map Dd.d))) ∨
    (∃ st' x15' x16' S', svs 11 LC turnB (LE x0 x2 P size R x6 (cD P (rowsD rows)) (rD cs) cnt oth dk.d s.d N (some (.int (k : Nat))) x15 x16 x17 x18 x19 x20) S = .ok .bk (LE x0 x2 P size R x6 (cD P (rowsD rows)) (rD cs) cnt oth dk.d st' N (some (.int (k : Nat))) x15' x16' x17 x18 x19 x20) S' ∧ BG S') := by
  have w := b.w
  rw [turnB_eq]
  have t1 : (ev LC e1E).B (LE x0 x2 P size R x6 (cD P (rowsD rows)) (rD cs) cnt oth dk.d s.d N (some (.int (k : Nat))) x15 x16 x17 x18 x19 x20) S = .ok false S :=
    b_neD (d := s.d) (x_tup (m_cons (x_callV w (rD_pure s.rs) (m_cons rfl m_nil) (t_get0 10 s S)) (m_cons (x_callV w (pD_pure s.pl) (m_cons rfl m_nil) (t_get1 10 s S)) (m_cons (x_callV w (Dk.pure s.dk) (m_cons rfl m_nil) (t_get2 10 s S)) (m_cons (x_callV w (rD_pure s.cs) (m_cons rfl m_nil) (t_get3 10 s S)) m_nil)))) (show 4 ≤ lim by decide)) rfl s.pure (Nat.le_trans s.dep (by decide))
  rw [s_go t1]
  have t2 : (ev LC e2E).B (LE x0 x2 P size R x6 (cD P (rowsD rows)) (rD cs) cnt oth dk.d s.d N (some (.int (k : Nat))) x15 x16 x17 x18 x19 x20) S = .ok (T.v (pD s.pl)).isNon S := b_isN rfl
  cases hpl : s.pl with
  | none =>
    rw [hpl] at t2
    exact .inr ⟨s.d, x15, x16, S, s_brk1 (by rw [ev_orB, evO_t t2]), b⟩
  | some pl =>
    rw [hpl] at t2
    have t2 : (ev LC e2E).B (LE x0 x2 P size R x6 (cD P (rowsD rows)) (rD cs) cnt oth dk.d s.d N (some (.int (k : Nat))) x15 x16 x17 x18 x19 x20) S = .ok false S := t2
    obtain ⟨m0, wf0⟩ := id wf
    obtain ⟨bb, t3, hb⟩ := b_max (C := LC) (ρ := LE x0 x2 P size R x6 (cD P (rowsD rows)) (rD cs) cnt oth dk.d s.d N (some (.int (k : Nat))) x15 x16 x17 x18 x19 x20) (S := S) (w := 15) (e := (Ex.v 12).ix (Ex.c (D.int 0))) (rs := s.rs) (show 15 < 21 by decide) rfl wf0.rl
    cases bb with
    | true => exact .inr ⟨s.d, x15, x16, S, s_brk1 (by rw [ev_orB, evO_f t2, evO_t t3]), b⟩
    | false =>
      have hm := hb rfl
      have w60 := wf.to60 hm
      have hlt := hp pl hpl
      have hri : rows[pl]? = some rows[pl] := List.getElem?_eq_getElem hlt
      generalize rows[pl] = i at hri
      have hmem : i ∈ rows := List.mem_of_getElem? hri
      have hr2 : (rowsD rows)[pl]? = some i.d := by
        show (rows.map Ins.d)[pl]? = _
        rw [List.getElem?_map, hri]
        rfl
      have ip : i.d.pure = true := by cases i <;> rfl
      have idep : i.d.dep ≤ 60 := by cases i <;> simp [Ins.d, D.dep, D.deps, nD]
      rw [s_go (by rw [ev_orB, evO_f t2, evO_f t3]; rfl)]
      obtain ⟨G, eo⟩ := t_own 10 (hR.ok i hmem) wf0 hm hpl hr2 S
      have s3 : sv 11 LC (St.asg (Tg.v 16) (Ex.call 28 [Ex.v 7, Ex.v 12])) (LE x0 x2 P size R x6 (cD P (rowsD rows)) (rD cs) cnt oth dk.d s.d N (some (.int (k : Nat))) x15 x16 x17 x18 x19 x20) S = .ok .nx (LE x0 x2 P size R x6 (cD P (rowsD rows)) (rD cs) cnt oth dk.d s.d N (some (.int (k : Nat))) x15 (some (ownD (stepM i s pl))) x17 x18 x19 x20) S :=
        s_asg (show 16 < 21 by decide) (x_call (m_cons rfl (m_cons rfl m_nil)) ((congrArg (fin S.length) eo).trans (fin_v w (ownD_pure _))))
      rw [s_step s3]
      have epl : (ev LC ((Ex.v 12).ix (Ex.c (D.int 1)))).E (LE x0 x2 P size R x6 (cD P (rowsD rows)) (rD cs) cnt oth dk.d s.d N (some (.int (k : Nat))) x15 (some (ownD (stepM i s pl))) x17 x18 x19 x20) S = .ok (.v (nD pl)) S := by
        have z : (ev LC ((Ex.v 12).ix (Ex.c (D.int 1)))).E (LE x0 x2 P size R x6 (cD P (rowsD rows)) (rD cs) cnt oth dk.d s.d N (some (.int (k : Nat))) x15 (some (ownD (stepM i s pl))) x17 x18 x19 x20) S = .ok (.v (pD s.pl)) S := rfl
        rw [z, hpl]
        rfl
      have t4 : (ev LC e4E).B (LE x0 x2 P size R x6 (cD P (rowsD rows)) (rD cs) cnt oth dk.d s.d N (some (.int (k : Nat))) x15 (some (ownD (stepM i s pl))) x17 x18 x19 x20) S = .ok false S :=
        b_neD (d := i.d) (x_callV w ip (m_cons rfl (m_cons epl m_nil)) (t_at 8 w hr2)) (x_ixL rfl epl hSR (atI_nat hr2)) ip idep
      rw [s_go t4]
      have est := t_step 6 (hR.ok i hmem) w60 hpl hr2 w
      cases hs : stepM i s pl with
      | none =>
        rw [hs] at est
        have t5 : (ev LC e5E).B (LE x0 x2 P size R x6 (cD P (rowsD rows)) (rD cs) cnt oth dk.d s.d N (some (.int (k : Nat))) x15 (some (ownD none)) x17 x18 x19 x20) S = .ok true S := rfl
        refine .inr ⟨s.d, x15, some (ownD none), S, ?_, b⟩
        rw [svs_cons, s_yes t5, s_go (b_isNo w (x_callX w (m_cons rfl (m_cons rfl m_nil)) est))]
        rfl
      | some q =>
        obtain ⟨s', d⟩ := q
        rw [hs] at est
        have t5 : (ev LC e5E).B (LE x0 x2 P size R x6 (cD P (rowsD rows)) (rD cs) cnt oth dk.d s.d N (some (.int (k : Nat))) x15 (some (ownD (some (s', d)))) x17 x18 x19 x20) S = .ok false S := rfl
        have qp := ownD_pure (some (s', d))
        have t6 : (ev LC e6E).B (LE x0 x2 P size R x6 (cD P (rowsD rows)) (rD cs) cnt oth dk.d s.d N (some (.int (k : Nat))) x15 (some (ownD (some (s', d)))) x17 x18 x19 x20) S = .ok false S :=
          b_neD (d := ownD (some (s', d))) (x_callV w qp (m_cons rfl (m_cons rfl m_nil)) est) rfl qp ms_cons_dep
        rw [s_go t5, s_go t6]
        have s7 : sv 11 LC (St.asg (Tg.v 12) ((Ex.v 16).ix (Ex.c (D.int 0)))) (LE x0 x2 P size R x6 (cD P (rowsD rows)) (rD cs) cnt oth dk.d s.d N (some (.int (k : Nat))) x15 (some (ownD (some (s', d)))) x17 x18 x19 x20) S = .ok .nx (LE x0 x2 P size R x6 (cD P (rowsD rows)) (rD cs) cnt oth dk.d s'.d N (some (.int (k : Nat))) x15 (some (ownD (some (s', d)))) x17 x18 x19 x20) S := rfl
        rw [s_step s7]
        have hdl : d.l.length ≤ 1 := Dd.l_len d
        have s8 := s_ext (n := 11) (C := LC) (ρ := LE x0 x2 P size R x6 (cD P (rowsD rows)) (rD cs) cnt oth dk.d s'.d N (some (.int (k : Nat))) x15 (some (ownD (some (s', d)))) x17 x18 x19 x20) (S := S) (o := Ex.v 13) (e := e7E) (k := N) (xs := ds.map Dd.d) (ys := d.l.map Dd.d) rfl (x_dl2 (d := d) rfl) hSN (by rw [List.length_map, List.length_map]; exact Nat.le_trans (Nat.add_le_add (Nat.le_trans hd hk) hdl) (by decide))
        rw [← List.map_append] at s8
        rw [s_step s8]
        have b8 := b.setN (N := N) (xs := (ds ++ d.l).map Dd.d) (by omega) (by omega) (dds_pure _)
        have hNl : N < S.length := (List.getElem?_eq_some_iff.mp hSN).1
        have g8 : (S.set N (.lst false ((ds ++ d.l).map Dd.d)))[N]? = some (.lst false ((ds ++ d.l).map Dd.d)) := List.getElem?_set_self hNl
        have gR : (S.set N (.lst false ((ds ++ d.l).map Dd.d)))[R]? = some (.lst false (rowsD rows)) := by
          rw [List.getElem?_set_ne hRN]
          exact hSR
        generalize S.set N (.lst false ((ds ++ d.l).map Dd.d)) = S2 at b8 g8 gR
        have w8 := b8.w
        have t8 : (ev LC e8E).B (LE x0 x2 P size R x6 (cD P (rowsD rows)) (rD cs) cnt oth dk.d s'.d N (some (.int (k : Nat))) x15 (some (ownD (some (s', d)))) x17 x18 x19 x20) S2 = .ok d.isE S2 := by
          rw [ev_cmpB]
          show opt (cmp2 .eq (.v d.d) (.v (.tup [.str "empty"])) S2) S2 = _
          rw [eq_empty]
          rfl
        cases he : d.isE with
        | true =>
          rw [he] at t8
          exact .inr ⟨s'.d, x15, _, S2, s_brk1 t8, b8⟩
        | false =>
          rw [he] at t8
          have run' := run.succ hpl hri (hR.ok i hmem) w60 hs he
          have wf' := step_wf wf hs
          have pl' := step_pl (hR.to i hmem) (hR.last pl i hri) hpl hlt hs
          refine .inl ⟨x15, some (ownD (some (s', d))), s', d, S2, ?_, run', wf', pl', b8, gR, g8⟩
          have eg := t_gone 5 run' (by omega) w8
          have gp : (D.tup [s'.d, .tup ((ds ++ d.l).map Dd.d)]).pure = true := by
            show (s'.d.pure && (D.pures ((ds ++ d.l).map Dd.d) && true)) = true
            rw [Ms.pure, dds_pure]
            rfl
          have gd : (D.tup [s'.d, .tup ((ds ++ d.l).map Dd.d)]).dep ≤ 60 := by
            show max s'.d.dep (max (D.deps ((ds ++ d.l).map Dd.d) + 1) 0) + 1 ≤ 60
            have := s'.dep
            have := dds_dep (ds ++ d.l)
            omega
          have t9 : (ev LC e9E).B (LE x0 x2 P size R x6 (cD P (rowsD rows)) (rD cs) cnt oth dk.d s'.d N (some (.int (k : Nat))) x15 (some (ownD (some (s', d)))) x17 x18 x19 x20) S2 = .ok false S2 :=
            b_neD (d := .tup [s'.d, .tup ((ds ++ d.l).map Dd.d)]) (x_call (m_cons (e := Ex.v 7) rfl (m_cons (x_callV w8 (Ms.pure _) (m_cons rfl (m_cons rfl m_nil)) (t_begin 10 dk cs S2)) (m_cons (x_succ (j := k) rfl) m_nil))) ((congrArg (fin S2.length) eg).trans (fin_v w8 gp))) (x_tup (m_cons rfl (m_cons (x_tupL rfl g8) m_nil)) (show 2 ≤ lim by decide)) gp gd
          rw [s_go t8, s_go t9]
          rfl
end
end K02
-- M15
set_option Elab.async false
set_option linter.all false
set_option maxRecDepth 100000
set_option maxHeartbeats 400000
/-! M15: the law's inner loop, what is no disk, what raises. -/
namespace K02
open PySem Ev
section
variable {n : Nat} {C : Calls} {ρ : Ev.Env} {S : Store}
abbrev for30 : St := St.for (Tg.v 14) (Ex.bi Bi.range [Ex.c (D.int 30)]) turnB
theorem inner_ok {P : Nat} {rows : List Ins} {dk : Dk} {cs : List Int} (hR : Rows P rows) (wf : WfB P ⟨List.replicate 16 0, some 0, dk, cs⟩) (h0 : 0 < rows.length) {R N : Nat} (b : BG S) (hSR : S[R]? = some (.lst false (rowsD rows))) (hSN : S[N]? = some (.lst false [])) (hRN : N ≠ R) (hN : 2 < N) (x0 x2 x6 x14 x15 x16 x17 x18 x19 x20 : Option D) (cnt oth : D) (size : Nat) :
    ∃ st' x14' x15' x16' S', sv 11 LC for30 (LE x0 x2 P size R x6 (cD P (rowsD rows)) (rD cs) cnt oth dk.d (Ms.d ⟨List.replicate 16 0, some 0, dk, cs⟩) N x14 x15 x16 x17 x18 x19 x20) S = .ok .nx (LE x0 x2 P size R x6 (cD P (rowsD rows)) (rD cs) cnt oth dk.d st' N x14' x15' x16' x17 x18 x19 x20) S' ∧ BG S' := by
  have it : (ev LC (Ex.bi Bi.range [Ex.c (D.int 30)])).I (LE x0 x2 P size R x6 (cD P (rowsD rows)) (rD cs) cnt oth dk.d (Ms.d ⟨List.replicate 16 0, some 0, dk, cs⟩) N x14 x15 x16 x17 x18 x19 x20) S = .ok (intsFrom 0 30, none) S := by
    rw [ev_biI, evs_cons, evs_nil, evTs_cons, x_c, bind_ok, evTs_nil, bind_ok, bind_ok, if_pos (show isIt Bi.range = true from rfl), show itF .range [.v (.int 30)] S = some (intsFrom 0 30, none) from itF_range 30 (by decide) S]
    rfl
  obtain ⟨ρ', S', e, st', x14', x15', x16', hρ, hb⟩ := loopS_idx (f := turnS 11 LC (.v 14) turnB)
    (I := fun j ρ S => ∃ s ds y14 y15 y16, ρ = LE x0 x2 P size R x6 (cD P (rowsD rows)) (rD cs) cnt oth dk.d (Ms.d s) N y14 y15 y16 x17 x18 x19 x20 ∧ Run P rows ⟨List.replicate 16 0, some 0, dk, cs⟩ j s ds ∧ ds.length ≤ j ∧ WfB P s ∧ (∀ q, s.pl = some q → q < rows.length) ∧ BG S ∧ S[R]? = some (.lst false (rowsD rows)) ∧ S[N]? = some (.lst false (ds.map Dd.d)))
    (Q := fun ρ S => ∃ st' y14 y15 y16, ρ = LE x0 x2 P size R x6 (cD P (rowsD rows)) (rD cs) cnt oth dk.d st' N y14 y15 y16 x17 x18 x19 x20 ∧ BG S) 30 0
    (fun j ρ S _ hj hI => by
      obtain ⟨s, ds, y14, y15, y16, rfl, run, hd, wf, hp, b, g1, g2⟩ := hI
      rw [turn_v (show 14 < 21 by decide)]
      rcases turn_ok hR run (by omega) hd wf hp b g1 g2 hRN hN x0 x2 x6 y15 y16 x17 x18 x19 x20 cnt oth size with ⟨z15, z16, s', d, S', e, q1, q2, q3, q4, q5, q6⟩ | ⟨st', z15, z16, S', e, q⟩
      · exact .inl ⟨_, S', e, s', ds ++ d.l, _, z15, z16, rfl, q1, by rw [List.length_append]; have := Dd.l_len d; omega, q2, q3, q4, q5, q6⟩
      · exact .inr ⟨_, S', e, st', _, z15, z16, rfl, q⟩)
    (fun ρ S hI => by
      obtain ⟨s, ds, y14, y15, y16, rfl, run, hd, wf, hp, b, g1, g2⟩ := hI
      exact ⟨_, y14, y15, y16, rfl, b⟩) _ S ⟨⟨List.replicate 16 0, some 0, dk, cs⟩, [], x14, x15, x16, rfl, .zero, Nat.le_refl _, wf, fun q hq => by cases hq; exact h0, b, hSR, hSN⟩
  subst hρ
  exact ⟨st', x14', x15', x16', S', s_for (o := none) it e, hb⟩
theorem step_none {w : Nat} {e : Sm} {c : Ex} {x : D} (hw : w < ρ.length) (h : (ev C c).B ((ρ.set w none).set w (some x)) S = .ok false S) : stepC [w] e (.v w) (evs C [c]) ρ x S = .ok none S := by
  unfold stepC
  have ea : asg (.v w) x (wipeE ρ [w]) = some ((ρ.set w none).set w (some x)) := by
    show (if w < (ρ.set w none).length then some ((ρ.set w none).set w (some x)) else none) = _
    rw [List.length_set, if_pos hw]
  rw [ea]
  show ((evC (evs C [c]) ((ρ.set w none).set w (some x)) S).bind fun k S3 => if k then (e.E ((ρ.set w none).set w (some x)) S3).bind fun t S4 => (mat t S4).bind fun d S5 => R.ok (some d) S5 else .ok none S3) = _
  rw [evs_cons, evs_nil, evC_cons, h, bind_ok]
  rfl
abbrev badL : List D := [.non, .tup [.int 2, .tup [.tup [.int 0], .tup [.int 0]], .non], .tup [.int 0, .tup [.tup [.int 0]], .non], .tup [.int 0, .tup [.tup [.int 0], .tup [.int 0]], .int (-1)], .tup [.int 0, .tup [.tup [.int (-1)], .tup [.int 0]], .non]]
theorem bad_no {S : Store} (w : WS S) : ∀ x ∈ badL, callN F 11 7 [x, .int (1 : Nat)] S = .ok (.v (.bl false)) S := by
  intro x hx
  simp only [List.mem_cons, List.not_mem_nil, or_false] at hx
  have l1 : ∀ x ∈ ([[0], [0]] : List (List Int)), x.length ≤ lim := fun x hx => by
    simp only [List.mem_cons, List.not_mem_nil, or_false] at hx
    rcases hx with rfl | rfl <;> decide
  have l2 : ∀ x ∈ ([[0]] : List (List Int)), x.length ≤ lim := fun x hx => by
    simp only [List.mem_cons, List.not_mem_nil, or_false] at hx
    rcases hx with rfl
    decide
  have l3 : ∀ x ∈ ([[-1], [0]] : List (List Int)), x.length ≤ lim := fun x hx => by
    simp only [List.mem_cons, List.not_mem_nil, or_false] at hx
    rcases hx with rfl | rfl <;> decide
  rcases hx with rfl | rfl | rfl | rfl | rfl
  · exact t_disk0 6 _ S
  · exact t_disk 6 2 [[0], [0]] none 1 w l1 (by decide)
  · exact t_disk 6 0 [[0]] none 1 w l2 (by decide)
  · exact t_disk 6 0 [[0], [0]] (some (-1)) 1 w l1 (by decide)
  · exact t_disk 6 0 [[-1], [0]] none 1 w l3 (by decide)
abbrev badC : Ex := Ex.cmp Cm.ne (Ex.lc [18] (Ex.v 18) (Tg.v 18) (Ex.v 17) [Ex.call 7 [Ex.v 18, Ex.c (D.int 1)]]) (Ex.lst [])
theorem b_bad {K : Nat} (h17 : ρ[17]? = some (some (.ref K))) (hl : ρ.length = 21) (w : WS S) (hK : S[K]? = some (.lst false badL)) : (ev LC badC).B ρ S = .ok false S := by
  have w2 := ws_lock w hK
  have el : (ev LC (Ex.lc [18] (Ex.v 18) (Tg.v 18) (Ex.v 17) [Ex.call 7 [Ex.v 18, Ex.c (D.int 1)]])).E ρ S = .ok (.l []) S := by
    rw [ev_lc, evL_ok (g := fun _ => none) (it_lst h17 hK) (show badL.length ≤ lim from (by decide)) (fun x hx => step_none (by omega) ?_) (lockL_back hK)]
    · rfl
    · exact b_call (x_callV (d := .bl false) w2 rfl (m_cons (x_v (by rw [List.getElem?_set_self (by rw [List.length_set]; omega)])) (m_cons rfl m_nil)) (bad_no w2 x hx))
  rw [ev_cmpB, el, bind_ok]
  rfl
theorem nots_step {e : Ex} {es : List Ex} (w : WS S) (h : (ev C e).E ρ S = .exc ⟨"Nothing", []⟩ S) : notsS "Nothing" (evs C (e :: es)) ρ S = notsS "Nothing" (evs C es) ρ S := by
  show (match fin S.length ((ev C e).E ρ S) with
    | .exc x S1 => if x.cls = "Nothing" then notsS "Nothing" (evs C es) ρ S1 else .bad
    | _ => .bad) = _
  rw [h]
  have z := fin_exc (G := []) (x := "Nothing") w
  rw [List.append_nil] at z
  rw [z]
  rfl
abbrev notsT : St := St.nots "Nothing" 19 [Ex.call 13 [Ex.v 7, Ex.v 4], Ex.call 21 [Ex.v 7, Ex.tup [Ex.bin Op2.mul (Ex.tup [Ex.c (D.int 0)]) (Ex.c (D.int 16)), Ex.c D.non, Ex.v 11, Ex.tup []]]]
theorem nots_ok {P : Nat} {rows : List Ins} {dk : D} (hl : ρ.length = 21) (h4 : ρ[4]? = some (some (nD rows.length))) (h7 : ρ[7]? = some (some (cD P (rowsD rows)))) (h11 : ρ[11]? = some (some dk)) (w : WS S) : sv 11 LC notsT ρ S = .ok .nx (ρ.set 19 none) S := by
  show (if 19 < ρ.length then notsS "Nothing" (evs LC [Ex.call 13 [Ex.v 7, Ex.v 4], Ex.call 21 [Ex.v 7, Ex.tup [Ex.bin Op2.mul (Ex.tup [Ex.c (D.int 0)]) (Ex.c (D.int 16)), Ex.c D.non, Ex.v 11, Ex.tup []]]]) (ρ.set 19 none) S else .bad) = _
  rw [if_pos (by omega)]
  have g4 : (ρ.set 19 none)[4]? = some (some (nD rows.length)) := by rw [List.getElem?_set_ne (by decide)]; exact h4
  have g7 : (ρ.set 19 none)[7]? = some (some (cD P (rowsD rows))) := by rw [List.getElem?_set_ne (by decide)]; exact h7
  have g11 : (ρ.set 19 none)[11]? = some (some dk) := by rw [List.getElem?_set_ne (by decide)]; exact h11
  have ln : (rowsD rows).length = rows.length := List.length_map _
  have z := t_at_no 8 (P := P) (rows := rowsD rows) w
  rw [ln] at z
  rw [nots_step w (x_callX w (m_cons (x_v g7) (m_cons (x_v g4) m_nil)) z), nots_step w (x_callX w (m_cons (x_v g7) (m_cons (x_tup (m_cons (x_zeros (k := 16) (by decide) rfl) (m_cons rfl (m_cons (x_v g11) (m_cons (x_tup m_nil (show 0 ≤ lim by decide)) m_nil)))) (show 4 ≤ lim by decide)) m_nil)) (t_step_none 6 w))]
  rfl
end
end K02
-- M16
set_option Elab.async false
set_option linter.all false
set_option maxRecDepth 100000
set_option maxHeartbeats 400000
/-! M16: one lap of the law. -/
namespace K02
open PySem Ev
section
variable {n : Nat} {C : Calls} {ρ : Ev.Env} {S : Store}
theorem x_addN {a b : Ex} {i j : Nat} {S1 S2 : Store} (ha : (ev C a).E ρ S = .ok (.v (nD i)) S1) (hb : (ev C b).E ρ S1 = .ok (.v (nD j)) S2) : (ev C (.bin .add a b)).E ρ S = .ok (.v (nD (i + j))) S2 := by
  rw [x_add ha hb]
  rfl
theorem x_subN {a b : Ex} {i j : Nat} {S1 S2 : Store} (h : j ≤ i) (ha : (ev C a).E ρ S = .ok (.v (nD i)) S1) (hb : (ev C b).E ρ S1 = .ok (.v (nD j)) S2) : (ev C (.bin .sub a b)).E ρ S = .ok (.v (nD (i - j))) S2 := by
  rw [x_sub ha hb, show ((i : Nat) : Int) - (j : Nat) = ((i - j : Nat) : Int) by omega]
  rfl
theorem x_addL {a b : Ex} {xs ys : List D} {S1 S2 : Store} (ha : (ev C a).E ρ S = .ok (.l xs) S1) (hb : (ev C b).E ρ S1 = .ok (.l ys) S2) (hl : xs.length + ys.length ≤ lim) : (ev C (.bin .add a b)).E ρ S = .ok (.l (xs ++ ys)) S2 := by
  rw [ev_bin, ha, bind_ok, hb, bind_ok]
  show opt (if xs.length + ys.length ≤ lim then some (T.l (xs ++ ys)) else none) S2 = _
  rw [if_pos hl]
  rfl
theorem s_asgL1 {i : Nat} {e : Ex} {xs : List D} {S1 : Store} (hi : i < ρ.length) (h : (ev C e).E ρ S = .ok (.l xs) S1) : sv n C (.asg (.v i) e) ρ S = .ok .nx (ρ.set i (some (.ref S1.length))) (S1 ++ [.lst false xs]) := by
  rw [sv_asg, h, bind_ok, mat_l, thenS_ok]
  show (match (if i < ρ.length then some (ρ.set i (some (.ref S1.length))) else none) with | some ρ' => SR.ok .nx ρ' (S1 ++ [Cell.lst false xs]) | none => .bad) = _
  rw [if_pos hi]
theorem x_tupT {e : Ex} {xs : List D} {S1 : Store} (h : (ev C e).E ρ S = .ok (.l xs) S1) : (ev C (.bi .tuple [e])).E ρ S = .ok (.v (.tup xs)) S1 := by
  rw [ev_bi, evs_cons, evs_nil, evTs_cons, h, bind_ok, evTs_nil, bind_ok, bind_ok]
  rfl
theorem x_lst {es : List Ex} {ds : List D} {S1 : Store} (h : evM (evs C es) ρ S = .ok ds S1) (hl : ds.length ≤ lim) : (ev C (.lst es)).E ρ S = .ok (.l ds) S1 := by
  rw [ev_lst, h, bind_ok, if_pos hl]
theorem x_callG {f : Nat} {es : List Ex} {ds : List D} {S1 : Store} {r : R T} (h : evM (evs C es) ρ S = .ok ds S1) (hc : fin S.length (C f ds S1) = r) : (ev C (.call f es)).E ρ S = r := by
  rw [ev_call, h, bind_ok]
  exact hc
/-- rows of small numbers that are drawn -/
theorem x_row (hC : Tk C) {w M k : Nat} {p : Ex} {S0 : Store} (hw : w < ρ.length) (hw1 : w ≠ 1) (h1 : ρ[1]? = some (some (.ref 2))) (hM : 0 < M) (hM9 : M ≤ 100) (hk : k ≤ 1000) (hp : (ev C p).E ρ S = .ok (.v (nD k)) S0) (b : BG S0) :
    ∃ (cs : List Int) (T : Store), cs.length = k ∧ (∀ c ∈ cs, 0 ≤ c ∧ c < M) ∧ Nx S0 T ∧ (ev C (.bi .tuple [.lc [w] (.call 25 [.v 1, .c (.int (M : Nat))]) (.v w) (.bi .range [p]) []])).E ρ S = .ok (.v (rD cs)) T := by
  obtain ⟨ds, T, h2, h3, h4, e⟩ := lc_ev (C := C) (e := .call 25 [.v 1, .c (.int (M : Nat))]) (Q := fun d => ∃ i : Int, (0 ≤ i ∧ i < M) ∧ d = .int i) hw hk hp b (fun x T bT => by
    have g1 : ((ρ.set w none).set w (some x))[1]? = some (some (.ref 2)) := by
      rw [List.getElem?_set_ne hw1, List.getElem?_set_ne hw1]
      exact h1
    obtain ⟨v, T', hv, nx, e⟩ := x_tk hC (b := 1) (e := .c (.int (M : Nat))) (M := M) g1 x_c hM hM9 bT
    exact ⟨nD v, T', ⟨(v : Nat), ⟨by omega, by omega⟩, rfl⟩, nx, e⟩)
  obtain ⟨cs, rfl, hcs⟩ := pull h3
  exact ⟨cs, T, by rw [← h2, List.length_map], hcs, h4, x_tupT e⟩
abbrev LL (x0 x2 x3 x4 x5 x6 x7 x8 x9 x10 x11 x12 x13 x14 x15 x16 x17 x18 x19 x20 : Option D) : Ev.Env := [x0, some (.ref 2), x2, x3, x4, x5, x6, x7, x8, x9, x10, x11, x12, x13, x14, x15, x16, x17, x18, x19, x20]
abbrev p1 : St := St.asg (Tg.tup [Tg.v 3, Tg.v 4]) (Ex.tup [Ex.bin Op2.add (Ex.c (D.int 1)) (Ex.call 25 [Ex.v 1, Ex.c (D.int 2)]), Ex.bin Op2.add (Ex.c (D.int 4)) (Ex.call 25 [Ex.v 1, Ex.c (D.int 8)])])
abbrev p2 : St := St.asg (Tg.v 5) (Ex.bin Op2.add (Ex.lc [6] (Ex.call 27 [Ex.v 1, Ex.v 3, Ex.v 4]) (Tg.v 6) (Ex.bi Bi.range [Ex.bin Op2.sub (Ex.v 4) (Ex.c (D.int 1))]) []) (Ex.lst [Ex.tup [Ex.c (D.str "rest")]]))
abbrev p3 : St := St.asg (Tg.tup [Tg.v 7, Tg.v 8]) (Ex.tup [Ex.tup [Ex.c (D.str "w"), Ex.v 3, Ex.bi Bi.tuple [Ex.v 5]], Ex.bi Bi.tuple [Ex.lc [6] (Ex.call 25 [Ex.v 1, Ex.c (D.int 2)]) (Tg.v 6) (Ex.bi Bi.range [Ex.call 25 [Ex.v 1, Ex.c (D.int 7)]]) []]])
abbrev p4 (i : Nat) : St := St.asg (Tg.v i) (Ex.bi Bi.tuple [Ex.lc [6] (Ex.call 25 [Ex.v 1, Ex.c (D.int 4)]) (Tg.v 6) (Ex.bi Bi.range [Ex.v 3]) []])
abbrev dskE : Ex := Ex.lst [Ex.call 4 [Ex.v 9], Ex.tup [Ex.c (D.int 1), Ex.tup [Ex.v 10, Ex.v 9], Ex.c (D.int 2)], Ex.tup [Ex.c (D.int 0), Ex.tup [Ex.v 9, Ex.v 10], Ex.c D.non]]
abbrev p6 : St := St.asg (Tg.v 11) (Ex.call 26 [Ex.v 1, dskE])
abbrev t7 : Ex := Ex.or [Ex.cmp Cm.ne (Ex.call 5 [Ex.v 11]) (Ex.v 9), (Ex.call 7 [Ex.v 11, Ex.v 3]).not, Ex.cmp Cm.ne (Ex.call 4 [Ex.v 9]) (Ex.tup [Ex.c (D.int 0), Ex.tup [Ex.v 9, Ex.bin Op2.mul (Ex.tup [Ex.c (D.int 0)]) (Ex.v 3)], Ex.c D.non])]
abbrev p8 : St := St.asg (Tg.tup [Tg.v 12, Tg.v 13]) (Ex.tup [Ex.call 8 [Ex.v 11, Ex.v 8], Ex.lst []])
abbrev t9 : Ex := Ex.cmp Cm.ne (Ex.v 12) (Ex.tup [Ex.bin Op2.mul (Ex.tup [Ex.c (D.int 0)]) (Ex.c (D.int 16)), Ex.c (D.int 0), Ex.v 11, Ex.v 8])
abbrev p11 : St := St.asg (Tg.v 17) (Ex.lst [Ex.c D.non, Ex.tup [Ex.c (D.int 2), Ex.tup [Ex.tup [Ex.c (D.int 0)], Ex.tup [Ex.c (D.int 0)]], Ex.c D.non], Ex.tup [Ex.c (D.int 0), Ex.tup [Ex.tup [Ex.c (D.int 0)]], Ex.c D.non], Ex.tup [Ex.c (D.int 0), Ex.tup [Ex.tup [Ex.c (D.int 0)], Ex.tup [Ex.c (D.int 0)]], (Ex.c (D.int 1)).neg], Ex.tup [Ex.c (D.int 0), Ex.tup [Ex.tup [(Ex.c (D.int 1)).neg], Ex.tup [Ex.c (D.int 0)]], Ex.c D.non]])
theorem lawFor_eq : lawFor = [p1, p2, p3, p4 9, p4 10, p6, St.ite t7 retF [], p8, St.ite t9 retF [], for30, p11, St.ite badC retF [], notsT] := rfl
theorem wf_dk {P : Nat} {dk : Dk} {cs : List Int} (hb : dk.b ≤ 1) (hx : dk.x.length = P) (hy : dk.y.length = P) (hP : P ≤ 2) (hc : ∀ c ∈ cs, 0 ≤ c ∧ c < (2 : Nat)) (hl : cs.length ≤ 100) : WfB P ⟨List.replicate 16 0, some 0, dk, cs⟩ :=
  .mk rfl hb hx hy hP (fun c h => ⟨(hc c h).1, by have := (hc c h).2; omega⟩) hl
theorem lap_ok (b0 : BG S) (x0 x2 x3 x4 x5 x6 x7 x8 x9 x10 x11 x12 x13 x14 x15 x16 x17 x18 x19 x20 : Option D) : ∃ y3 y4 y5 y6 y7 y8 y9 y10 y11 y12 y13 y14 y15 y16 y17 y18 y19 y20 S',
    svs 11 LC lawFor (LL x0 x2 x3 x4 x5 x6 x7 x8 x9 x10 x11 x12 x13 x14 x15 x16 x17 x18 x19 x20) S = .ok .nx (LL x0 x2 y3 y4 y5 y6 y7 y8 y9 y10 y11 y12 y13 y14 y15 y16 y17 y18 y19 y20) S' ∧ BG S' := by
  have hC : Tk LC := tk_F 10
  rw [lawFor_eq]
  -- how many pots, how many instructions
  obtain ⟨p, T1, hp, nx1, e1⟩ := x_tk hC (ρ := LL x0 x2 x3 x4 x5 x6 x7 x8 x9 x10 x11 x12 x13 x14 x15 x16 x17 x18 x19 x20) (b := 1) (e := .c (.int 2)) (M := 2) rfl rfl (by decide) (by decide) b0
  have b1 := nx1.bg b0
  obtain ⟨z, T2, hz, nx2, e2⟩ := x_tk hC (ρ := LL x0 x2 x3 x4 x5 x6 x7 x8 x9 x10 x11 x12 x13 x14 x15 x16 x17 x18 x19 x20) (b := 1) (e := .c (.int 8)) (M := 8) rfl rfl (by decide) (by decide) b1
  have b2 := nx2.bg b1
  have s1 : sv 11 LC p1 (LL x0 x2 x3 x4 x5 x6 x7 x8 x9 x10 x11 x12 x13 x14 x15 x16 x17 x18 x19 x20) S = .ok .nx (LL x0 x2 (some (nD (1 + p))) (some (nD (4 + z))) x5 x6 x7 x8 x9 x10 x11 x12 x13 x14 x15 x16 x17 x18 x19 x20) T2 :=
    s_asg2 (show 3 < 21 by decide) (show 4 < 21 by decide) (x_addN (i := 1) rfl e1) (x_addN (i := 4) rfl e2)
  rw [s_step s1]
  have hP0 : 0 < 1 + p := by omega
  have hP2 : 1 + p ≤ 2 := by omega
  have hz1 : 4 ≤ 4 + z := by omega
  have hz2 : 4 + z ≤ 100 := by omega
  generalize 1 + p = P at hP0 hP2 ⊢
  generalize 4 + z = size at hz1 hz2 ⊢
  -- the instructions
  obtain ⟨ds, T3, hl3, h3, nx3, e3⟩ := lc_ev (C := LC) (ρ := LL x0 x2 (some (nD P)) (some (nD size)) x5 x6 x7 x8 x9 x10 x11 x12 x13 x14 x15 x16 x17 x18 x19 x20) (S := T2) (S0 := T2) (w := 6) (k := size - 1) (e := .call 27 [.v 1, .v 3, .v 4]) (p := .bin .sub (.v 4) (.c (.int 1))) (Q := fun d => ∃ q : Ins, (q.ok P ∧ q.to size) ∧ d = q.d) (show 6 < 21 by decide) (by omega) (x_subN (i := size) (j := 1) (by omega) rfl rfl) b2 (fun x T bT => by
    obtain ⟨q, T', q1, q2, nx, e⟩ := t_ins 8 (S := T) hP0 hP2 (by omega) hz2 bT
    have ip : q.d.pure = true := by cases q <;> rfl
    exact ⟨q.d, T', ⟨q, ⟨q1, q2⟩, rfl⟩, nx, x_call (m_cons rfl (m_cons rfl (m_cons rfl m_nil))) ((congrArg (fin T.length) e).trans (fin_pop (nx.bg bT).w nx.len ip))⟩)
  have b3 := nx3.bg b2
  obtain ⟨l, rfl, hl⟩ := pull h3
  rw [List.length_map] at hl3
  have hrd : l.map Ins.d ++ [D.tup [.str "rest"]] = rowsD (l ++ [Ins.rest]) := by
    show _ = (l ++ [Ins.rest]).map Ins.d
    rw [List.map_append]
    rfl
  have s2 : sv 11 LC p2 (LL x0 x2 (some (nD P)) (some (nD size)) x5 x6 x7 x8 x9 x10 x11 x12 x13 x14 x15 x16 x17 x18 x19 x20) T2 = .ok .nx (LL x0 x2 (some (nD P)) (some (nD size)) (some (.ref T3.length)) x6 x7 x8 x9 x10 x11 x12 x13 x14 x15 x16 x17 x18 x19 x20) (T3 ++ [.lst false (rowsD (l ++ [.rest]))]) := by
    rw [← hrd]
    exact s_asgL1 (show 5 < 21 by decide) (x_addL e3 (x_lst (ds := [.tup [.str "rest"]]) rfl (show 1 ≤ lim by decide)) (by rw [List.length_map, hl3]; show size - 1 + 1 ≤ lim; exact Nat.le_trans (show size - 1 + 1 ≤ 100 by omega) (by decide)))
  rw [s_step s2]
  have hsz : (l ++ [Ins.rest]).length = size := by
    rw [List.length_append, hl3]
    show size - 1 + 1 = size
    omega
  have hR : Rows P (l ++ [.rest]) := by
    refine ⟨fun i hi => ?_, fun i hi => ?_, fun pl i hi => ?_, by omega⟩
    · rcases List.mem_append.mp hi with h | h
      · exact (hl i h).1
      · rw [List.mem_singleton.mp h]
        trivial
    · rcases List.mem_append.mp hi with h | h
      · rw [hsz]
        exact (hl i h).2
      · rw [List.mem_singleton.mp h]
        trivial
    · have hlt := (List.getElem?_eq_some_iff.mp hi).1
      by_cases hq : pl < l.length
      · exact .inl (by omega)
      · refine .inr ?_
        rw [List.getElem?_append_right (by omega), show pl - l.length = 0 by omega] at hi
        cases hi
        rfl
  have rp : D.pures (rowsD (l ++ [.rest])) = true := pures_map (f := Ins.d) (fun i => by cases i <;> rfl) _
  generalize l ++ [Ins.rest] = rows at hsz hR rp ⊢
  have hRl : 2 < T3.length := b3.lt
  have bA := bg_push b3 rp
  have gA : (T3 ++ [Cell.lst false (rowsD rows)])[T3.length]? = some (.lst false (rowsD rows)) := at_endL
  have hRlt : T3.length < (T3 ++ [Cell.lst false (rowsD rows)]).length := by rw [List.length_append]; exact Nat.lt_succ_self _
  generalize T3 ++ [Cell.lst false (rowsD rows)] = SA at bA gA hRlt ⊢
  generalize T3.length = RR at gA hRl hRlt ⊢
  -- the coins
  have e7 : (ev LC (Ex.tup [Ex.c (D.str "w"), Ex.v 3, Ex.bi Bi.tuple [Ex.v 5]])).E (LL x0 x2 (some (nD P)) (some (nD size)) (some (.ref RR)) x6 x7 x8 x9 x10 x11 x12 x13 x14 x15 x16 x17 x18 x19 x20) SA = .ok (.v (cD P (rowsD rows))) SA :=
    x_tup (m_cons rfl (m_cons rfl (m_cons (x_tupL rfl gA) m_nil))) (show 3 ≤ lim by decide)
  obtain ⟨kk, T4, hkk, nx4, e4⟩ := x_tk hC (ρ := LL x0 x2 (some (nD P)) (some (nD size)) (some (.ref RR)) x6 x7 x8 x9 x10 x11 x12 x13 x14 x15 x16 x17 x18 x19 x20) (b := 1) (e := .c (.int 7)) (M := 7) rfl rfl (by decide) (by decide) bA
  have b4 := nx4.bg bA
  obtain ⟨cs, T5, hcl, hcs, nx5, e5⟩ := x_row hC (ρ := LL x0 x2 (some (nD P)) (some (nD size)) (some (.ref RR)) x6 x7 x8 x9 x10 x11 x12 x13 x14 x15 x16 x17 x18 x19 x20) (w := 6) (M := 2) (show 6 < 21 by decide) (by decide) rfl (by decide) (by decide) (show kk ≤ 1000 by omega) e4 b4
  have b5 := nx5.bg b4
  have s3 : sv 11 LC p3 (LL x0 x2 (some (nD P)) (some (nD size)) (some (.ref RR)) x6 x7 x8 x9 x10 x11 x12 x13 x14 x15 x16 x17 x18 x19 x20) SA = .ok .nx (LL x0 x2 (some (nD P)) (some (nD size)) (some (.ref RR)) x6 (some (cD P (rowsD rows))) (some (rD cs)) x9 x10 x11 x12 x13 x14 x15 x16 x17 x18 x19 x20) T5 :=
    s_asg2 (show 7 < 21 by decide) (show 8 < 21 by decide) e7 e5
  rw [s_step s3]
  -- counts
  obtain ⟨cn, T6, hnl, hcn, nx6, e6⟩ := x_row hC (ρ := LL x0 x2 (some (nD P)) (some (nD size)) (some (.ref RR)) x6 (some (cD P (rowsD rows))) (some (rD cs)) x9 x10 x11 x12 x13 x14 x15 x16 x17 x18 x19 x20) (S := T5) (w := 6) (M := 4) (p := Ex.v 3) (show 6 < 21 by decide) (by decide) rfl (by decide) (by decide) (show P ≤ 1000 by omega) rfl b5
  have b6 := nx6.bg b5
  have s4 : sv 11 LC (p4 9) (LL x0 x2 (some (nD P)) (some (nD size)) (some (.ref RR)) x6 (some (cD P (rowsD rows))) (some (rD cs)) x9 x10 x11 x12 x13 x14 x15 x16 x17 x18 x19 x20) T5 = .ok .nx (LL x0 x2 (some (nD P)) (some (nD size)) (some (.ref RR)) x6 (some (cD P (rowsD rows))) (some (rD cs)) (some (rD cn)) x10 x11 x12 x13 x14 x15 x16 x17 x18 x19 x20) T6 :=
    s_asg (show 9 < 21 by decide) e6
  rw [s_step s4]
  obtain ⟨ot, T7, hol, hot, nx7, e8⟩ := x_row hC (ρ := LL x0 x2 (some (nD P)) (some (nD size)) (some (.ref RR)) x6 (some (cD P (rowsD rows))) (some (rD cs)) (some (rD cn)) x10 x11 x12 x13 x14 x15 x16 x17 x18 x19 x20) (S := T6) (w := 6) (M := 4) (p := Ex.v 3) (show 6 < 21 by decide) (by decide) rfl (by decide) (by decide) (show P ≤ 1000 by omega) rfl b6
  have b7 := nx7.bg b6
  have s5 : sv 11 LC (p4 10) (LL x0 x2 (some (nD P)) (some (nD size)) (some (.ref RR)) x6 (some (cD P (rowsD rows))) (some (rD cs)) (some (rD cn)) x10 x11 x12 x13 x14 x15 x16 x17 x18 x19 x20) T6 = .ok .nx (LL x0 x2 (some (nD P)) (some (nD size)) (some (.ref RR)) x6 (some (cD P (rowsD rows))) (some (rD cs)) (some (rD cn)) (some (rD ot)) x11 x12 x13 x14 x15 x16 x17 x18 x19 x20) T7 :=
    s_asg (show 10 < 21 by decide) e8
  rw [s_step s5]
  have g7 : T7[RR]? = some (.lst false (rowsD rows)) := ((((nx4.trans nx5).trans nx6).trans nx7).get (by omega)).trans gA
  have l7 : RR < T7.length := (List.getElem?_eq_some_iff.mp g7).1
  -- the disk
  have ed : evM (evs LC [Ex.v 1, dskE]) (LL x0 x2 (some (nD P)) (some (nD size)) (some (.ref RR)) x6 (some (cD P (rowsD rows))) (some (rD cs)) (some (rD cn)) (some (rD ot)) x11 x12 x13 x14 x15 x16 x17 x18 x19 x20) T7 = .ok [.ref 2, .ref T7.length] (T7 ++ [.lst false [Dk.d ⟨0, cn, List.replicate cn.length 0, none⟩, Dk.d ⟨1, ot, cn, some 2⟩, Dk.d ⟨0, cn, ot, none⟩]]) :=
    m_cons rfl (m_consL (x_lst (ds := [Dk.d ⟨0, cn, List.replicate cn.length 0, none⟩, Dk.d ⟨1, ot, cn, some 2⟩, Dk.d ⟨0, cn, ot, none⟩]) (m_cons (x_callV b7.w (Dk.pure _) (m_cons rfl m_nil) (t_dof 10 cn (by omega) T7)) (m_cons rfl (m_cons rfl m_nil))) (show 3 ≤ lim by decide)) m_nil)
  have dp : D.pures [Dk.d ⟨0, cn, List.replicate cn.length 0, none⟩, Dk.d ⟨1, ot, cn, some 2⟩, Dk.d ⟨0, cn, ot, none⟩] = true := by
    show (_ && (_ && (_ && true))) = true
    rw [Dk.pure, Dk.pure, Dk.pure]
    rfl
  obtain ⟨i, hi, T8', nx8', e9⟩ := t_some 9 (xs := [Dk.d ⟨0, cn, List.replicate cn.length 0, none⟩, Dk.d ⟨1, ot, cn, some 2⟩, Dk.d ⟨0, cn, ot, none⟩]) (bg_push b7 dp) (k := T7.length) at_endL (by omega) (show 0 < 3 by decide) (show 3 ≤ 100 by decide)
  obtain ⟨T8, rfl, nx8⟩ := nx8'.pop b7
  have b8 := nx8.bg b7
  have dke : ∃ dk : Dk, ([Dk.d ⟨0, cn, List.replicate cn.length 0, none⟩, Dk.d ⟨1, ot, cn, some 2⟩, Dk.d ⟨0, cn, ot, none⟩] : List D)[i] = dk.d ∧ dk.b ≤ 1 ∧ dk.x.length = P ∧ dk.y.length = P ∧ dk.on = cn ∧ diskB P dk.b [dk.x, dk.y] dk.k = true := by
    have pos : ∀ (r : List Int), r.length = P → (∀ c ∈ r, (0 : Int) ≤ c) → bankB P r = true := fun r hr h => by
      unfold bankB
      rw [decide_eq_true hr, Bool.and_true, List.all_eq_true]
      exact fun c hc => decide_eq_true (h c hc)
    have k1 := pos cn hnl fun c hc => (hcn c hc).1
    have k2 := pos ot hol fun c hc => (hot c hc).1
    have k3 := pos (List.replicate cn.length 0) (by rw [List.length_replicate]; exact hnl) fun c hc => by rw [List.eq_of_mem_replicate hc]; exact Int.le_refl _
    have mk : ∀ (bb : Nat) (x y : List Int) (k : Option Int), bb ≤ 1 → bankB P x = true → bankB P y = true → (k.isNone || cntO k) = true → diskB P (bb : Nat) [x, y] k = true := fun bb x y k hb hx hy hk => by
      unfold diskB
      rw [decide_eq_true (by omega), decide_eq_true (by omega), hk, List.all_cons, List.all_cons, List.all_nil, hx, hy]
      rfl
    have hi3 : i < 3 := hi
    have c3 : i = 0 ∨ i = 1 ∨ i = 2 := by omega
    rcases c3 with rfl | rfl | rfl
    · exact ⟨⟨0, cn, List.replicate cn.length 0, none⟩, rfl, Nat.zero_le _, hnl, by rw [List.length_replicate]; exact hnl, rfl, mk 0 _ _ _ (by decide) k1 k3 rfl⟩
    · exact ⟨⟨1, ot, cn, some 2⟩, rfl, Nat.le_refl _, hol, hnl, rfl, mk 1 _ _ _ (by decide) k2 k1 rfl⟩
    · exact ⟨⟨0, cn, ot, none⟩, rfl, Nat.zero_le _, hnl, hol, rfl, mk 0 _ _ _ (by decide) k1 k2 rfl⟩
  obtain ⟨dk, hdk, hdb, hdx, hdy, hdo, hdd⟩ := dke
  have s6 : sv 11 LC p6 (LL x0 x2 (some (nD P)) (some (nD size)) (some (.ref RR)) x6 (some (cD P (rowsD rows))) (some (rD cs)) (some (rD cn)) (some (rD ot)) x11 x12 x13 x14 x15 x16 x17 x18 x19 x20) T7 = .ok .nx (LL x0 x2 (some (nD P)) (some (nD size)) (some (.ref RR)) x6 (some (cD P (rowsD rows))) (some (rD cs)) (some (rD cn)) (some (rD ot)) (some dk.d) x12 x13 x14 x15 x16 x17 x18 x19 x20) T8 := by
    rw [hdk] at e9
    exact s_asg (show 11 < 21 by decide) (x_callG ed ((congrArg (fin T7.length) e9).trans (fin_pop b8.w nx8.len dk.pure)))
  rw [s_step s6]
  have g8 : T8[RR]? = some (.lst false (rowsD rows)) := (nx8.get (by omega)).trans g7
  have w8 := b8.w
  have q7 : (ev LC t7).B (LL x0 x2 (some (nD P)) (some (nD size)) (some (.ref RR)) x6 (some (cD P (rowsD rows))) (some (rD cs)) (some (rD cn)) (some (rD ot)) (some dk.d) x12 x13 x14 x15 x16 x17 x18 x19 x20) T8 = .ok false T8 := by
    have a1 := t_on 10 dk hdb T8
    rw [hdo] at a1
    have a2 := t_disk 6 (dk.b : Nat) [dk.x, dk.y] dk.k P w8 (fun x hx => by
      simp only [List.mem_cons, List.not_mem_nil, or_false] at hx
      rcases hx with rfl | rfl
      · rw [hdx]; exact Nat.le_trans hP2 (by decide)
      · rw [hdy]; exact Nat.le_trans hP2 (by decide)) (show 2 ≤ lim by decide)
    rw [hdd] at a2
    have dep3 : ∀ d : Dk, d.d.dep ≤ 60 := fun d => Nat.le_trans d.dep (by decide)
    refine b_or3 (b_neD (d := rD cn) (x_callV w8 (rD_pure _) (m_cons rfl m_nil) a1) rfl (rD_pure _) (Nat.le_trans (rD_dep _) (by decide))) ?_ (b_neD (d := Dk.d ⟨0, cn, List.replicate cn.length 0, none⟩) (x_callV w8 (Dk.pure _) (m_cons rfl m_nil) (t_dof 10 cn (by omega) T8)) (x_tup (m_cons rfl (m_cons (x_tup (m_cons rfl (m_cons (x_zeros (k := cn.length) (by omega) (by rw [hnl]; rfl)) m_nil)) (show 2 ≤ lim by decide)) (m_cons rfl m_nil))) (show 3 ≤ lim by decide)) (Dk.pure _) (dep3 _))
    rw [ev_notB, b_call (x_callV (d := .bl true) w8 rfl (m_cons rfl (m_cons rfl m_nil)) a2), bind_ok]
    rfl
  rw [s_go q7]
  -- the state to begin with
  have s8 : sv 11 LC p8 (LL x0 x2 (some (nD P)) (some (nD size)) (some (.ref RR)) x6 (some (cD P (rowsD rows))) (some (rD cs)) (some (rD cn)) (some (rD ot)) (some dk.d) x12 x13 x14 x15 x16 x17 x18 x19 x20) T8 = .ok .nx (LL x0 x2 (some (nD P)) (some (nD size)) (some (.ref RR)) x6 (some (cD P (rowsD rows))) (some (rD cs)) (some (rD cn)) (some (rD ot)) (some dk.d) (some (Ms.d ⟨List.replicate 16 0, some 0, dk, cs⟩)) (some (.ref T8.length)) x14 x15 x16 x17 x18 x19 x20) (T8 ++ [.lst false []]) :=
    s_asgT (show 12 < 21 by decide) (show 13 < 21 by decide) (x_tup (m_cons (x_callV w8 (Ms.pure _) (m_cons rfl (m_cons rfl m_nil)) (t_begin 10 dk cs T8)) (m_consL (e := Ex.lst []) (xs := []) rfl m_nil)) (show 2 ≤ lim by decide))
  rw [s_step s8]
  have b9 := bg_push b8 (xs := []) rfl
  have l8 : RR < T8.length := (List.getElem?_eq_some_iff.mp g8).1
  have g9 : (T8 ++ [Cell.lst false []])[RR]? = some (.lst false (rowsD rows)) := by
    rw [List.getElem?_append_left l8]
    exact g8
  have q9 : (ev LC t9).B (LL x0 x2 (some (nD P)) (some (nD size)) (some (.ref RR)) x6 (some (cD P (rowsD rows))) (some (rD cs)) (some (rD cn)) (some (rD ot)) (some dk.d) (some (Ms.d ⟨List.replicate 16 0, some 0, dk, cs⟩)) (some (.ref T8.length)) x14 x15 x16 x17 x18 x19 x20) (T8 ++ [.lst false []]) = .ok false (T8 ++ [.lst false []]) :=
    b_neD (d := Ms.d ⟨List.replicate 16 0, some 0, dk, cs⟩) rfl (x_tup (m_cons (x_zeros (k := 16) (by decide) rfl) (m_cons rfl (m_cons rfl (m_cons rfl m_nil)))) (show 4 ≤ lim by decide)) (Ms.pure _) (Nat.le_trans (Ms.dep _) (by decide))
  rw [s_go q9]
  -- the turns
  obtain ⟨st', y14, y15, y16, S10, s10, b10⟩ := inner_ok (S := T8 ++ [.lst false []]) hR (wf_dk (cs := cs) hdb hdx hdy hP2 hcs (by omega)) (by omega) (R := RR) (N := T8.length) b9 g9 at_endL (by omega) (by omega) x0 x2 x6 x14 x15 x16 x17 x18 x19 x20 (rD cn) (rD ot) size
  rw [s_step s10]
  -- what is no disk
  have s11 : sv 11 LC p11 (LE x0 x2 P size RR x6 (cD P (rowsD rows)) (rD cs) (rD cn) (rD ot) dk.d st' T8.length y14 y15 y16 x17 x18 x19 x20) S10 = .ok .nx (LE x0 x2 P size RR x6 (cD P (rowsD rows)) (rD cs) (rD cn) (rD ot) dk.d st' T8.length y14 y15 y16 (some (.ref S10.length)) x18 x19 x20) (S10 ++ [.lst false badL]) :=
    s_asgL1 (show 17 < 21 by decide) rfl
  have b11 := bg_push b10 (xs := badL) rfl
  rw [s_step s11, s_go (b_bad rfl rfl b11.w at_endL)]
  have s13 := nots_ok (ρ := LE x0 x2 P size RR x6 (cD P (rowsD rows)) (rD cs) (rD cn) (rD ot) dk.d st' T8.length y14 y15 y16 (some (.ref S10.length)) x18 x19 x20) (P := P) (rows := rows) (dk := dk.d) rfl (by rw [hsz]; rfl) rfl rfl b11.w
  rw [s_step s13]
  exact ⟨_, _, _, _, _, _, _, _, _, _, _, _, _, _, _, _, _, _, _, rfl, b11⟩
end
end K02
-- M17
set_option Elab.async false
set_option linter.all false
set_option maxRecDepth 100000
set_option maxHeartbeats 2000000
/-! M17: the law. -/
namespace K02
open PySem Ev
abbrev lapS : St := St.for (Tg.v 2) (Ex.bi Bi.range [Ex.c (D.int 5)]) lawFor
theorem law_body : f_law.body = [St.asg (Tg.v 1) (Ex.call 24 [Ex.v 0]), lapS, St.ret (Ex.c (D.bl true))] := rfl
theorem pures_int (ns : List Int) : D.pures (ns.map D.int) = true := pures_map (f := D.int) (fun _ => rfl) ns
theorem plain : LawEv F 12 29 := fun ns hl _ => by
  obtain ⟨cs, h0, h1, eb⟩ := t_bag 10 ns hl
  have ec : (ev LC (Ex.call 24 [Ex.v 0])).E [some (.ref 0), none, none, none, none, none, none, none, none, none, none, none, none, none, none, none, none, none, none, none, none] [Cell.ro (ns.map D.int)] = .ok (.l [.int 0, .int 1234567891, .int 0, .ref 1]) [.ro (ns.map D.int), .lst false (cs.map D.int)] := by
    show fin 1 (LC 24 [.ref 0] [Cell.ro (ns.map D.int)]) = _
    have eb' : LC 24 [.ref 0] [Cell.ro (ns.map D.int)] = .ok (.l [.int 0, .int 1234567891, .int 0, .ref 1]) [.ro (ns.map D.int), .lst false (cs.map D.int)] := eb
    rw [eb']
    rfl
  have bg : BG [.ro (ns.map D.int), .lst false (cs.map D.int), bagC 0 1234567891 0] := by
    refine ⟨0, 1234567891, 0, cs, ⟨?_, rfl, rfl⟩, Int.le_refl _, h0, h1⟩
    show (D.bnds 3 (ns.map D.int) && (D.bnds 3 (cs.map D.int) && (true && true))) = true
    rw [bnds_pure _ _ (pures_int ns), bnds_pure _ _ (pures_int cs)]
    rfl
  obtain ⟨ρ', S', el, hI⟩ := loopS_inv (I := fun ρ S => (∃ x0 x2 x3 x4 x5 x6 x7 x8 x9 x10 x11 x12 x13 x14 x15 x16 x17 x18 x19 x20, ρ = LL x0 x2 x3 x4 x5 x6 x7 x8 x9 x10 x11 x12 x13 x14 x15 x16 x17 x18 x19 x20) ∧ BG S) (f := turnS 11 LC (.v 2) lawFor) (Ev.intsFrom 0 5) (fun x _ ρ S h => by
    obtain ⟨⟨x0, x2, x3, x4, x5, x6, x7, x8, x9, x10, x11, x12, x13, x14, x15, x16, x17, x18, x19, x20, rfl⟩, hS⟩ := h
    rw [turn_v (show 2 < 21 by decide)]
    obtain ⟨y3, y4, y5, y6, y7, y8, y9, y10, y11, y12, y13, y14, y15, y16, y17, y18, y19, y20, S', e, b⟩ := lap_ok hS x0 (some x) x3 x4 x5 x6 x7 x8 x9 x10 x11 x12 x13 x14 x15 x16 x17 x18 x19 x20
    exact ⟨_, S', e, ⟨x0, some x, y3, y4, y5, y6, y7, y8, y9, y10, y11, y12, y13, y14, y15, y16, y17, y18, y19, y20, rfl⟩, b⟩)
    [some (.ref 0), some (.ref 2), none, none, none, none, none, none, none, none, none, none, none, none, none, none, none, none, none, none, none] [.ro (ns.map D.int), .lst false (cs.map D.int), bagC 0 1234567891 0] ⟨⟨_, _, _, _, _, _, _, _, _, _, _, _, _, _, _, _, _, _, _, _, rfl⟩, bg⟩
  have e2 : sv 11 LC lapS _ _ = _ := s_for (C := LC) (n := 11) (it := Ex.bi Bi.range [Ex.c (D.int 5)]) (o := none) rfl el
  refine ⟨S', ?_⟩
  rw [callN_at (fd := f_law) rfl rfl]
  show fin0 (svs 11 LC f_law.body [some (.ref 0), none, none, none, none, none, none, none, none, none, none, none, none, none, none, none, none, none, none, none, none] [Cell.ro (ns.map D.int)]) = _
  rw [law_body, svs_cons, sv_asg, ec, bind_ok, mat_l, thenS_ok]
  show fin0 (seqS (SR.ok .nx [some (.ref 0), some (.ref 2), none, none, none, none, none, none, none, none, none, none, none, none, none, none, none, none, none, none, none] [.ro (ns.map D.int), .lst false (cs.map D.int), bagC 0 1234567891 0]) _) = _
  rw [seqS_nx, svs_cons, e2, seqS_nx, svs_cons, sv_ret]
  rfl
end K02
-- H02n
set_option Elab.async false
set_option linter.all false
set_option maxRecDepth 100000
set_option maxHeartbeats 0
/-! The head: names, facts. -/
namespace K02
open PySem PySem.Spec PyProof.Rows L2 Ev
def top (i : Nat) : Stmt := PySem.Challenge.pw_thrownpots_k02_machines_with_coins_and_d.main.body.getD i (.Pass ⟨0, 0, 0, 0⟩)
abbrev dd (x : Str) (i : Nat) : He.DefD := ⟨(x, none), x, x, defArgs (top i), defBody (top i), defScope (top i), [], []⟩
def fn : List He.DefD := [dd "is_integer" 6, dd "is_count" 7, dd "is_tuple_of" 8, dd "is_small" 10, dd "disk_of" 16, dd "counts_on" 17, dd "is_bank" 18, dd "is_disk" 19, dd "begin" 20, dd "registers_in" 21, dd "place_in" 22, dd "disk_in" 23, dd "left_in" 24, dd "instruction_at" 25, dd "with_register" 26, dd "in_figures" 27, dd "reckoned" 28, dd "put_on" 29, dd "kept_on" 30, dd "turned" 31, dd "written_step" 32, dd "step" 33, dd "check_most" 34, dd "gone" 35, dd "_law_bag" 37, dd "_law_take" 38, dd "_law_some" 39, dd "_law_instruction" 41, dd "_law_own_step" 42, dd "_law_is_nothing" 40, dd "law" 43]
def fa : List He.Fa := [.glo "is_integer", .glo "is_count", .glo "is_tuple_of", .glo "is_small", .glo "disk_of", .glo "counts_on", .glo "is_bank", .glo "is_disk", .glo "begin", .glo "registers_in", .glo "place_in", .glo "disk_in", .glo "left_in", .glo "instruction_at", .glo "with_register", .glo "in_figures", .glo "reckoned", .glo "put_on", .glo "kept_on", .glo "turned", .glo "written_step", .glo "step", .glo "check_most", .glo "gone", .glo "_law_bag", .glo "_law_take", .glo "_law_some", .glo "_law_instruction", .glo "_law_own_step", .glo "_law_is_nothing", .glo "law", .free "isinstance", .free "int", .free "bool", .free "tuple", .free "all", .free "range", .free "len", .free "abs", .free "list", .free "max", .glo "Nothing", .glo "TooLarge", .exc "Nothing", .exm "Nothing" "Nothing" true, .exm "Nothing" "TooLarge" false, .exm "TooLarge" "Nothing" false, .exm "TooLarge" "TooLarge" true, .int "MANY_REGISTERS" (16), .int "MOST_FIGURES" (400), .int "MOST_GONE" (1000000), .int "MOST_PLAIN" (1000000000000000000000000000000000000000000000000000000000000)]
def tf : List He.Defn := [("law", none)]
def exB (K : PySem.W.Frag) : Bool := true
abbrev R : PySem.W.OpenRow := PySem.W.OpenLaw.row PySem.Challenge.rw_thrownpots_k02_machines_with_coins_and_d
abbrev hk : PySem.W.Hook := He.hookX 4 fa fn [] tf exB
def ob (s : PySem.W.SharedT) : He.AlX := He.obsX 4 fa fn [] tf exB (HandSHeadRun.getT s)
theorem ob_eq (s : PySem.W.SharedT) : ob s = hk.obs s.abs := He.obsX_eq (HandSHeadRun.getT_eq s)
def loose : List Str := (["_wall", "PotsError", "Nothing", "TooLarge", "is_integer", "is_count", "is_tuple_of", "is_small", "MANY_REGISTERS", "MOST_FIGURES", "MOST_GONE", "MOST_PLAIN", "disk_of", "counts_on", "is_bank", "is_disk", "begin", "registers_in", "place_in", "disk_in", "left_in", "instruction_at", "with_register", "in_figures", "reckoned", "put_on", "kept_on", "turned", "written_step", "step"] : List Str) ++ (["check_most", "gone", "_law_bag", "_law_take", "_law_some", "_law_is_nothing", "_law_instruction", "_law_own_step"] : List Str)
def U (T : List (Addr × Str)) : Tb where
  fnm := ["is_integer", "is_count", "is_tuple_of", "is_small", "disk_of", "counts_on", "is_bank", "is_disk", "begin", "registers_in", "place_in", "disk_in", "left_in", "instruction_at", "with_register", "in_figures", "reckoned", "put_on", "kept_on", "turned", "written_step", "step", "check_most", "gone", "_law_bag", "_law_take", "_law_some", "_law_instruction", "_law_own_step", "law"]
  T := T
  exc := ["Nothing", "TooLarge"]
  exr := ["Nothing"]
  con := [("MANY_REGISTERS", .int (16)), ("MOST_FIGURES", .int (400)), ("MOST_GONE", .int (1000000)), ("MOST_PLAIN", .int (1000000000000000000000000000000000000000000000000000000000000))]
  no := some ("_law_is_nothing", "Nothing")
  blt := ["isinstance", "int", "bool", "tuple", "all", "range", "len", "abs", "list", "max"]
  F := F
end K02
-- H02a
set_option Elab.async false
set_option linter.all false
set_option maxRecDepth 100000
set_option maxHeartbeats 0
namespace K02
open PySem PySem.Spec PyProof.Rows L2 Ev
theorem run (w : World) : HandSHeadRun.RunEq R (PySem.W.view R.prog [43]) hk ob 4000 loose w := by
  intro os
  kernel_rfl
end K02
-- H02b
set_option Elab.async false
set_option linter.all false
set_option maxRecDepth 100000
set_option maxHeartbeats 0
namespace K02
open PySem PySem.Spec PyProof.Rows L2 Ev
def n_is_integer : List Str := ["thing"]
theorem c_is_integer (T : List (Addr × Str)) : cSs Lall (U T) 40 ⟨n_is_integer, defScope (top 6), locB (defScope (top 6)), false⟩ 40 (defBody (top 6)) = some f_is_integer.body := by kernel_rfl
def n_is_count : List Str := ["thing"]
theorem c_is_count (T : List (Addr × Str)) : cSs Lall (U T) 40 ⟨n_is_count, defScope (top 7), locB (defScope (top 7)), false⟩ 40 (defBody (top 7)) = some f_is_count.body := by kernel_rfl
def n_is_tuple_of : List Str := ["thing", "is_item", "item"]
theorem c_is_tuple_of (T : List (Addr × Str)) : cSs Lall (U T) 40 ⟨n_is_tuple_of, defScope (top 8), locB (defScope (top 8)), false⟩ 40 (defBody (top 8)) = some f_is_tuple_of.body := by kernel_rfl
def n_is_small : List Str := ["integer", "most", "_lap"]
theorem c_is_small (T : List (Addr × Str)) : cSs Lall (U T) 40 ⟨n_is_small, defScope (top 10), locB (defScope (top 10)), false⟩ 40 (defBody (top 10)) = some f_is_small.body := by kernel_rfl
def n_disk_of : List Str := ["counts"]
theorem c_disk_of (T : List (Addr × Str)) : cSs Lall (U T) 40 ⟨n_disk_of, defScope (top 16), locB (defScope (top 16)), false⟩ 40 (defBody (top 16)) = some f_disk_of.body := by kernel_rfl
def n_counts_on : List Str := ["disk"]
theorem c_counts_on (T : List (Addr × Str)) : cSs Lall (U T) 40 ⟨n_counts_on, defScope (top 17), locB (defScope (top 17)), false⟩ 40 (defBody (top 17)) = some f_counts_on.body := by kernel_rfl
def n_is_bank : List Str := ["thing", "pots"]
theorem c_is_bank (T : List (Addr × Str)) : cSs Lall (U T) 40 ⟨n_is_bank, defScope (top 18), locB (defScope (top 18)), false⟩ 40 (defBody (top 18)) = some f_is_bank.body := by kernel_rfl
def n_is_disk : List Str := ["thing", "pots", "one"]
theorem c_is_disk (T : List (Addr × Str)) : cSs Lall (U T) 40 ⟨n_is_disk, defScope (top 19), locB (defScope (top 19)), false⟩ 40 (defBody (top 19)) = some f_is_disk.body := by kernel_rfl
def n_begin : List Str := ["disk", "coins"]
theorem c_begin (T : List (Addr × Str)) : cSs Lall (U T) 40 ⟨n_begin, defScope (top 20), locB (defScope (top 20)), false⟩ 40 (defBody (top 20)) = some f_begin.body := by kernel_rfl
def n_registers_in : List Str := ["state"]
theorem c_registers_in (T : List (Addr × Str)) : cSs Lall (U T) 40 ⟨n_registers_in, defScope (top 21), locB (defScope (top 21)), false⟩ 40 (defBody (top 21)) = some f_registers_in.body := by kernel_rfl
def n_place_in : List Str := ["state"]
theorem c_place_in (T : List (Addr × Str)) : cSs Lall (U T) 40 ⟨n_place_in, defScope (top 22), locB (defScope (top 22)), false⟩ 40 (defBody (top 22)) = some f_place_in.body := by kernel_rfl
def n_disk_in : List Str := ["state"]
theorem c_disk_in (T : List (Addr × Str)) : cSs Lall (U T) 40 ⟨n_disk_in, defScope (top 23), locB (defScope (top 23)), false⟩ 40 (defBody (top 23)) = some f_disk_in.body := by kernel_rfl
def n_left_in : List Str := ["state"]
theorem c_left_in (T : List (Addr × Str)) : cSs Lall (U T) 40 ⟨n_left_in, defScope (top 24), locB (defScope (top 24)), false⟩ 40 (defBody (top 24)) = some f_left_in.body := by kernel_rfl
def n_instruction_at : List Str := ["coded", "place"]
theorem c_instruction_at (T : List (Addr × Str)) : cSs Lall (U T) 40 ⟨n_instruction_at, defScope (top 25), locB (defScope (top 25)), false⟩ 40 (defBody (top 25)) = some f_instruction_at.body := by kernel_rfl
def n_with_register : List Str := ["registers", "number", "worth"]
theorem c_with_register (T : List (Addr × Str)) : cSs Lall (U T) 40 ⟨n_with_register, defScope (top 26), locB (defScope (top 26)), false⟩ 40 (defBody (top 26)) = some f_with_register.body := by kernel_rfl
def n_in_figures : List Str := ["number"]
theorem c_in_figures (T : List (Addr × Str)) : cSs Lall (U T) 40 ⟨n_in_figures, defScope (top 27), locB (defScope (top 27)), false⟩ 40 (defBody (top 27)) = some f_in_figures.body := by kernel_rfl
def n_reckoned : List Str := ["one", "registers", "disk", "mine", "its"]
theorem c_reckoned (T : List (Addr × Str)) : cSs Lall (U T) 40 ⟨n_reckoned, defScope (top 28), locB (defScope (top 28)), false⟩ 40 (defBody (top 28)) = some f_reckoned.body := by kernel_rfl
def n_put_on : List Str := ["disk", "pot", "number", "other", "bank"]
theorem c_put_on (T : List (Addr × Str)) : cSs Lall (U T) 40 ⟨n_put_on, defScope (top 29), locB (defScope (top 29)), false⟩ 40 (defBody (top 29)) = some f_put_on.body := by kernel_rfl
def n_kept_on : List Str := ["disk", "number"]
theorem c_kept_on (T : List (Addr × Str)) : cSs Lall (U T) 40 ⟨n_kept_on, defScope (top 30), locB (defScope (top 30)), false⟩ 40 (defBody (top 30)) = some f_kept_on.body := by kernel_rfl
def n_turned : List Str := ["disk"]
theorem c_turned (T : List (Addr × Str)) : cSs Lall (U T) 40 ⟨n_turned, defScope (top 31), locB (defScope (top 31)), false⟩ 40 (defBody (top 31)) = some f_turned.body := by kernel_rfl
def n_written_step : List Str := ["one", "state", "registers", "place", "disk", "coins", "told"]
theorem c_written_step (T : List (Addr × Str)) : cSs Lall (U T) 40 ⟨n_written_step, defScope (top 32), locB (defScope (top 32)), false⟩ 40 (defBody (top 32)) = some f_written_step.body := by kernel_rfl
def n_step : List Str := ["coded", "state", "registers", "place", "disk", "coins", "one", "told"]
theorem c_step (T : List (Addr × Str)) : cSs Lall (U T) 40 ⟨n_step, defScope (top 33), locB (defScope (top 33)), false⟩ 40 (defBody (top 33)) = some f_step.body := by kernel_rfl
def n_check_most : List Str := ["most"]
theorem c_check_most (T : List (Addr × Str)) : cSs Lall (U T) 40 ⟨n_check_most, defScope (top 34), locB (defScope (top 34)), false⟩ 40 (defBody (top 34)) = some f_check_most.body := by kernel_rfl
def n_gone : List Str := ["coded", "state", "most", "here", "found", "_lap", "deed"]
theorem c_gone (T : List (Addr × Str)) : cSs Lall (U T) 40 ⟨n_gone, defScope (top 35), locB (defScope (top 35)), false⟩ 40 (defBody (top 35)) = some f_gone.body := by kernel_rfl
def n__law_bag : List Str := ["script", "cell"]
theorem c__law_bag (T : List (Addr × Str)) : cSs Lall (U T) 40 ⟨n__law_bag, defScope (top 37), locB (defScope (top 37)), false⟩ 40 (defBody (top 37)) = some f__law_bag.body := by kernel_rfl
def n__law_take : List Str := ["bag", "many", "cell", "stirred", "value", "first", "second"]
theorem c__law_take (T : List (Addr × Str)) : cSs Lall (U T) 40 ⟨n__law_take, defScope (top 38), locB (defScope (top 38)), false⟩ 40 (defBody (top 38)) = some f__law_take.body := by kernel_rfl
def n__law_some : List Str := ["bag", "things"]
theorem c__law_some (T : List (Addr × Str)) : cSs Lall (U T) 40 ⟨n__law_some, defScope (top 39), locB (defScope (top 39)), false⟩ 40 (defBody (top 39)) = some f__law_some.body := by kernel_rfl
def n__law_instruction : List Str := ["bag", "pots", "size", "words", "word", "r", "s", "u", "to"]
theorem c__law_instruction (T : List (Addr × Str)) : cSs Lall (U T) 40 ⟨n__law_instruction, defScope (top 41), locB (defScope (top 41)), false⟩ 40 (defBody (top 41)) = some f__law_instruction.body := by kernel_rfl
def n__law_own_step : List Str := ["coded", "state", "registers", "place", "disk", "coins", "one", "more", "word", "bank", "banks", "kept", "later", "deed", "mine", "its", "row"]
theorem c__law_own_step (T : List (Addr × Str)) : cSs Lall (U T) 40 ⟨n__law_own_step, defScope (top 42), locB (defScope (top 42)), false⟩ 40 (defBody (top 42)) = some f__law_own_step.body := by kernel_rfl
def n_law : List Str := ["script", "bag", "lap", "pots", "size", "rows", "k", "coded", "coins", "counts", "other", "disk", "state", "deeds", "turn", "one", "due", "bad", "thing", "acts", "act"]
theorem c_law (T : List (Addr × Str)) : cSs Lall (U T) 40 ⟨n_law, defScope (top 43), locB (defScope (top 43)), true⟩ 40 (defBody (top 43)) = some f_law.body := by kernel_rfl
end K02
-- H02c
set_option Elab.async false
set_option linter.all false
set_option maxRecDepth 100000
set_option maxHeartbeats 0
namespace K02
open PySem PySem.Spec PyProof.Rows L2 Ev
theorem tabQ_law {K : PySem.W.Frag} (hne : exB K = true) : ∀ p ∈ ([((He.cT K ("law", none)).2, lamQ "law")] : List (Addr × Str)), p.1 = (He.cT K ("law", none)).2 → p.2 = lamQ "law" := by
  intro p hp hq
  unfold exB at hne
  simp only [Bool.and_eq_true, decide_eq_true_eq] at hne
  simp only [List.mem_cons, List.not_mem_nil, or_false] at hp
  rcases hp with rfl <;> simp_all
section
variable {P : Program} {w : World} {K : PySem.W.Frag} {h : Heap} {mg : Str → Option Value} {base : Heap} {T : List (Addr × Str)}
theorem sd (c : He.SaysX fa fn [] tf exB w h K) : He.SaysD fa fn K := c.t.d
theorem d_is_integer (c : He.SaysX fa fn [] tf exB w h K) (X : K.In h) (G : h.Ns mainGlobals mg) : DefK (U T) (gxOf (U T) P w K mg base) 0 "is_integer" := by
  obtain ⟨fd, FD⟩ := (sd c).def_ 0 (d := dd "is_integer" 6) rfl
  exact ⟨⟨_, _, _, _, fd, n_is_integer, n_is_integer.take 1, f_is_integer, 40, 40, false, He.glo_ok X G ((sd c).fact 0 (f := .glo "is_integer") rfl), FD, FD.bindsN (fun _ _ _ _ _ _ us hl => match us, hl with | [_], _ => rfl), ⟨rfl, rfl, rfl, by decide +kernel, rfl, by decide +kernel, by decide +kernel⟩, rfl, rfl, rfl, c_is_integer T, fun h => by cases h⟩⟩
theorem d_is_count (c : He.SaysX fa fn [] tf exB w h K) (X : K.In h) (G : h.Ns mainGlobals mg) : DefK (U T) (gxOf (U T) P w K mg base) 1 "is_count" := by
  obtain ⟨fd, FD⟩ := (sd c).def_ 1 (d := dd "is_count" 7) rfl
  exact ⟨⟨_, _, _, _, fd, n_is_count, n_is_count.take 1, f_is_count, 40, 40, false, He.glo_ok X G ((sd c).fact 1 (f := .glo "is_count") rfl), FD, FD.bindsN (fun _ _ _ _ _ _ us hl => match us, hl with | [_], _ => rfl), ⟨rfl, rfl, rfl, by decide +kernel, rfl, by decide +kernel, by decide +kernel⟩, rfl, rfl, rfl, c_is_count T, fun h => by cases h⟩⟩
theorem d_is_tuple_of (c : He.SaysX fa fn [] tf exB w h K) (X : K.In h) (G : h.Ns mainGlobals mg) : DefK (U T) (gxOf (U T) P w K mg base) 2 "is_tuple_of" := by
  obtain ⟨fd, FD⟩ := (sd c).def_ 2 (d := dd "is_tuple_of" 8) rfl
  exact ⟨⟨_, _, _, _, fd, n_is_tuple_of, n_is_tuple_of.take 2, f_is_tuple_of, 40, 40, false, He.glo_ok X G ((sd c).fact 2 (f := .glo "is_tuple_of") rfl), FD, FD.bindsN (fun _ _ _ _ _ _ us hl => match us, hl with | [_, _], _ => rfl), ⟨rfl, rfl, rfl, by decide +kernel, rfl, by decide +kernel, by decide +kernel⟩, rfl, rfl, rfl, c_is_tuple_of T, fun h => by cases h⟩⟩
theorem d_is_small (c : He.SaysX fa fn [] tf exB w h K) (X : K.In h) (G : h.Ns mainGlobals mg) : DefK (U T) (gxOf (U T) P w K mg base) 3 "is_small" := by
  obtain ⟨fd, FD⟩ := (sd c).def_ 3 (d := dd "is_small" 10) rfl
  exact ⟨⟨_, _, _, _, fd, n_is_small, n_is_small.take 1, f_is_small, 40, 40, false, He.glo_ok X G ((sd c).fact 3 (f := .glo "is_small") rfl), FD, FD.bindsN (fun _ _ _ _ _ _ us hl => match us, hl with | [_], _ => rfl), ⟨rfl, rfl, rfl, by decide +kernel, rfl, by decide +kernel, by decide +kernel⟩, rfl, rfl, rfl, c_is_small T, fun h => by cases h⟩⟩
theorem d_disk_of (c : He.SaysX fa fn [] tf exB w h K) (X : K.In h) (G : h.Ns mainGlobals mg) : DefK (U T) (gxOf (U T) P w K mg base) 4 "disk_of" := by
  obtain ⟨fd, FD⟩ := (sd c).def_ 4 (d := dd "disk_of" 16) rfl
  exact ⟨⟨_, _, _, _, fd, n_disk_of, n_disk_of.take 1, f_disk_of, 40, 40, false, He.glo_ok X G ((sd c).fact 4 (f := .glo "disk_of") rfl), FD, FD.bindsN (fun _ _ _ _ _ _ us hl => match us, hl with | [_], _ => rfl), ⟨rfl, rfl, rfl, by decide +kernel, rfl, by decide +kernel, by decide +kernel⟩, rfl, rfl, rfl, c_disk_of T, fun h => by cases h⟩⟩
theorem d_counts_on (c : He.SaysX fa fn [] tf exB w h K) (X : K.In h) (G : h.Ns mainGlobals mg) : DefK (U T) (gxOf (U T) P w K mg base) 5 "counts_on" := by
  obtain ⟨fd, FD⟩ := (sd c).def_ 5 (d := dd "counts_on" 17) rfl
  exact ⟨⟨_, _, _, _, fd, n_counts_on, n_counts_on.take 1, f_counts_on, 40, 40, false, He.glo_ok X G ((sd c).fact 5 (f := .glo "counts_on") rfl), FD, FD.bindsN (fun _ _ _ _ _ _ us hl => match us, hl with | [_], _ => rfl), ⟨rfl, rfl, rfl, by decide +kernel, rfl, by decide +kernel, by decide +kernel⟩, rfl, rfl, rfl, c_counts_on T, fun h => by cases h⟩⟩
theorem d_is_bank (c : He.SaysX fa fn [] tf exB w h K) (X : K.In h) (G : h.Ns mainGlobals mg) : DefK (U T) (gxOf (U T) P w K mg base) 6 "is_bank" := by
  obtain ⟨fd, FD⟩ := (sd c).def_ 6 (d := dd "is_bank" 18) rfl
  exact ⟨⟨_, _, _, _, fd, n_is_bank, n_is_bank.take 2, f_is_bank, 40, 40, false, He.glo_ok X G ((sd c).fact 6 (f := .glo "is_bank") rfl), FD, FD.bindsN (fun _ _ _ _ _ _ us hl => match us, hl with | [_, _], _ => rfl), ⟨rfl, rfl, rfl, by decide +kernel, rfl, by decide +kernel, by decide +kernel⟩, rfl, rfl, rfl, c_is_bank T, fun h => by cases h⟩⟩
theorem d_is_disk (c : He.SaysX fa fn [] tf exB w h K) (X : K.In h) (G : h.Ns mainGlobals mg) : DefK (U T) (gxOf (U T) P w K mg base) 7 "is_disk" := by
  obtain ⟨fd, FD⟩ := (sd c).def_ 7 (d := dd "is_disk" 19) rfl
  exact ⟨⟨_, _, _, _, fd, n_is_disk, n_is_disk.take 2, f_is_disk, 40, 40, false, He.glo_ok X G ((sd c).fact 7 (f := .glo "is_disk") rfl), FD, FD.bindsN (fun _ _ _ _ _ _ us hl => match us, hl with | [_, _], _ => rfl), ⟨rfl, rfl, rfl, by decide +kernel, rfl, by decide +kernel, by decide +kernel⟩, rfl, rfl, rfl, c_is_disk T, fun h => by cases h⟩⟩
theorem d_begin (c : He.SaysX fa fn [] tf exB w h K) (X : K.In h) (G : h.Ns mainGlobals mg) : DefK (U T) (gxOf (U T) P w K mg base) 8 "begin" := by
  obtain ⟨fd, FD⟩ := (sd c).def_ 8 (d := dd "begin" 20) rfl
  exact ⟨⟨_, _, _, _, fd, n_begin, n_begin.take 2, f_begin, 40, 40, false, He.glo_ok X G ((sd c).fact 8 (f := .glo "begin") rfl), FD, FD.bindsN (fun _ _ _ _ _ _ us hl => match us, hl with | [_, _], _ => rfl), ⟨rfl, rfl, rfl, by decide +kernel, rfl, by decide +kernel, by decide +kernel⟩, rfl, rfl, rfl, c_begin T, fun h => by cases h⟩⟩
theorem d_registers_in (c : He.SaysX fa fn [] tf exB w h K) (X : K.In h) (G : h.Ns mainGlobals mg) : DefK (U T) (gxOf (U T) P w K mg base) 9 "registers_in" := by
  obtain ⟨fd, FD⟩ := (sd c).def_ 9 (d := dd "registers_in" 21) rfl
  exact ⟨⟨_, _, _, _, fd, n_registers_in, n_registers_in.take 1, f_registers_in, 40, 40, false, He.glo_ok X G ((sd c).fact 9 (f := .glo "registers_in") rfl), FD, FD.bindsN (fun _ _ _ _ _ _ us hl => match us, hl with | [_], _ => rfl), ⟨rfl, rfl, rfl, by decide +kernel, rfl, by decide +kernel, by decide +kernel⟩, rfl, rfl, rfl, c_registers_in T, fun h => by cases h⟩⟩
theorem d_place_in (c : He.SaysX fa fn [] tf exB w h K) (X : K.In h) (G : h.Ns mainGlobals mg) : DefK (U T) (gxOf (U T) P w K mg base) 10 "place_in" := by
  obtain ⟨fd, FD⟩ := (sd c).def_ 10 (d := dd "place_in" 22) rfl
  exact ⟨⟨_, _, _, _, fd, n_place_in, n_place_in.take 1, f_place_in, 40, 40, false, He.glo_ok X G ((sd c).fact 10 (f := .glo "place_in") rfl), FD, FD.bindsN (fun _ _ _ _ _ _ us hl => match us, hl with | [_], _ => rfl), ⟨rfl, rfl, rfl, by decide +kernel, rfl, by decide +kernel, by decide +kernel⟩, rfl, rfl, rfl, c_place_in T, fun h => by cases h⟩⟩
theorem d_disk_in (c : He.SaysX fa fn [] tf exB w h K) (X : K.In h) (G : h.Ns mainGlobals mg) : DefK (U T) (gxOf (U T) P w K mg base) 11 "disk_in" := by
  obtain ⟨fd, FD⟩ := (sd c).def_ 11 (d := dd "disk_in" 23) rfl
  exact ⟨⟨_, _, _, _, fd, n_disk_in, n_disk_in.take 1, f_disk_in, 40, 40, false, He.glo_ok X G ((sd c).fact 11 (f := .glo "disk_in") rfl), FD, FD.bindsN (fun _ _ _ _ _ _ us hl => match us, hl with | [_], _ => rfl), ⟨rfl, rfl, rfl, by decide +kernel, rfl, by decide +kernel, by decide +kernel⟩, rfl, rfl, rfl, c_disk_in T, fun h => by cases h⟩⟩
theorem d_left_in (c : He.SaysX fa fn [] tf exB w h K) (X : K.In h) (G : h.Ns mainGlobals mg) : DefK (U T) (gxOf (U T) P w K mg base) 12 "left_in" := by
  obtain ⟨fd, FD⟩ := (sd c).def_ 12 (d := dd "left_in" 24) rfl
  exact ⟨⟨_, _, _, _, fd, n_left_in, n_left_in.take 1, f_left_in, 40, 40, false, He.glo_ok X G ((sd c).fact 12 (f := .glo "left_in") rfl), FD, FD.bindsN (fun _ _ _ _ _ _ us hl => match us, hl with | [_], _ => rfl), ⟨rfl, rfl, rfl, by decide +kernel, rfl, by decide +kernel, by decide +kernel⟩, rfl, rfl, rfl, c_left_in T, fun h => by cases h⟩⟩
theorem d_instruction_at (c : He.SaysX fa fn [] tf exB w h K) (X : K.In h) (G : h.Ns mainGlobals mg) : DefK (U T) (gxOf (U T) P w K mg base) 13 "instruction_at" := by
  obtain ⟨fd, FD⟩ := (sd c).def_ 13 (d := dd "instruction_at" 25) rfl
  exact ⟨⟨_, _, _, _, fd, n_instruction_at, n_instruction_at.take 2, f_instruction_at, 40, 40, false, He.glo_ok X G ((sd c).fact 13 (f := .glo "instruction_at") rfl), FD, FD.bindsN (fun _ _ _ _ _ _ us hl => match us, hl with | [_, _], _ => rfl), ⟨rfl, rfl, rfl, by decide +kernel, rfl, by decide +kernel, by decide +kernel⟩, rfl, rfl, rfl, c_instruction_at T, fun h => by cases h⟩⟩
theorem d_with_register (c : He.SaysX fa fn [] tf exB w h K) (X : K.In h) (G : h.Ns mainGlobals mg) : DefK (U T) (gxOf (U T) P w K mg base) 14 "with_register" := by
  obtain ⟨fd, FD⟩ := (sd c).def_ 14 (d := dd "with_register" 26) rfl
  exact ⟨⟨_, _, _, _, fd, n_with_register, n_with_register.take 3, f_with_register, 40, 40, false, He.glo_ok X G ((sd c).fact 14 (f := .glo "with_register") rfl), FD, FD.bindsN (fun _ _ _ _ _ _ us hl => match us, hl with | [_, _, _], _ => rfl), ⟨rfl, rfl, rfl, by decide +kernel, rfl, by decide +kernel, by decide +kernel⟩, rfl, rfl, rfl, c_with_register T, fun h => by cases h⟩⟩
theorem d_in_figures (c : He.SaysX fa fn [] tf exB w h K) (X : K.In h) (G : h.Ns mainGlobals mg) : DefK (U T) (gxOf (U T) P w K mg base) 15 "in_figures" := by
  obtain ⟨fd, FD⟩ := (sd c).def_ 15 (d := dd "in_figures" 27) rfl
  exact ⟨⟨_, _, _, _, fd, n_in_figures, n_in_figures.take 1, f_in_figures, 40, 40, false, He.glo_ok X G ((sd c).fact 15 (f := .glo "in_figures") rfl), FD, FD.bindsN (fun _ _ _ _ _ _ us hl => match us, hl with | [_], _ => rfl), ⟨rfl, rfl, rfl, by decide +kernel, rfl, by decide +kernel, by decide +kernel⟩, rfl, rfl, rfl, c_in_figures T, fun h => by cases h⟩⟩
theorem d_reckoned (c : He.SaysX fa fn [] tf exB w h K) (X : K.In h) (G : h.Ns mainGlobals mg) : DefK (U T) (gxOf (U T) P w K mg base) 16 "reckoned" := by
  obtain ⟨fd, FD⟩ := (sd c).def_ 16 (d := dd "reckoned" 28) rfl
  exact ⟨⟨_, _, _, _, fd, n_reckoned, n_reckoned.take 3, f_reckoned, 40, 40, false, He.glo_ok X G ((sd c).fact 16 (f := .glo "reckoned") rfl), FD, FD.bindsN (fun _ _ _ _ _ _ us hl => match us, hl with | [_, _, _], _ => rfl), ⟨rfl, rfl, rfl, by decide +kernel, rfl, by decide +kernel, by decide +kernel⟩, rfl, rfl, rfl, c_reckoned T, fun h => by cases h⟩⟩
theorem d_put_on (c : He.SaysX fa fn [] tf exB w h K) (X : K.In h) (G : h.Ns mainGlobals mg) : DefK (U T) (gxOf (U T) P w K mg base) 17 "put_on" := by
  obtain ⟨fd, FD⟩ := (sd c).def_ 17 (d := dd "put_on" 29) rfl
  exact ⟨⟨_, _, _, _, fd, n_put_on, n_put_on.take 3, f_put_on, 40, 40, false, He.glo_ok X G ((sd c).fact 17 (f := .glo "put_on") rfl), FD, FD.bindsN (fun _ _ _ _ _ _ us hl => match us, hl with | [_, _, _], _ => rfl), ⟨rfl, rfl, rfl, by decide +kernel, rfl, by decide +kernel, by decide +kernel⟩, rfl, rfl, rfl, c_put_on T, fun h => by cases h⟩⟩
theorem d_kept_on (c : He.SaysX fa fn [] tf exB w h K) (X : K.In h) (G : h.Ns mainGlobals mg) : DefK (U T) (gxOf (U T) P w K mg base) 18 "kept_on" := by
  obtain ⟨fd, FD⟩ := (sd c).def_ 18 (d := dd "kept_on" 30) rfl
  exact ⟨⟨_, _, _, _, fd, n_kept_on, n_kept_on.take 2, f_kept_on, 40, 40, false, He.glo_ok X G ((sd c).fact 18 (f := .glo "kept_on") rfl), FD, FD.bindsN (fun _ _ _ _ _ _ us hl => match us, hl with | [_, _], _ => rfl), ⟨rfl, rfl, rfl, by decide +kernel, rfl, by decide +kernel, by decide +kernel⟩, rfl, rfl, rfl, c_kept_on T, fun h => by cases h⟩⟩
theorem d_turned (c : He.SaysX fa fn [] tf exB w h K) (X : K.In h) (G : h.Ns mainGlobals mg) : DefK (U T) (gxOf (U T) P w K mg base) 19 "turned" := by
  obtain ⟨fd, FD⟩ := (sd c).def_ 19 (d := dd "turned" 31) rfl
  exact ⟨⟨_, _, _, _, fd, n_turned, n_turned.take 1, f_turned, 40, 40, false, He.glo_ok X G ((sd c).fact 19 (f := .glo "turned") rfl), FD, FD.bindsN (fun _ _ _ _ _ _ us hl => match us, hl with | [_], _ => rfl), ⟨rfl, rfl, rfl, by decide +kernel, rfl, by decide +kernel, by decide +kernel⟩, rfl, rfl, rfl, c_turned T, fun h => by cases h⟩⟩
theorem d_written_step (c : He.SaysX fa fn [] tf exB w h K) (X : K.In h) (G : h.Ns mainGlobals mg) : DefK (U T) (gxOf (U T) P w K mg base) 20 "written_step" := by
  obtain ⟨fd, FD⟩ := (sd c).def_ 20 (d := dd "written_step" 32) rfl
  exact ⟨⟨_, _, _, _, fd, n_written_step, n_written_step.take 2, f_written_step, 40, 40, false, He.glo_ok X G ((sd c).fact 20 (f := .glo "written_step") rfl), FD, FD.bindsN (fun _ _ _ _ _ _ us hl => match us, hl with | [_, _], _ => rfl), ⟨rfl, rfl, rfl, by decide +kernel, rfl, by decide +kernel, by decide +kernel⟩, rfl, rfl, rfl, c_written_step T, fun h => by cases h⟩⟩
theorem d_step (c : He.SaysX fa fn [] tf exB w h K) (X : K.In h) (G : h.Ns mainGlobals mg) : DefK (U T) (gxOf (U T) P w K mg base) 21 "step" := by
  obtain ⟨fd, FD⟩ := (sd c).def_ 21 (d := dd "step" 33) rfl
  exact ⟨⟨_, _, _, _, fd, n_step, n_step.take 2, f_step, 40, 40, false, He.glo_ok X G ((sd c).fact 21 (f := .glo "step") rfl), FD, FD.bindsN (fun _ _ _ _ _ _ us hl => match us, hl with | [_, _], _ => rfl), ⟨rfl, rfl, rfl, by decide +kernel, rfl, by decide +kernel, by decide +kernel⟩, rfl, rfl, rfl, c_step T, fun h => by cases h⟩⟩
theorem d_check_most (c : He.SaysX fa fn [] tf exB w h K) (X : K.In h) (G : h.Ns mainGlobals mg) : DefK (U T) (gxOf (U T) P w K mg base) 22 "check_most" := by
  obtain ⟨fd, FD⟩ := (sd c).def_ 22 (d := dd "check_most" 34) rfl
  exact ⟨⟨_, _, _, _, fd, n_check_most, n_check_most.take 1, f_check_most, 40, 40, false, He.glo_ok X G ((sd c).fact 22 (f := .glo "check_most") rfl), FD, FD.bindsN (fun _ _ _ _ _ _ us hl => match us, hl with | [_], _ => rfl), ⟨rfl, rfl, rfl, by decide +kernel, rfl, by decide +kernel, by decide +kernel⟩, rfl, rfl, rfl, c_check_most T, fun h => by cases h⟩⟩
theorem d_gone (c : He.SaysX fa fn [] tf exB w h K) (X : K.In h) (G : h.Ns mainGlobals mg) : DefK (U T) (gxOf (U T) P w K mg base) 23 "gone" := by
  obtain ⟨fd, FD⟩ := (sd c).def_ 23 (d := dd "gone" 35) rfl
  exact ⟨⟨_, _, _, _, fd, n_gone, n_gone.take 3, f_gone, 40, 40, false, He.glo_ok X G ((sd c).fact 23 (f := .glo "gone") rfl), FD, FD.bindsN (fun _ _ _ _ _ _ us hl => match us, hl with | [_, _, _], _ => rfl), ⟨rfl, rfl, rfl, by decide +kernel, rfl, by decide +kernel, by decide +kernel⟩, rfl, rfl, rfl, c_gone T, fun h => by cases h⟩⟩
theorem d__law_bag (c : He.SaysX fa fn [] tf exB w h K) (X : K.In h) (G : h.Ns mainGlobals mg) : DefK (U T) (gxOf (U T) P w K mg base) 24 "_law_bag" := by
  obtain ⟨fd, FD⟩ := (sd c).def_ 24 (d := dd "_law_bag" 37) rfl
  exact ⟨⟨_, _, _, _, fd, n__law_bag, n__law_bag.take 1, f__law_bag, 40, 40, false, He.glo_ok X G ((sd c).fact 24 (f := .glo "_law_bag") rfl), FD, FD.bindsN (fun _ _ _ _ _ _ us hl => match us, hl with | [_], _ => rfl), ⟨rfl, rfl, rfl, by decide +kernel, rfl, by decide +kernel, by decide +kernel⟩, rfl, rfl, rfl, c__law_bag T, fun h => by cases h⟩⟩
theorem d__law_take (c : He.SaysX fa fn [] tf exB w h K) (X : K.In h) (G : h.Ns mainGlobals mg) : DefK (U T) (gxOf (U T) P w K mg base) 25 "_law_take" := by
  obtain ⟨fd, FD⟩ := (sd c).def_ 25 (d := dd "_law_take" 38) rfl
  exact ⟨⟨_, _, _, _, fd, n__law_take, n__law_take.take 2, f__law_take, 40, 40, false, He.glo_ok X G ((sd c).fact 25 (f := .glo "_law_take") rfl), FD, FD.bindsN (fun _ _ _ _ _ _ us hl => match us, hl with | [_, _], _ => rfl), ⟨rfl, rfl, rfl, by decide +kernel, rfl, by decide +kernel, by decide +kernel⟩, rfl, rfl, rfl, c__law_take T, fun h => by cases h⟩⟩
theorem d__law_some (c : He.SaysX fa fn [] tf exB w h K) (X : K.In h) (G : h.Ns mainGlobals mg) : DefK (U T) (gxOf (U T) P w K mg base) 26 "_law_some" := by
  obtain ⟨fd, FD⟩ := (sd c).def_ 26 (d := dd "_law_some" 39) rfl
  exact ⟨⟨_, _, _, _, fd, n__law_some, n__law_some.take 2, f__law_some, 40, 40, false, He.glo_ok X G ((sd c).fact 26 (f := .glo "_law_some") rfl), FD, FD.bindsN (fun _ _ _ _ _ _ us hl => match us, hl with | [_, _], _ => rfl), ⟨rfl, rfl, rfl, by decide +kernel, rfl, by decide +kernel, by decide +kernel⟩, rfl, rfl, rfl, c__law_some T, fun h => by cases h⟩⟩
theorem d__law_instruction (c : He.SaysX fa fn [] tf exB w h K) (X : K.In h) (G : h.Ns mainGlobals mg) : DefK (U T) (gxOf (U T) P w K mg base) 27 "_law_instruction" := by
  obtain ⟨fd, FD⟩ := (sd c).def_ 27 (d := dd "_law_instruction" 41) rfl
  exact ⟨⟨_, _, _, _, fd, n__law_instruction, n__law_instruction.take 3, f__law_instruction, 40, 40, false, He.glo_ok X G ((sd c).fact 27 (f := .glo "_law_instruction") rfl), FD, FD.bindsN (fun _ _ _ _ _ _ us hl => match us, hl with | [_, _, _], _ => rfl), ⟨rfl, rfl, rfl, by decide +kernel, rfl, by decide +kernel, by decide +kernel⟩, rfl, rfl, rfl, c__law_instruction T, fun h => by cases h⟩⟩
theorem d__law_own_step (c : He.SaysX fa fn [] tf exB w h K) (X : K.In h) (G : h.Ns mainGlobals mg) : DefK (U T) (gxOf (U T) P w K mg base) 28 "_law_own_step" := by
  obtain ⟨fd, FD⟩ := (sd c).def_ 28 (d := dd "_law_own_step" 42) rfl
  exact ⟨⟨_, _, _, _, fd, n__law_own_step, n__law_own_step.take 2, f__law_own_step, 40, 40, false, He.glo_ok X G ((sd c).fact 28 (f := .glo "_law_own_step") rfl), FD, FD.bindsN (fun _ _ _ _ _ _ us hl => match us, hl with | [_, _], _ => rfl), ⟨rfl, rfl, rfl, by decide +kernel, rfl, by decide +kernel, by decide +kernel⟩, rfl, rfl, rfl, c__law_own_step T, fun h => by cases h⟩⟩
theorem d_law (c : He.SaysX fa fn [] tf exB w h K) (hT : T = [((He.cT K ("law", none)).2, lamQ "law")]) (hne : exB K = true) (hTB : ∀ p ∈ tf.map (He.cT K), LamX.TabB base mg p.1 p.2) (X : K.In h) (G : h.Ns mainGlobals mg) : DefK (U T) (gxOf (U T) P w K mg base) 29 "law" := by
  obtain ⟨fd, FD⟩ := (sd c).def_ 30 (d := dd "law" 43) rfl
  obtain ⟨oc, od, dV, kV, doc, pm, an, cdv, ct, osl, e, lk, hcd, h4, h5⟩ := id FD.ex
  obtain ⟨cc, hcc⟩ := He.codeIn_ref hcd
  have ec : fd.code = .ref (He.cT K ("law", none)).1 := by
    have e1 : He.codeOf K ("law", none) = cc := He.codeOf_eq lk (by rw [e]; exact hcc)
    show fd.code = .ref (He.codeOf K ("law", none))
    rw [e1, e]
    exact hcc
  exact ⟨⟨_, _, _, _, fd, n_law, n_law.take 1, f_law, 40, 40, true, He.glo_ok X G ((sd c).fact 30 (f := .glo "law") rfl), FD, FD.bindsN (fun _ _ _ _ _ _ us hl => match us, hl with | [_], _ => rfl), ⟨rfl, rfl, rfl, by decide +kernel, rfl, by decide +kernel, by decide +kernel⟩, rfl, rfl, rfl, c_law T, fun _ => ⟨_, _, ec, hTB (He.cT K ("law", none)) (by simp [tf]), by show (_, _) ∈ T; rw [hT]; simp, fun p hp hq => tabQ_law hne p (by rw [← hT]; exact hp) hq⟩⟩⟩
theorem nob : NoB "act" "Nothing" (defBody (top 40)) := by
  have e : defBody (top 40) = [.Try [.Expr (.Call (.Name "act" ⟨153, 8, 153, 11⟩) [] [] ⟨153, 8, 153, 13⟩) ⟨153, 8, 153, 13⟩] [.ExceptHandler (some (.Name "Nothing" ⟨154, 11, 154, 18⟩)) none [.Return (some (.Constant (.bool true) 0 ⟨155, 15, 155, 19⟩)) ⟨155, 8, 155, 19⟩] ⟨154, 4, 155, 19⟩] [] [] ⟨152, 4, 155, 19⟩, .Return (some (.Constant (.bool false) 0 ⟨156, 11, 156, 16⟩)) ⟨156, 4, 156, 16⟩] := by kernel_rfl
  rw [e]
  exact .two _ _ _ _ _ _ _ _ _ _ _ _
theorem st_ok (c : He.SaysX fa fn [] tf exB w h K) (X : K.In h) (G : h.Ns mainGlobals mg) : Stat (U T) (gxOf (U T) P w K mg base) where
  con := fun x d hx => by
    have hx : (x, d) ∈ [(("MANY_REGISTERS" : Str), D.int (16)), (("MOST_FIGURES" : Str), D.int (400)), (("MOST_GONE" : Str), D.int (1000000)), (("MOST_PLAIN" : Str), D.int (1000000000000000000000000000000000000000000000000000000000000))] := hx
    rcases List.mem_cons.mp hx with z | hx
    · cases z
      obtain ⟨t, e⟩ := He.int_ok X G ((sd c).fact 48 (f := .int "MANY_REGISTERS" (16)) rfl)
      exact ⟨_, _, rfl, e, t, rfl⟩
    rcases List.mem_cons.mp hx with z | hx
    · cases z
      obtain ⟨t, e⟩ := He.int_ok X G ((sd c).fact 49 (f := .int "MOST_FIGURES" (400)) rfl)
      exact ⟨_, _, rfl, e, t, rfl⟩
    rcases List.mem_cons.mp hx with z | hx
    · cases z
      obtain ⟨t, e⟩ := He.int_ok X G ((sd c).fact 50 (f := .int "MOST_GONE" (1000000)) rfl)
      exact ⟨_, _, rfl, e, t, rfl⟩
    rcases List.mem_cons.mp hx with z | hx
    · cases z
      obtain ⟨t, e⟩ := He.int_ok X G ((sd c).fact 51 (f := .int "MOST_PLAIN" (1000000000000000000000000000000000000000000000000000000000000)) rfl)
      exact ⟨_, _, rfl, e, t, rfl⟩
    · cases hx
  blt := fun x hx => by
    have hx : x ∈ [("isinstance" : Str), ("int" : Str), ("bool" : Str), ("tuple" : Str), ("all" : Str), ("range" : Str), ("len" : Str), ("abs" : Str), ("list" : Str), ("max" : Str)] := hx
    rcases List.mem_cons.mp hx with z | hx
    · subst z
      exact He.free_ok X G ((sd c).fact 31 (f := .free "isinstance") rfl)
    rcases List.mem_cons.mp hx with z | hx
    · subst z
      exact He.free_ok X G ((sd c).fact 32 (f := .free "int") rfl)
    rcases List.mem_cons.mp hx with z | hx
    · subst z
      exact He.free_ok X G ((sd c).fact 33 (f := .free "bool") rfl)
    rcases List.mem_cons.mp hx with z | hx
    · subst z
      exact He.free_ok X G ((sd c).fact 34 (f := .free "tuple") rfl)
    rcases List.mem_cons.mp hx with z | hx
    · subst z
      exact He.free_ok X G ((sd c).fact 35 (f := .free "all") rfl)
    rcases List.mem_cons.mp hx with z | hx
    · subst z
      exact He.free_ok X G ((sd c).fact 36 (f := .free "range") rfl)
    rcases List.mem_cons.mp hx with z | hx
    · subst z
      exact He.free_ok X G ((sd c).fact 37 (f := .free "len") rfl)
    rcases List.mem_cons.mp hx with z | hx
    · subst z
      exact He.free_ok X G ((sd c).fact 38 (f := .free "abs") rfl)
    rcases List.mem_cons.mp hx with z | hx
    · subst z
      exact He.free_ok X G ((sd c).fact 39 (f := .free "list") rfl)
    rcases List.mem_cons.mp hx with z | hx
    · subst z
      exact He.free_ok X G ((sd c).fact 40 (f := .free "max") rfl)
    · cases hx
  exc := fun x hx => by
    have hx : x ∈ [("Nothing" : Str), ("TooLarge" : Str)] := hx
    rcases List.mem_cons.mp hx with z | hx
    · subst z
      exact ⟨_, He.glo_ok X G ((sd c).fact 41 (f := .glo "Nothing") rfl)⟩
    rcases List.mem_cons.mp hx with z | hx
    · subst z
      exact ⟨_, He.glo_ok X G ((sd c).fact 42 (f := .glo "TooLarge") rfl)⟩
    · cases hx
  exm := fun x hx y hy cx cy ex ey => by
    have hx : x ∈ [("Nothing" : Str), ("TooLarge" : Str)] := hx
    have hy : y ∈ [("Nothing" : Str), ("TooLarge" : Str)] := hy
    have g_Nothing : mg "Nothing" = some (.ref (He.ga K "Nothing")) := He.glo_ok X G ((sd c).fact 41 (f := .glo "Nothing") rfl)
    have g_TooLarge : mg "TooLarge" = some (.ref (He.ga K "TooLarge")) := He.glo_ok X G ((sd c).fact 42 (f := .glo "TooLarge") rfl)
    have ex : mg x = some cx := ex
    have ey : mg y = some cy := ey
    show PySem.W.exmOne K cx cy = _
    rcases List.mem_cons.mp hx with z | hx
    · subst z
      rw [g_Nothing] at ex
      cases ex
      rcases List.mem_cons.mp hy with z | hy
      · subst z
        rw [g_Nothing] at ey
        cases ey
        exact He.exm_ok ((sd c).fact 44 (f := .exm "Nothing" "Nothing" true) rfl)
      rcases List.mem_cons.mp hy with z | hy
      · subst z
        rw [g_TooLarge] at ey
        cases ey
        exact He.exm_ok ((sd c).fact 45 (f := .exm "Nothing" "TooLarge" false) rfl)
      · cases hy
    rcases List.mem_cons.mp hx with z | hx
    · subst z
      rw [g_TooLarge] at ex
      cases ex
      rcases List.mem_cons.mp hy with z | hy
      · subst z
        rw [g_Nothing] at ey
        cases ey
        exact He.exm_ok ((sd c).fact 46 (f := .exm "TooLarge" "Nothing" false) rfl)
      rcases List.mem_cons.mp hy with z | hy
      · subst z
        rw [g_TooLarge] at ey
        cases ey
        exact He.exm_ok ((sd c).fact 47 (f := .exm "TooLarge" "TooLarge" true) rfl)
      · cases hy
    · cases hx
  exr := fun x hx => by
    have hx : x ∈ [("Nothing" : Str)] := hx
    rcases List.mem_cons.mp hx with z | hx
    · subst z
      obtain ⟨h1, h2, h3, h4⟩ := He.exc_ok ((sd c).fact 43 (f := .exc "Nothing") rfl)
      exact ⟨List.mem_cons_self, _, He.glo_ok X G ((sd c).fact 41 (f := .glo "Nothing") rfl), h1, h2, h3, h4⟩
    · cases hx
  no := fun x e hx => by
    cases hx
    obtain ⟨fd, FD⟩ := (sd c).def_ 29 (d := dd "_law_is_nothing" 40) rfl
    obtain ⟨oc, od, dV, kV, doc, pm, an, cdv, ct, osl, e, lk, hcd, h4, h5⟩ := id FD.ex
    refine ⟨List.mem_cons_self, by decide, by decide, _, defArgs (top 40), defScope (top 40), dV, kV, doc, pm, cdv, ct, oc, an, od, osl, "act", ["act"], defBody (top 40), He.glo_ok X G ((sd c).fact 29 (f := .glo "_law_is_nothing") rfl), FD.kp, hcd, ⟨rfl, rfl, rfl, by decide +kernel, rfl, by decide +kernel, by decide +kernel⟩, rfl, .inl (by decide +kernel), by decide, by decide, by decide +kernel, nob, ?_, ?_⟩
    · have lk2 := lk
      rw [e] at lk2
      exact lk2
    · have b := FD.bindsN (ps := ["act"]) (fun _ _ _ _ _ _ us hl => match us, hl with | [_], _ => rfl)
      rw [e] at b
      exact b
end
section
variable {P : Program} {w : World} {K : PySem.W.Frag} {h : Heap} {mg : Str → Option Value} {base : Heap} {T : List (Addr × Str)}
theorem defs_ok (c : He.SaysX fa fn [] tf exB w h K) (hT : T = [((He.cT K ("law", none)).2, lamQ "law")]) (hne : exB K = true) (hTB : ∀ p ∈ tf.map (He.cT K), LamX.TabB base mg p.1 p.2) (X : K.In h) (G : h.Ns mainGlobals mg) :
    ∀ i x, (U T).fnm[i]? = some x → DefK (U T) (gxOf (U T) P w K mg base) i x := by
  intro i x hi
  match i, hi with
  | 0, hi => cases hi; exact d_is_integer c X G
  | 1, hi => cases hi; exact d_is_count c X G
  | 2, hi => cases hi; exact d_is_tuple_of c X G
  | 3, hi => cases hi; exact d_is_small c X G
  | 4, hi => cases hi; exact d_disk_of c X G
  | 5, hi => cases hi; exact d_counts_on c X G
  | 6, hi => cases hi; exact d_is_bank c X G
  | 7, hi => cases hi; exact d_is_disk c X G
  | 8, hi => cases hi; exact d_begin c X G
  | 9, hi => cases hi; exact d_registers_in c X G
  | 10, hi => cases hi; exact d_place_in c X G
  | 11, hi => cases hi; exact d_disk_in c X G
  | 12, hi => cases hi; exact d_left_in c X G
  | 13, hi => cases hi; exact d_instruction_at c X G
  | 14, hi => cases hi; exact d_with_register c X G
  | 15, hi => cases hi; exact d_in_figures c X G
  | 16, hi => cases hi; exact d_reckoned c X G
  | 17, hi => cases hi; exact d_put_on c X G
  | 18, hi => cases hi; exact d_kept_on c X G
  | 19, hi => cases hi; exact d_turned c X G
  | 20, hi => cases hi; exact d_written_step c X G
  | 21, hi => cases hi; exact d_step c X G
  | 22, hi => cases hi; exact d_check_most c X G
  | 23, hi => cases hi; exact d_gone c X G
  | 24, hi => cases hi; exact d__law_bag c X G
  | 25, hi => cases hi; exact d__law_take c X G
  | 26, hi => cases hi; exact d__law_some c X G
  | 27, hi => cases hi; exact d__law_instruction c X G
  | 28, hi => cases hi; exact d__law_own_step c X G
  | 29, hi => cases hi; exact d_law c hT hne hTB X G
  | _ + 30, hi => cases hi
end
end K02
-- H02d
set_option Elab.async false
set_option linter.all false
set_option maxRecDepth 100000
set_option maxHeartbeats 0
namespace K02
open PySem PySem.Spec PyProof.Rows L2 Ev
theorem law_at (hL : LawEv F 12 29) {w : World} {mg : Str → Option Value} {fa : Addr} {h : Heap} (G : h.Ns mainGlobals mg) (hmg : mg ("law" : Str) = some (.ref fa)) {K : PySem.W.Frag} (X : K.In h) (c : He.SaysX K02.fa fn [] tf exB w h K) :
    LamX.LawAtS PySem.Challenge.rw_thrownpots_k02_machines_with_coins_and_d w K (L2.CX PySem.Challenge.rw_thrownpots_k02_machines_with_coins_and_d.prog w) 36 63 "script" mg fa h := by
  have e := hmg.symm.trans (He.glo_ok X G ((sd c).fact 30 (f := .glo "law") rfl))
  cases e
  obtain ⟨fd, FD⟩ := (sd c).def_ 30 (d := dd "law" 43) rfl
  obtain ⟨oc, od, dV, kV, doc, pm, an, cdv, ct, osl, e, lk, hcd, h4, h5⟩ := id FD.ex
  obtain ⟨cc, hcc⟩ := He.codeIn_ref hcd
  have ec : fd.code = .ref (He.cT K ("law", none)).1 := by
    have e1 : He.codeOf K ("law", none) = cc := He.codeOf_eq lk (by rw [e]; exact hcc)
    show fd.code = .ref (He.codeOf K ("law", none))
    rw [e1, e]
    exact hcc
  have hne : exB K = true := c.more
  refine ⟨fd, tf.map (He.cT K), spX K (tf.map (He.cT K)), fun p hp => ?_, fun p hp => ?_, fun p hp => ?_, fun s v => ?_, fun H a ns hl hb hT hS => ⟨a, ns, rfl, hl, hb, hS, hT, fun _ => rfl⟩, fun base hKb hGb hTB => ?_⟩
  · obtain ⟨q, hq, rfl⟩ := List.mem_map.mp hp
    exact c.empty q hq
  · obtain ⟨q, hq, rfl⟩ := List.mem_map.mp hp
    exact c.out q hq
  · obtain ⟨q, hq, rfl⟩ := List.mem_map.mp hp
    exact PySem.W.codeHd_of_K X (c.hd q hq)
  · exact FD.bindsA (ps := ["script"]) (fun _ _ _ _ _ _ us hl => match us, hl with | [_], _ => rfl) s [v] rfl
  · refine law_run (u := U [((He.cT K ("law", none)).2, lamQ "law")]) (n := 12) (i := 29) hL (fun q hq => ?_)
      (def_fn (n := 11) (N := n_law) (ps := n_law.take 1) (f := f_law) (k := 40) (j := 40) (lam := true) (fax_all (st_ok c X G) (defs_ok c rfl hne hTB X G) 11) FD ⟨rfl, rfl, rfl, by decide +kernel, rfl, by decide +kernel, by decide +kernel⟩ rfl rfl rfl (c_law _) (fun _ => ⟨_, _, ec, hTB (He.cT K ("law", none)) (by simp [tf]), by simp [U], tabQ_law hne⟩))
    have hq : q ∈ [((He.cT K ("law", none)).2, lamQ "law")] := hq
    rcases List.mem_cons.mp hq with z | hq
    · exact ⟨He.cT K ("law", none), by simp [tf], by rw [z]⟩
    · cases hq

theorem end_of (run : ∀ w, HandSHeadRun.RunEq R (PySem.W.view R.prog [43]) hk ob 4000 loose w) (hL : LawEv F 12 29) : PySem.Challenge.rw_thrownpots_k02_machines_with_coins_and_d.Holds := by
  open PySem.W PySem.Calls in
  w_on; o_law
  refine HandSHeadRun.head_any (r := PySem.W.OpenLaw.row PySem.Challenge.rw_thrownpots_k02_machines_with_coins_and_d) (q := PySem.W.view (PySem.W.OpenLaw.row PySem.Challenge.rw_thrownpots_k02_machines_with_coins_and_d).prog [43]) (H := hk) (ob := ob) (M := 4000) (loose := loose) (d := HandSHeadRun.topDef (PySem.W.OpenLaw.row PySem.Challenge.rw_thrownpots_k02_machines_with_coins_and_d).prog 43) (kwd := []) ob_eq
    (by kernel_rfl) (fun s => by kernel_rfl) run (by kernel_rfl) (by kernel_rfl) (by kernel_rfl) (by rfl) (by first | assumption | decide +kernel) (by decide +kernel) ⟨rfl, rfl, rfl, rfl, rfl, by decide +kernel⟩ ?hw ?hc
  case hw => w_witness2
  case hc =>
    refine LamX.walk_ofTsE (l := PySem.Challenge.rw_thrownpots_k02_machines_with_coins_and_d) (n := 63) (k := 36) (x := "script") (CX := fun w => L2.CX PySem.Challenge.rw_thrownpots_k02_machines_with_coins_and_d.prog w) rfl (by decide) (by kernel_rfl) ⟨rfl, by decide, by decide⟩ ?F (fun w H s e s' z => by
      obtain ⟨_, _, _, _, _, _, _, _, _, _, _, _, z⟩ := z
      exact z.elim)
    intro w mg fa h Y G hmg0
    obtain ⟨K, KX, c⟩ := Y
    have hmg : mg ("law" : PySem.Str) = some (.ref fa) := by
      have e : (HandSHeadRun.topDef (PySem.W.OpenLaw.row PySem.Challenge.rw_thrownpots_k02_machines_with_coins_and_d).prog 43).name = ("law" : PySem.Str) := by kernel_rfl
      rw [← e]
      exact hmg0
    exact ⟨K, KX, law_at hL G hmg KX c⟩
end K02
theorem PySem.Challenge.cw_thrownpots_k02_machines_with_coins_and_d_holds : PySem.Challenge.rw_thrownpots_k02_machines_with_coins_and_d.Holds := by
  exact K02.end_of K02.run K02.plain
