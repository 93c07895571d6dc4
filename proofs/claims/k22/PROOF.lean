import PyProof.Rows.All
import Wide.All
import OpenK.AllK
import Wide.FinOn
import HandS.ForMost
import HandS.ForExc
import HandS.More
import HandS.TupAny
import HandS.TupMul
import HandS.Deep
import HandS.IsInst
import HandS.Wide
import HandS.Strs
import HandS.Zip
import HandS.Small
import HandS.Rev
import KE.LtSeq
import HandS.SetKeys
import HandS.CallSlots
import HandS.ExcOwn
import HandS.ExcInit
import HandS.ExcField
import HandS.ExcIs
import HandS.Defaults
import HandS.TupLen
import HandS.Sort
import HandS.SortRule
import HandS.SortInts
import HandS.Head0
import HandS.Head1
import HandS.Head2
import HandS.HeadEnd
import HandS.HeadHook1
import HandS.HeadHook2
import HandS.Conv
import HandS.WideBits
import HandS.EndBits
import KE.KDictDisplayH
import HandS.Style
import HandS.ExcValue
import HandS.TryOnly
import HandS.Replace
import KE.KExcIs
import PySem.Challenge.RW_graphpack_k22_copies_but_for_kept_parts
set_option Elab.async false
set_option linter.all false
set_option maxRecDepth 100000
set_option maxHeartbeats 4000000
section
/-! PyA: data as trees, the small language, its evaluator. -/
namespace PyI
open PySem L2 RZ RT

/-- data: what a Python value is, by value -/
inductive D where
  | non | bl (b : Bool) | int (i : Int) | str (s : Str)
  | tup (ds : List D) | lst (ds : List D)
  | dK (ks : List Key) (vs : List D) | dT (ks : List (List Key)) (vs : List D)
  | exn (cls : Str) (at_ : Option Int)

/-- the content of a list or a dict that is a def's own -/
inductive Cell where
  | lst (ds : List D) | dK (kvs : List (Key × D)) | dT (kvs : List (List Key × D))
def Cell.d : Cell → D
  | .lst ds => .lst ds
  | .dK kvs => .dK (kvs.map (·.1)) (kvs.map (·.2))
  | .dT kvs => .dT (kvs.map (·.1)) (kvs.map (·.2))

structure Exn where
  cls : Str
  at_ : Option Int

/-- an end: none that is told (stuck), a value, an exception -/
inductive Out (α : Type) where
  | stuck | ok (a : α) | exc (x : Exn)
def Out.bind {α β : Type} : Out α → (α → Out β) → Out β
  | .stuck, _ => .stuck
  | .ok a, f => f a
  | .exc x, _ => .exc x
instance : Monad Out where
  pure := .ok
  bind := Out.bind
@[simp] theorem Out.bind_ok {α β : Type} (a : α) (f : α → Out β) : (Out.ok a >>= f) = f a := rfl
@[simp] theorem Out.bind_stuck {α β : Type} (f : α → Out β) : ((Out.stuck : Out α) >>= f) = .stuck := rfl
@[simp] theorem Out.bind_exc {α β : Type} (x : Exn) (f : α → Out β) : ((Out.exc x : Out α) >>= f) = .exc x := rfl
@[simp] theorem Out.bd_ok {α β : Type} (a : α) (f : α → Out β) : Out.bind (Out.ok a) f = f a := rfl
@[simp] theorem Out.bd_stuck {α β : Type} (f : α → Out β) : Out.bind (Out.stuck : Out α) f = .stuck := rfl
@[simp] theorem Out.bd_exc {α β : Type} (x : Exn) (f : α → Out β) : Out.bind (Out.exc x : Out α) f = .exc x := rfl
def Out.of {α : Type} : Option α → Out α
  | some a => .ok a
  | none => .stuck
@[simp] theorem Out.of_some {α : Type} (a : α) : Out.of (some a) = .ok a := rfl
@[simp] theorem Out.of_none {α : Type} : Out.of (none : Option α) = .stuck := rfl

/-- what an expression hands on: data; a new cell that nothing else names; the own cell of slot i -/
inductive Res where
  | val (d : D) | new (c : Cell) | ref (i : Nat)
/-- a name's slot -/
inductive Slot where
  | emp | val (d : D) | own (c : Cell)
abbrev Nv := List Slot
def Slot.cell : Slot → Option Cell
  | .own c => some c
  | _ => none
def Res.get (env : Nv) : Res → Option D
  | .val d => some d
  | .new c => some c.d
  | .ref i => match env[i]? with
    | some (.own c) => some c.d
    | _ => none

/-! ### == -/
mutual
def D.eqv : D → D → Bool
  | .non, .non => true
  | .bl a, .bl b => a == b
  | .bl a, .int j => (if a then 1 else 0) == j
  | .int i, .bl b => i == (if b then 1 else 0)
  | .int i, .int j => i == j
  | .str x, .str y => x == y
  | .lst xs, .lst ys => D.eqvL xs ys
  | .tup xs, .tup ys => D.eqvL xs ys
  | _, _ => false
def D.eqvL : List D → List D → Bool
  | [], [] => true
  | x :: xs, y :: ys => D.eqv x y && D.eqvL xs ys
  | _, _ => false
end
mutual
def D.depth : D → Nat
  | .tup ds => D.depthL ds + 1
  | .lst ds => D.depthL ds + 1
  | _ => 0
def D.depthL : List D → Nat
  | [] => 0
  | d :: ds => max (D.depth d) (D.depthL ds)
end
mutual
/-- no dict, no exception within -/
def D.plain : D → Bool
  | .tup ds => D.plainL ds
  | .lst ds => D.plainL ds
  | .dK _ _ => false
  | .dT _ _ => false
  | .exn _ _ => false
  | _ => true
def D.plainL : List D → Bool
  | [] => true
  | d :: ds => D.plain d && D.plainL ds
end
mutual
/-- nothing that can be changed within -/
def D.solid : D → Bool
  | .tup ds => D.solidL ds
  | .lst _ => false
  | .dK _ _ => false
  | .dT _ _ => false
  | .exn _ _ => false
  | _ => true
def D.solidL : List D → Bool
  | [] => true
  | d :: ds => D.solid d && D.solidL ds
end
def Cell.solid : Cell → Bool
  | .lst ds => D.solidL ds
  | .dK kvs => D.solidL (kvs.map (·.2))
  | .dT kvs => D.solidL (kvs.map (·.2))
def Res.solid : Res → Bool
  | .val d => d.solid
  | .new c => c.solid
  | .ref _ => false
def eqOk (a b : D) : Bool := a.plain && b.plain && (decide (b.depth ≤ 64) || decide (a.depth ≤ 64))

/-! ### dicts -/
def D.key : D → Option Key
  | .int i => some (.inl i)
  | .str s => some (.inr s)
  | _ => none
def D.keyL : List D → Option (List Key)
  | [] => some []
  | d :: ds => do
    let k ← d.key
    let ks ← D.keyL ds
    some (k :: ks)
def D.keyT : D → Option (List Key)
  | .tup ds => D.keyL ds
  | _ => none
def kD : Key → D
  | .inl i => .int i
  | .inr s => .str s
def dlook {κ : Type} [DecidableEq κ] : List (κ × D) → κ → Option D
  | [], _ => none
  | (k, v) :: r, x => if k = x then some v else dlook r x
def dput {κ : Type} [DecidableEq κ] (kvs : List (κ × D)) (k : κ) (v : D) : List (κ × D) :=
  if (dlook kvs k).isSome then kvs.map fun kv => if kv.1 = k then (kv.1, v) else kv else kvs ++ [(k, v)]
/-- d[k] for a dict d; none: no such key fits; some none: not there -/
def D.dget (d k : D) : Option (Option D) := match d with
  | .dK ks vs => (k.key).map fun k => dlook (ks.zip vs) k
  | .dT ks vs => (k.keyT).map fun k => dlook (ks.zip vs) k
  | _ => none
def Cell.put (c : Cell) (k v : D) : Option Cell := match c with
  | .lst ds => match k with
    | .int i => (ixN ds.length i).map fun j => .lst (ds.set j v)
    | _ => none
  | .dK kvs => k.key.bind fun k => if kvs.length < 16777216 then some (.dK (dput kvs k v)) else none
  | .dT kvs => k.keyT.bind fun k => if kvs.length < 16777216 then some (.dT (dput kvs k v)) else none

/-! ### operators -/
inductive BOp where
  | add | sub | mul | mod | fdiv | pow
inductive COp where
  | eq | ne | lt | le | gt | ge | isIn | notIn | isN | notN
inductive Ty where
  | int | bool | str | tuple | list | dict
/-- built-in functions -/
inductive Bi where
  | len | lenSet | tuple | list | str | int | abs | min2 | max2 | all | any | ord | sum | sorted | dictT | listRev | listRng | isI (ts : List Ty)
/-- methods that change nothing -/
inductive Me where
  | join | startswith | split | partition | index | get | getOr | sidx
/-- methods that change the own list or dict -/
inductive Mu where
  | append | extend | insert | pop | popAt | clear | reverse | setdefault

def mulOk (i j : Int) : Bool := decide (j.natAbs < 2 ^ 64 ∨ i.natAbs < 2 ^ 64) || decide (i.natAbs.log2 + j.natAbs.log2 + 2 ≤ 100000000)
def intMul (i j : Int) : Out D := if mulOk i j then .ok (.int (i * j)) else .stuck
def strAdd (x y : Str) : Out D := if x.length + y.length ≤ 16777216 then .ok (.str (x ++ y)) else .stuck
def tupAdd (x y : List D) : Out D := if x.length + y.length ≤ 16777216 then .ok (.tup (x ++ y)) else .stuck
def lstAdd (x y : List D) : Out Res := if x.length + y.length ≤ 16777216 then .ok (.new (.lst (x ++ y))) else .stuck
def rep (ds : List D) (k : Int) : List D := (List.replicate k.toNat ds).flatten
def repOk (n : Nat) (k : Int) : Bool := decide (-(2 ^ 63) ≤ k ∧ k < 2 ^ 63 ∧ n * k.toNat ≤ 16777216)
def Out.val (o : Out D) : Out Res := o.bind fun d => .ok (.val d)
@[simp] theorem Out.val_ok (d : D) : Out.val (.ok d) = .ok (.val d) := rfl
def opBin : BOp → D → D → Out Res
  | .add, .int i, .int j => .ok (.val (.int (i + j)))
  | .add, .str x, .str y => (strAdd x y).val
  | .add, .tup x, .tup y => (tupAdd x y).val
  | .add, .lst x, .lst y => lstAdd x y
  | .sub, .int i, .int j => .ok (.val (.int (i - j)))
  | .mul, .int i, .int j => (intMul i j).val
  | .mul, .str x, .int k => if 0 ≤ k ∧ k ≤ 1000 ∧ x.length ≤ 1000 then .ok (.val (.str (Txt.mul x k))) else .stuck
  | .mul, .int k, .str x => if 0 ≤ k ∧ k ≤ 1000 ∧ x.length ≤ 1000 then .ok (.val (.str (Txt.mul x k))) else .stuck
  | .mul, .tup x, .int k => if x.isEmpty = false ∧ 2 ≤ k ∧ k ≤ 1000 ∧ x.length ≤ 1000 then .ok (.val (.tup (rep x k))) else .stuck
  | .mul, .lst x, .int k => if 0 ≤ k ∧ k ≤ 1000 ∧ x.length ≤ 1000 then .ok (.new (.lst (rep x k))) else .stuck
  | .mod, .int i, .int j => if 0 < j then .ok (.val (.int (i % j))) else .stuck
  | .fdiv, .int i, .int j => if 0 < j ∧ j < 1073741824 then .ok (.val (.int (i / j))) else .stuck
  | .pow, .int i, .int j => if 0 ≤ j ∧ j.toNat ≤ 1000000 ∧ i.natAbs < 2 ^ 64 then .ok (.val (.int (i ^ j.toNat))) else .stuck
  | _, _, _ => .stuck
def opNeg : D → Out D
  | .int i => .ok (.int (-i))
  | _ => .stuck
/-- the first place of what is equal -/
def findD (d : D) : List D → Option Nat
  | [] => none
  | x :: xs => if D.eqv x d then some 0 else (findD d xs).map (· + 1)
def inOk (d : D) (ds : List D) : Bool := d.plain && D.plainL ds && (decide (d.depth ≤ 64) || decide (D.depthL ds ≤ 64))
def ixOk (d : D) (ds : List D) : Bool := d.plain && D.plainL ds && decide (d.depth ≤ 64) && decide (D.depthL ds < 64)
def inD (d : D) (ds : List D) : Bool := (findD d ds).isSome
def strIn (x y : Str) : Bool := !(Builtin.Str.occurrences y x 0 y.length 1).isEmpty
def opIn : D → D → Out Bool
  | .str x, .str y => .ok (strIn x y)
  | d, .lst ds => if inOk d ds then .ok (inD d ds) else .stuck
  | d, .tup ds => if inOk d ds then .ok (inD d ds) else .stuck
  | k, d => (Out.of (d.dget k)).bind fun o => .ok o.isSome
def cmpL : List Int → List Int → Bool := HT.lexLt
def intsOf : List D → Option (List Int)
  | [] => some []
  | .int i :: ds => (intsOf ds).map (i :: ·)
  | _ :: _ => none
def prsOf : List D → Option (List (Int × Int))
  | [] => some []
  | .tup [.int i, .int j] :: r => (prsOf r).map ((i, j) :: ·)
  | _ => none
def insB {α : Type} (le : α → α → Bool) (x : α) : List α → List α
  | [] => [x]
  | y :: r => if le x y then x :: y :: r else y :: insB le x r
def isort {α : Type} (le : α → α → Bool) : List α → List α
  | [] => []
  | x :: r => insB le x (isort le r)
def leI (i j : Int) : Bool := decide (i ≤ j)
def leP (p q : Int × Int) : Bool := decide (p.1 < q.1 ∨ (p.1 = q.1 ∧ p.2 ≤ q.2))
def opSorted (ds : List D) : Out Res := match intsOf ds with
  | some ns => .ok (.new (.lst ((isort leI ns).map D.int)))
  | none => match prsOf ds with
    | some ps => .ok (.new (.lst ((isort leP ps).map fun p => .tup [.int p.1, .int p.2])))
    | none => .stuck
def D.isNon : D → Bool
  | .non => true
  | _ => false
def opCmp : COp → D → D → Out Bool
  | .eq, a, b => if eqOk a b then .ok (D.eqv a b) else .stuck
  | .ne, a, b => if eqOk a b then .ok (!D.eqv a b) else .stuck
  | .lt, .int i, .int j => .ok (decide (i < j))
  | .lt, .lst x, .lst y => (Out.of (intsOf x)).bind fun ns => (Out.of (intsOf y)).bind fun ms => .ok (HT.lexLt ns ms)
  | .le, .int i, .int j => .ok (decide (i ≤ j))
  | .gt, .int i, .int j => .ok (decide (j < i))
  | .ge, .int i, .int j => .ok (decide (j ≤ i))
  | .isIn, a, b => opIn a b
  | .notIn, a, b => (opIn a b).bind fun r => .ok (!r)
  | .isN, a, .non => .ok a.isNon
  | .notN, a, .non => .ok (!a.isNon)
  | _, _, _ => .stuck
def opIdx : D → D → Out D
  | .lst ds, .int i => Out.of (atI ds i)
  | .tup ds, .int i => Out.of (atI ds i)
  | .str s, .int i => if s.length ≤ 16777216 then Out.of ((atI s.cps.toList i).map fun c => .str ⟨#[c]⟩) else .stuck
  | d, k => (Out.of (d.dget k)).bind fun o => Out.of o
def cutD (xs : List D) (lo hi : Option Int) : List D := (xs.drop (HT.sIx xs.length 0 lo)).take (HT.sIx xs.length xs.length hi - HT.sIx xs.length 0 lo)
def opSl (d : D) (lo hi : Option Int) : Out Res := match d with
  | .lst ds => .ok (.new (.lst (cutD ds lo hi)))
  | .tup ds => .ok (.val (.tup (cutD ds lo hi)))
  | .str s => if s.length ≤ 16777216 then .ok (.val (.str (cutS s lo hi))) else .stuck
  | _ => .stuck
def Ty.is (t : Ty) : D → Bool
  | .bl _ => match t with | .int => true | .bool => true | _ => false
  | .int _ => match t with | .int => true | _ => false
  | .str _ => match t with | .str => true | _ => false
  | .tup _ => match t with | .tuple => true | _ => false
  | .lst _ => match t with | .list => true | _ => false
  | .dK _ _ => match t with | .dict => true | _ => false
  | .dT _ _ => match t with | .dict => true | _ => false
  | _ => false
def boolsOf : List D → Option (List Bool)
  | [] => some []
  | .bl b :: ds => (boolsOf ds).map (b :: ·)
  | _ :: _ => none
def strsOf : List D → Option (List Str)
  | [] => some []
  | .str b :: ds => (strsOf ds).map (b :: ·)
  | _ :: _ => none
def strSmall (i : Int) : Bool := decide (i.natAbs.log2 < 1920)
def itemsOf : D → Option (List D)
  | .lst ds => some ds
  | .tup ds => some ds
  | _ => none
def keyOk : Key → Bool
  | .inl _ => true
  | .inr s => PySem.PyData.strOk s
/-- what list(..) makes of it -/
def listOf : D → Option (List D)
  | .lst ds => some ds
  | .tup ds => some ds
  | .dK ks _ => if ks.all keyOk = true then some (ks.map kD) else none
  | .dT ks _ => if (ks.all fun k => k.all keyOk) = true then some (ks.map fun k => .tup (k.map kD)) else none
  | _ => none
/-- pairs of a tuple's key and a thing -/
def prsT : List D → Option (List (List Key × D))
  | [] => some []
  | .tup [k, v] :: ds => k.keyT.bind fun k => (prsT ds).map fun r => (k, v) :: r
  | _ :: _ => none
def mrgT (kvs : List (List Key × D)) : List (List Key × D) := kvs.foldl (fun m p => dput m p.1 p.2) []
def opOrd (s : Str) : Out Res := match s.cps.toList with
  | [c] => .ok (.val (.int c))
  | _ => .stuck
def rngOk (i : Int) : Bool := decide (i.natAbs < 2 ^ 62)
def rngD (lo hi : Int) : List D := (List.range (hi - lo).toNat).map fun (k : Nat) => D.int (lo + (k : Int))
/-- the unlike ones, as they are met -/
def hasK (m : List Key) (k : Key) : Bool := m.any fun j => decide (j = k)
def kstep (m : List Key) (k : Key) : List Key := if hasK m k = true then m else m ++ [k]
def kset (ks : List Key) : List Key := ks.foldl kstep []
def opBi : Bi → List D → Out Res
  | .len, [.lst ds] => .ok (.val (.int ds.length))
  | .len, [.tup ds] => .ok (.val (.int ds.length))
  | .len, [.str s] => if s.length ≤ 16777216 then .ok (.val (.int s.length)) else .stuck
  | .len, [.dK ks _] => .ok (.val (.int ks.length))
  | .len, [.dT ks _] => .ok (.val (.int ks.length))
  | .tuple, [d] => match d with
    | .lst ds => .ok (.val (.tup ds))
    | .tup ds => .ok (.val (.tup ds))
    | _ => .stuck
  | .list, [d] => (Out.of (listOf d)).bind fun ds => .ok (.new (.lst ds))
  | .listRev, [.lst ds] => .ok (.new (.lst ds.reverse))
  | .listRng, [.int j] => if 0 ≤ j ∧ j.toNat ≤ 16777216 then .ok (.new (.lst (rngD 0 j))) else .stuck
  | .listRng, [.int i, .int j] => if (0 ≤ i ∧ i.toNat ≤ 16777216) ∧ 0 ≤ j ∧ j.toNat ≤ 16777216 then .ok (.new (.lst (rngD i j))) else .stuck
  | .lenSet, [.lst ds] => (Out.of (D.keyL ds)).bind fun ks => if ks.length + 1 < 4096 then .ok (.val (.int (kset ks).length)) else .stuck
  | .ord, [.str s] => opOrd s
  | .sorted, [.lst ds] => opSorted ds
  | .dictT, [.lst ds] => (Out.of (prsT ds)).bind fun kvs => .ok (.new (.dT (mrgT kvs)))
  | .sum, [.lst ds] => (Out.of (intsOf ds)).bind fun ns => .ok (.val (.int ns.sum))
  | .str, [.int i] => if strSmall i then .ok (.val (.str (toString i))) else .stuck
  | .int, [.int i] => .ok (.val (.int i))
  | .int, [.bl b] => .ok (.val (.int (if b then 1 else 0)))
  | .int, [.str s] => if s.length ≤ 640 then (Out.of (PySem.intText? s)).bind fun n => .ok (.val (.int n)) else .stuck
  | .abs, [.int i] => .ok (.val (.int (if i < 0 then -i else i)))
  | .min2, [.int i, .int j] => .ok (.val (.int (if j < i then j else i)))
  | .max2, [.int i, .int j] => .ok (.val (.int (if j > i then j else i)))
  | .all, [.lst ds] => (Out.of (boolsOf ds)).bind fun bs => .ok (.val (.bl (bs.all id)))
  | .any, [.lst ds] => (Out.of (boolsOf ds)).bind fun bs => .ok (.val (.bl (bs.any id)))
  | .isI ts, [d] => match d with
    | .exn _ _ => .stuck
    | d => .ok (.val (.bl (ts.any fun t => t.is d)))
  | _, _ => .stuck
def opMe : Me → D → List D → Out Res
  | .join, .str s, [.lst ds] => (Out.of (strsOf ds)).bind fun xs => if (xs.map (·.length)).sum + xs.length * s.length ≤ 16777216 then .ok (.val (.str (Txt.join s xs))) else .stuck
  | .get, d, [k] => (Out.of (d.dget k)).bind fun o => .ok (.val (o.getD .non))
  | .getOr, d, [k, x] => (Out.of (d.dget k)).bind fun o => if x.solid = true then .ok (.val (o.getD x)) else .stuck
  | .startswith, .str s, [.str t] => .ok (.val (.bl (Txt.startswith s t)))
  | .split, .str s, [.str t] => if (t.length == 0) = false ∧ s.length + 2 ≤ 16777216 ∧ (Txt.split s t).all PySem.PyData.strOk = true then .ok (.new (.lst ((Txt.split s t).map .str))) else .stuck
  | .partition, .str s, [.str t] => if (t.length == 0) = false ∧ s.length ≤ 16777216 ∧ PySem.PyData.strOk (Txt.partition s t).1 = true ∧ PySem.PyData.strOk (Txt.partition s t).2.1 = true ∧ PySem.PyData.strOk (Txt.partition s t).2.2 = true then .ok (.val (.tup [.str (Txt.partition s t).1, .str (Txt.partition s t).2.1, .str (Txt.partition s t).2.2])) else .stuck
  | .index, .lst ds, [d] => if ixOk d ds then (Out.of (findD d ds)).bind fun j => .ok (.val (.int j)) else .stuck
  | .sidx, .str s, [.str t] => (Out.of (Builtin.Str.occurrences s t 0 s.length 1).head?).bind fun j => .ok (.val (.int (j : Nat)))
  | _, _, _ => .stuck
/-- what is handed back, the cell behind -/
def opMu : Mu → Cell → List D → Out (D × Cell)
  | .append, .lst ds, [d] => if ds.length < 16777216 then .ok (.non, .lst (ds ++ [d])) else .stuck
  | .extend, .lst ds, [.lst es] => if ds.length + es.length ≤ 16777216 then .ok (.non, .lst (ds ++ es)) else .stuck
  | .pop, .lst ds, [] => match ds.getLast? with
    | some d => .ok (d, .lst ds.dropLast)
    | none => .stuck
  | .popAt, .lst ds, [.int i] => if 0 ≤ i ∧ i.toNat < 16777216 then (match ds[i.toNat]? with
    | some d => .ok (d, .lst (ds.eraseIdx i.toNat))
    | none => .stuck) else .stuck
  | .insert, .lst ds, [.int i, d] => if 0 ≤ i ∧ i ≤ ds.length ∧ ds.length < 16777216 then .ok (.non, .lst (ds.take i.toNat ++ d :: ds.drop i.toNat)) else .stuck
  | .reverse, .lst ds, [] => .ok (.non, .lst ds.reverse)
  | .clear, .lst _, [] => .ok (.non, .lst [])
  | .setdefault, .dK kvs, [k, v] => (Out.of k.key).bind fun k => match dlook kvs k with
    | some d => if kvs.length < 16777216 then .ok (d, .dK kvs) else .stuck
    | none => if kvs.length < 16777216 then .ok (v, .dK (kvs ++ [(k, v)])) else .stuck
  | _, _, _ => .stuck

def Cell.isL : Cell → Bool
  | .lst _ => true
  | _ => false
def Mu.fits (m : Mu) (c : Cell) : Bool := match m with
  | .setdefault => !c.isL
  | _ => c.isL
def D.isS : D → Bool
  | .str _ => true
  | _ => false
def D.isL : D → Bool
  | .lst _ => true
  | _ => false
def D.isD : D → Bool
  | .dK _ _ => true
  | .dT _ _ => true
  | _ => false
def Me.fits (m : Me) (d : D) : Bool := match m with
  | .join => d.isS
  | .startswith => d.isS
  | .split => d.isS
  | .partition => d.isS
  | .index => d.isL
  | .sidx => d.isS
  | .get => d.isD
  | .getOr => d.isD

/-! ### the language -/
inductive I where
  -- expressions
  | var (i : Nat) | kI (i : Int) | kS (s : Str) | kB (b : Bool) | kN
  | glob (n : Nat)
  | bin (op : BOp) (a b : I) | neg (a : I) | not_ (a : I)
  | cmp (op : COp) (a b : I) | cmp2 (o1 o2 : COp) (a b c : I)
  | and_ (a b : I) | or_ (a b : I) | ite (c a b : I)
  | tup (a : I) | lst (a : I) | dk0 | dt0
  | idx (a b : I) | sl (a lo hi : I)
  | call (n : Nat) (a : I) | bi (b : Bi) (a : I) | me (m : Me) (o a : I) | mu (m : Mu) (i : Nat) (a : I)
  | lc (e : I) (vs : List Nat) (src tst : I)
  -- argument lists; no part of a slice, no test; what is walked
  | nil | cons (a b : I)
  | none_
  | iRng (a : I) | iEnum (a : I) | iZip (a b : I) | iRev (a : I)
  -- statements
  | pass | expr (a : I) | asg (i : Nat) (a : I) | asgT (is : List Nat) (a : I) | put (i : Nat) (k v : I)
  | if_ (c a b : I) | for_ (vs : List Nat) (src b : I) | while_ (c b : I) | ret (a : I) | retN
  | raise (c : Str) | raiseA (c : Str) (a : I)
  | try_ (b : I) (c : Str) (ix : Option Nat) (h : I)
  | frz (i : Nat)
  -- blocks
  | done | seq (a b : I)
  -- what is never reached
  | stk
  -- a module's tuple of texts: the place of a text, the text at a place
  | gIx (n : Nat) (a : I) | gAt (n : Nat) (a : I)
  -- a dict of one pair, its key a number or a text, a tuple; a list turned about
  | dispK (k v : I) | dispT (k v : I) | revL (a : I)
  -- an exception: of one of some classes; its field
  | isE (cs : List Str) (a : I) | atE (a : I)
  -- enumerate(zip(a, b))
  | iEZ (a b : I)
  -- a call that changes the list handed to it, the last one: slot ix's, a new one; that list is handed back
  | callM (n : Nat) (a : I) (ix : Option Nat) | retM (i : Nat)

/-- does it change, bind or freeze slot i? -/
def I.hits (i : Nat) : I → Bool
  | .bin _ a b => a.hits i || b.hits i
  | .neg a => a.hits i
  | .not_ a => a.hits i
  | .cmp _ a b => a.hits i || b.hits i
  | .cmp2 _ _ a b c => a.hits i || b.hits i || c.hits i
  | .and_ a b => a.hits i || b.hits i
  | .or_ a b => a.hits i || b.hits i
  | .ite c a b => c.hits i || a.hits i || b.hits i
  | .tup a => a.hits i
  | .lst a => a.hits i
  | .idx a b => a.hits i || b.hits i
  | .sl a l h => a.hits i || l.hits i || h.hits i
  | .call _ a => a.hits i
  | .bi _ a => a.hits i
  | .me _ o a => o.hits i || a.hits i
  | .mu _ j a => j == i || a.hits i
  | .lc e vs s t => e.hits i || vs.contains i || s.hits i || t.hits i
  | .cons a b => a.hits i || b.hits i
  | .iRng a => a.hits i
  | .iEnum a => a.hits i
  | .iZip a b => a.hits i || b.hits i
  | .iEZ a b => a.hits i || b.hits i
  | .iRev a => a.hits i
  | .expr a => a.hits i
  | .asg j a => j == i || a.hits i
  | .asgT js a => js.contains i || a.hits i
  | .put j k v => j == i || k.hits i || v.hits i
  | .if_ c a b => c.hits i || a.hits i || b.hits i
  | .for_ vs s b => vs.contains i || s.hits i || b.hits i
  | .while_ c b => c.hits i || b.hits i
  | .ret a => a.hits i
  | .raiseA _ a => a.hits i
  | .try_ b _ ix h => b.hits i || h.hits i || (match ix with | some j => j == i | none => false)
  | .dispK k v => k.hits i || v.hits i
  | .dispT k v => k.hits i || v.hits i
  | .revL a => a.hits i
  | .isE _ a => a.hits i
  | .atE a => a.hits i
  | .frz j => j == i
  | .seq a b => a.hits i || b.hits i
  | .gIx _ a => a.hits i
  | .gAt _ a => a.hits i
  | .callM _ a ix => a.hits i || (match ix with | some j => j == i | none => false)
  | _ => false

inductive Fl where
  | next | ret (r : Res)

/-! ### loops -/
/-- for: the items are given ahead -/
def forM (bind : D → Nv → Option Nv) (body : Nv → Out (Fl × Nv)) : List D → Nv → Out (Fl × Nv)
  | [], env => .ok (.next, env)
  | d :: ds, env => (Out.of (bind d env)).bind fun e1 => (body e1).bind fun r => match r.1 with
    | .next => forM bind body ds r.2
    | .ret v => .ok (.ret v, r.2)
def whileN (c : Nv → Out (Bool × Nv)) (b : Nv → Out (Fl × Nv)) : Nat → Nv → Option (Out (Fl × Nv))
  | 0, _ => none
  | n + 1, env => match c env with
    | .stuck => some .stuck
    | .exc x => some (.exc x)
    | .ok (false, e1) => some (.ok (.next, e1))
    | .ok (true, e1) => match b e1 with
      | .stuck => some .stuck
      | .exc x => some (.exc x)
      | .ok (.ret v, e2) => some (.ok (.ret v, e2))
      | .ok (.next, e2) => whileN c b n e2
theorem whileN_mono {c : Nv → Out (Bool × Nv)} {b : Nv → Out (Fl × Nv)} : ∀ {n m : Nat} {env : Nv} {r : Out (Fl × Nv)}, whileN c b n env = some r → n ≤ m → whileN c b m env = some r
  | 0, _, _, _, h, _ => by simp [whileN] at h
  | n + 1, 0, _, _, _, h => absurd h (by omega)
  | n + 1, m + 1, env, r, h, hm => by
    unfold whileN at h ⊢
    split at h <;> try exact h
    rename_i e1 _
    split at h <;> try exact h
    rename_i e2 _
    exact whileN_mono h (by omega)
open Classical in
noncomputable def whileM (c : Nv → Out (Bool × Nv)) (b : Nv → Out (Fl × Nv)) (env : Nv) : Out (Fl × Nv) :=
  if h : ∃ n r, whileN c b n env = some r then h.choose_spec.choose else .stuck
theorem whileM_of {c : Nv → Out (Bool × Nv)} {b : Nv → Out (Fl × Nv)} {n : Nat} {env : Nv} {r : Out (Fl × Nv)} (h : whileN c b n env = some r) : whileM c b env = r := by
  have hx : ∃ n r, whileN c b n env = some r := ⟨n, r, h⟩
  unfold whileM
  rw [dif_pos hx]
  have h1 := hx.choose_spec.choose_spec
  have e1 := whileN_mono h (Nat.le_max_left n hx.choose)
  have e2 := whileN_mono h1 (Nat.le_max_right n hx.choose)
  rw [e1] at e2
  exact (Option.some.inj e2).symm
theorem whileM_eq (c : Nv → Out (Bool × Nv)) (b : Nv → Out (Fl × Nv)) (env : Nv) : whileM c b env = (c env).bind fun r => match r.1 with
    | false => .ok (.next, r.2)
    | true => (b r.2).bind fun q => match q.1 with
      | .next => whileM c b q.2
      | .ret v => .ok (.ret v, q.2) := by
  have key : ∀ r, whileN c b 1 env = some r → whileM c b env = r := fun r h => whileM_of h
  cases e1 : c env with
  | stuck => exact key _ (by simp [whileN, e1])
  | exc x => exact key _ (by simp [whileN, e1])
  | ok r =>
    obtain ⟨t, env1⟩ := r
    cases t with
    | false => exact key _ (by simp [whileN, e1])
    | true =>
      show whileM c b env = (b env1).bind fun q => match q.1 with
        | .next => whileM c b q.2
        | .ret v => .ok (.ret v, q.2)
      cases e2 : b env1 with
      | stuck => exact key _ (by simp [whileN, e1, e2])
      | exc x => exact key _ (by simp [whileN, e1, e2])
      | ok q =>
        obtain ⟨f, env2⟩ := q
        cases f with
        | ret v => exact key _ (by simp [whileN, e1, e2])
        | next =>
          show whileM c b env = whileM c b env2
          by_cases hx : ∃ n r, whileN c b n env2 = some r
          · obtain ⟨n, r, h⟩ := hx
            rw [whileM_of h]
            exact whileM_of (n := n + 1) (by simp [whileN, e1, e2, h])
          · have h1 : whileM c b env2 = .stuck := by unfold whileM; rw [dif_neg hx]
            rw [h1]
            unfold whileM
            rw [dif_neg]
            rintro ⟨n, r, h⟩
            cases n with
            | zero => simp [whileN] at h
            | succ n => exact hx ⟨n, r, by simpa [whileN, e1, e2] using h⟩

/-! ### binding -/
def setS (env : Nv) (i : Nat) (s : Slot) : Nv := env.set i s
/-- an item bound to one name, or to several -/
def bindV : List Nat → D → Nv → Option Nv
  | [i], d, env => some (env.set i (.val d))
  | is, .tup ds, env => if is.length = ds.length then some ((is.zip ds).foldl (fun e p => e.set p.1 (.val p.2)) env) else none
  | _, _, _ => none
def wipeS (env : Nv) : List Nat → Nv
  | [] => env
  | v :: vs => (wipeS env vs).set v .emp
/-- the comprehension's own names as they were -/
def backS (env env' : Nv) : List Nat → Nv
  | [] => env'
  | v :: vs => (backS env env' vs).set v (env.getD v .emp)
def slotOf : Res → Option Slot
  | .val d => some (.val d)
  | .new c => some (.own c)
  | .ref _ => none
/-- a list comprehension's turns: tests and elements by the environment; what is made so far -/
def lcM (bind : D → Nv → Option Nv) (tst : Nv → Out (Bool × Nv)) (elt : Nv → Out (D × Nv)) (vs : List Nat) : List D → Nv → Out (List D × Nv)
  | [], env => .ok ([], env)
  | d :: ds, env => (Out.of (bind d env)).bind fun e1 => (tst e1).bind fun t => match t.1 with
    | false => lcM bind tst elt vs ds (wipeS t.2 vs)
    | true => (elt t.2).bind fun x => (lcM bind tst elt vs ds (wipeS x.2 vs)).bind fun r => .ok (x.1 :: r.1, r.2)

/-! ### evaluation -/
structure Cxt where
  call : Nat → List D → Out Res
  glob : Nat → Option D
  tups : Nat → Option (List Str)
  /-- of two classes of exceptions: does the first stand under the second? -/
  sub : Str → Str → Option Bool
  /-- two calls more may be made -/
  deep : Bool
  /-- a call that changes a list: what is handed back (none: that list), the list behind -/
  callM : Nat → List D → Cell → Out (Option D × Cell)

def lastR : List Res → Option (List Res × Res)
  | [] => none
  | [r] => some ([], r)
  | r :: s :: rs => (lastR (s :: rs)).map fun q => (r :: q.1, q.2)
def valRs : List Res → Option (List D)
  | [] => some []
  | .val d :: rs => (valRs rs).map (d :: ·)
  | _ :: _ => none
def ownAt (env : Nv) (i : Nat) : Option Cell := match env[i]? with
  | some (.own c) => some c
  | _ => none
def selfR (i : Nat) : Option D → Res
  | some d => .val d
  | none => .ref i
def selfN (c : Cell) : Option D → Res
  | some d => .val d
  | none => .new c
/-- what a def hands back: an own slot's cell goes with it -/
def Res.out (env : Nv) : Res → Option Res
  | .ref i => match env[i]? with
    | some (.own c) => some (.new c)
    | _ => none
  | r => some r
def Res.bool : Res → Option Bool
  | .val (.bl b) => some b
  | _ => none
def deref (env : Nv) : List Res → Option (List D)
  | [] => some []
  | r :: rs => do
    let d ← r.get env
    let ds ← deref env rs
    some (d :: ds)
def anyRef : List Res → Bool
  | [] => false
  | .ref _ :: _ => true
  | _ :: rs => anyRef rs
/-- a callee's answer: where an own cell was lent, nothing that could name it comes back -/
def lent (rs : List Res) (o : Out Res) : Out Res := o.bind fun r => if !anyRef rs || r.solid then .ok r else .stuck
def noExc {α : Type} : Out α → Out α
  | .exc _ => .stuck
  | o => o
@[simp] theorem noExc_ok {α : Type} (a : α) : noExc (Out.ok a) = .ok a := rfl
/-- items that stay as they are: not a slot's own -/
def noRef : List Res → Option (List D)
  | [] => some []
  | .ref _ :: _ => none
  | .val d :: rs => (noRef rs).map (d :: ·)
  | .new c :: rs => (noRef rs).map (c.d :: ·)
def itemsIt : D → Option (List D)
  | .lst ds => some ds
  | .tup ds => some ds
  | .str s => some (s.cps.toList.map fun c => .str ⟨#[c]⟩)
  | _ => none
def opRng : List D → Option (List D)
  | [.int j] => if rngOk j then some (rngD 0 j) else none
  | [.int i, .int j] => if rngOk i && rngOk j then some (rngD i j) else none
  | _ => none
def seqOf : D → Option (List D)
  | .lst ds => some ds
  | .tup ds => some ds
  | _ => none
def lstOf : D → Option (List D)
  | .lst ds => some ds
  | _ => none
def zipOf (x y : D) : Option (List D × List D) := (seqOf x).bind fun xs => (seqOf y).map fun ys => (xs, ys)
def enumD (k : Nat) : List D → List D
  | [] => []
  | d :: ds => .tup [.int k, d] :: enumD (k + 1) ds
def zipD : List D → List D → List D
  | x :: xs, y :: ys => .tup [x, y] :: zipD xs ys
  | _, _ => []
/-- the own slots that are walked -/
def refsOf : List Res → List Nat
  | [] => []
  | .ref i :: rs => i :: refsOf rs
  | _ :: rs => refsOf rs

def strR : Res → Option Str
  | .val (.str z) => some z
  | _ => none
def intR : Res → Option Int
  | .val (.int z) => some z
  | _ => none
def idxS (z : Str) : List Str → Option Nat
  | [] => none
  | y :: r => if y = z then some 0 else (idxS z r).map (· + 1)
def nthS (i : Int) (ys : List Str) : Option Str := if 0 ≤ i then ys[i.toNat]? else none
/-- a dict of one pair -/
def disK : List D → Option Cell
  | [k, v] => k.key.map fun k => .dK [(k, v)]
  | _ => none
def disT : List D → Option Cell
  | [k, v] => k.keyT.map fun k => .dT [(k, v)]
  | _ => none
def revD : D → Option (List D)
  | .lst ds => some ds.reverse
  | _ => none
def subAny (sub : Str → Str → Option Bool) (x : Str) : List Str → Option Bool
  | [] => some false
  | c :: cs => (sub x c).bind fun b => (subAny sub x cs).map fun r => b || r
def isEx (sub : Str → Str → Option Bool) (cs : List Str) : D → Option Bool
  | .exn x _ => subAny sub x cs
  | _ => none
def atOf (sub : Str → Str → Option Bool) : D → Option Int
  | .exn y (some i) => (sub y y).map fun _ => i
  | _ => none
/-- an exception leaves the slots that were touched behind, without what stood there -/
def wipeH (b : I) (env : Nv) : Nv := env.mapIdx fun j s => if b.hits j then .emp else s
mutual
noncomputable def evE (cx : Cxt) : I → Nv → Out (Res × Nv)
  | .var i, env => match env[i]? with
    | some (.val d) => .ok (.val d, env)
    | some (.own _) => .ok (.ref i, env)
    | _ => .stuck
  | .kI i, env => .ok (.val (.int i), env)
  | .kS s, env => .ok (.val (.str s), env)
  | .kB b, env => .ok (.val (.bl b), env)
  | .kN, env => .ok (.val .non, env)
  | .glob n, env => (Out.of (cx.glob n)).bind fun d => .ok (.val d, env)
  | .bin op a b, env => (evE cx a env).bind fun ra => (evE cx b ra.2).bind fun rb =>
      (Out.of (ra.1.get rb.2)).bind fun x => (Out.of (rb.1.get rb.2)).bind fun y => (opBin op x y).bind fun r => .ok (r, rb.2)
  | .neg a, env => (evE cx a env).bind fun ra => (Out.of (ra.1.get ra.2)).bind fun x => (opNeg x).bind fun r => .ok (.val r, ra.2)
  | .not_ a, env => (evE cx a env).bind fun ra => (Out.of ra.1.bool).bind fun b => .ok (.val (.bl (!b)), ra.2)
  | .cmp op a b, env => (evE cx a env).bind fun ra => (evE cx b ra.2).bind fun rb =>
      (Out.of (ra.1.get rb.2)).bind fun x => (Out.of (rb.1.get rb.2)).bind fun y => (opCmp op x y).bind fun r => .ok (.val (.bl r), rb.2)
  | .cmp2 o1 o2 a b c, env => (evE cx a env).bind fun ra => (evE cx b ra.2).bind fun rb =>
      (Out.of (ra.1.get rb.2)).bind fun x => (Out.of (rb.1.get rb.2)).bind fun y => (opCmp o1 x y).bind fun t => match t with
        | false => .ok (.val (.bl false), rb.2)
        | true => (evE cx c rb.2).bind fun rc => (Out.of (rb.1.get rc.2)).bind fun y => (Out.of (rc.1.get rc.2)).bind fun z => (opCmp o2 y z).bind fun r => .ok (.val (.bl r), rc.2)
  | .and_ a b, env => (evE cx a env).bind fun ra => (Out.of ra.1.bool).bind fun t => match t with
      | false => .ok (.val (.bl false), ra.2)
      | true => evE cx b ra.2
  | .or_ a b, env => (evE cx a env).bind fun ra => (Out.of ra.1.bool).bind fun t => match t with
      | true => .ok (.val (.bl true), ra.2)
      | false => evE cx b ra.2
  | .ite c a b, env => (evE cx c env).bind fun rc => (Out.of rc.1.bool).bind fun t => match t with
      | true => evE cx a rc.2
      | false => evE cx b rc.2
  | .tup a, env => (evA cx a env).bind fun r => (Out.of (noRef r.1)).bind fun ds => if ds.length ≤ 16777216 then .ok (.val (.tup ds), r.2) else .stuck
  | .lst a, env => (evA cx a env).bind fun r => (Out.of (noRef r.1)).bind fun ds => if ds.length ≤ 16777216 then .ok (.new (.lst ds), r.2) else .stuck
  | .dk0, env => .ok (.new (.dK []), env)
  | .dt0, env => .ok (.new (.dT []), env)
  | .idx a b, env => (evE cx a env).bind fun ra => (evE cx b ra.2).bind fun rb =>
      (Out.of (ra.1.get rb.2)).bind fun x => (Out.of (rb.1.get rb.2)).bind fun y => (opIdx x y).bind fun r => .ok (.val r, rb.2)
  | .sl a l h, env => (evE cx a env).bind fun ra => (evP cx l ra.2).bind fun rl => (evP cx h rl.2).bind fun rh =>
      (Out.of (ra.1.get rh.2)).bind fun x => (opSl x rl.1 rh.1).bind fun r => .ok (r, rh.2)
  | .call n a, env => (evA cx a env).bind fun r => (Out.of (deref r.2 r.1)).bind fun ds => (lent r.1 (cx.call n ds)).bind fun v => .ok (v, r.2)
  | .callM n a ix, env => (evA cx a env).bind fun r => (Out.of (lastR r.1)).bind fun q => (Out.of (valRs q.1)).bind fun ds => match q.2, ix with
      | .ref i, some j => if i = j then (Out.of (ownAt r.2 i)).bind fun c => (cx.callM n ds c).bind fun o => .ok (selfR i o.1, r.2.set i (.own o.2)) else .stuck
      | .new c, none => (cx.callM n ds c).bind fun o => .ok (selfN o.2 o.1, r.2)
      | _, _ => .stuck
  | .bi b a, env => (evA cx a env).bind fun r => (Out.of (deref r.2 r.1)).bind fun ds => (opBi b ds).bind fun v => .ok (v, r.2)
  | .me m o a, env => (evE cx o env).bind fun ro => (Out.of (ro.1.get ro.2)).bind fun x0 => if m.fits x0 = true then
      (evA cx a ro.2).bind fun r => (Out.of (ro.1.get r.2)).bind fun x => (Out.of (deref r.2 r.1)).bind fun ds => (opMe m x ds).bind fun v => .ok (v, r.2)
      else .stuck
  | .mu m i a, env => match env[i]? with
      | some (.own c0) => if m.fits c0 = true then (evA cx a env).bind fun r => (Out.of (noRef r.1)).bind fun ds => match r.2[i]? with
        | some (.own c) => (opMu m c ds).bind fun q => .ok (.val q.1, r.2.set i (.own q.2))
        | _ => .stuck
        else .stuck
      | _ => .stuck
  | .dispK k v, env => (evE cx k env).bind fun rk => (evE cx v rk.2).bind fun rv => (Out.of (noRef [rk.1, rv.1])).bind fun ds => (Out.of (disK ds)).bind fun c => .ok (.new c, rv.2)
  | .dispT k v, env => (evE cx k env).bind fun rk => (evE cx v rk.2).bind fun rv => (Out.of (noRef [rk.1, rv.1])).bind fun ds => (Out.of (disT ds)).bind fun c => .ok (.new c, rv.2)
  | .revL a, env => (evE cx a env).bind fun ra => (Out.of (ra.1.get ra.2)).bind fun x => (Out.of (revD x)).bind fun ds => .ok (.new (.lst ds), ra.2)
  | .isE cs a, env => (evE cx a env).bind fun ra => (Out.of (ra.1.get ra.2)).bind fun x => (Out.of (isEx cx.sub cs x)).bind fun b => .ok (.val (.bl b), ra.2)
  | .atE a, env => (evE cx a env).bind fun ra => (Out.of (ra.1.get ra.2)).bind fun x => (Out.of (atOf cx.sub x)).bind fun i => .ok (.val (.int i), ra.2)
  | .gIx n a, env => (evE cx a env).bind fun r => (Out.of (strR r.1)).bind fun z => (Out.of (cx.tups n)).bind fun ys => (Out.of (idxS z ys)).bind fun j => .ok (.val (.int (j : Nat)), r.2)
  | .gAt n a, env => (evE cx a env).bind fun r => (Out.of (intR r.1)).bind fun i => (Out.of (cx.tups n)).bind fun ys => (Out.of (nthS i ys)).bind fun z => .ok (.val (.str z), r.2)
  | .lc e vs src tst, env => (evIt cx src env).bind fun r =>
      if r.1.2.any (fun i => e.hits i || tst.hits i || vs.contains i) || decide (16777216 < r.1.1.length) then .stuck else
      (noExc (lcM (bindV vs) (evTs cx tst) (fun en => (evE cx e en).bind fun x => (Out.of (noRef [x.1])).bind fun d => .ok (d.headD .non, x.2)) vs r.1.1 (wipeS r.2 vs))).bind fun q =>
        .ok (.new (.lst q.1), backS r.2 q.2 vs)
  | _, _ => .stuck
/-- arguments -/
noncomputable def evA (cx : Cxt) : I → Nv → Out (List Res × Nv)
  | .nil, env => .ok ([], env)
  | .cons a b, env => (evE cx a env).bind fun ra => (evA cx b ra.2).bind fun rb => .ok (ra.1 :: rb.1, rb.2)
  | _, _ => .stuck
/-- a slice's part -/
noncomputable def evP (cx : Cxt) : I → Nv → Out (Option Int × Nv)
  | .none_, env => .ok (none, env)
  | a, env => (evE cx a env).bind fun ra => match ra.1 with
    | .val (.int i) => .ok (some i, ra.2)
    | _ => .stuck
/-- a comprehension's test -/
noncomputable def evTs (cx : Cxt) : I → Nv → Out (Bool × Nv)
  | .none_, env => .ok (true, env)
  | a, env => (evE cx a env).bind fun ra => (Out.of ra.1.bool).bind fun b => .ok (b, ra.2)
/-- what is walked: the items, the own slots that they stand in -/
noncomputable def evIt (cx : Cxt) : I → Nv → Out ((List D × List Nat) × Nv)
  | .iRng a, env => (evA cx a env).bind fun r => (Out.of (noRef r.1)).bind fun ds => (Out.of (opRng ds)).bind fun is => .ok ((is, []), r.2)
  | .iEnum a, env => (evE cx a env).bind fun r => (Out.of (r.1.get r.2)).bind fun d => (Out.of (lstOf d)).bind fun ds => .ok ((enumD 0 ds, refsOf [r.1]), r.2)
  | .iZip a b, env => (evE cx a env).bind fun ra => (evE cx b ra.2).bind fun rb => (Out.of (ra.1.get rb.2)).bind fun x => (Out.of (rb.1.get rb.2)).bind fun y =>
      (Out.of (zipOf x y)).bind fun q => .ok ((zipD q.1 q.2, refsOf [ra.1, rb.1]), rb.2)
  | .iEZ a b, env => (evE cx a env).bind fun ra => (evE cx b ra.2).bind fun rb => (Out.of (ra.1.get rb.2)).bind fun x => (Out.of (rb.1.get rb.2)).bind fun y =>
      (Out.of (lstOf x)).bind fun xs => (Out.of (lstOf y)).bind fun ys => .ok ((enumD 0 (zipD xs ys), refsOf [ra.1, rb.1]), rb.2)
  | .iRev a, env => (evE cx a env).bind fun r => (Out.of (r.1.get r.2)).bind fun d => (Out.of (seqOf d)).bind fun ds => .ok ((ds.reverse, refsOf [r.1]), r.2)
  | a, env => (evE cx a env).bind fun r => (Out.of (r.1.get r.2)).bind fun d => (Out.of (itemsIt d)).bind fun ds => .ok ((ds, refsOf [r.1]), r.2)
end
noncomputable def evT (cx : Cxt) (a : I) (env : Nv) : Out (Bool × Nv) := (evE cx a env).bind fun ra => (Out.of ra.1.bool).bind fun b => .ok (b, ra.2)

noncomputable def evS (cx : Cxt) : I → Nv → Out (Fl × Nv)
  | .pass, env => .ok (.next, env)
  | .expr a, env => (evE cx a env).bind fun r => .ok (.next, r.2)
  | .asg i a, env => (evE cx a env).bind fun r => (Out.of (slotOf r.1)).bind fun s => .ok (.next, r.2.set i s)
  | .asgT is a, env => (evE cx a env).bind fun r => match r.1 with
    | .val (.tup ds) => (Out.of (bindV is (.tup ds) r.2)).bind fun e => .ok (.next, e)
    | _ => .stuck
  | .put i k v, env => (evE cx v env).bind fun rv => (Out.of (noRef [rv.1])).bind fun d => match rv.2[i]? with
    | some (.own _) => (evE cx k rv.2).bind fun rk => match rk.1, rk.2[i]? with
      | .val kd, some (.own c) => (Out.of (c.put kd (d.headD .non))).bind fun c' => .ok (.next, rk.2.set i (.own c'))
      | _, _ => .stuck
    | _ => .stuck
  | .if_ c a b, env => (evT cx c env).bind fun t => match t.1 with
    | true => evS cx a t.2
    | false => evS cx b t.2
  | .for_ vs src b, env => (evIt cx src env).bind fun r => if r.1.2.any (fun i => b.hits i || vs.contains i) then .stuck else forM (bindV vs) (evS cx b) r.1.1 r.2
  | .while_ c b, env => whileM (evT cx c) (evS cx b) env
  | .ret a, env => (evE cx a env).bind fun r => (Out.of (r.1.out r.2)).bind fun v => .ok (.ret v, r.2)
  | .retN, env => .ok (.ret (.val .non), env)
  | .retM i, env => match env[i]? with
    | some (.own _) => .ok (.ret (.ref i), env)
    | _ => .stuck
  | .raise c, env => .exc ⟨c, none⟩
  | .raiseA c a, env => match cx.deep with
    | true => (evE cx a env).bind fun r => (Out.of (intR r.1)).bind fun i => .exc ⟨c, some i⟩
    | false => .stuck
  | .try_ b c ix h, env => match evS cx b env with
    | .stuck => .stuck
    | .ok r => .ok r
    | .exc x => (Out.of (cx.sub x.cls c)).bind fun t => match t with
      | false => .exc x
      | true => match ix with
        | none => noExc (evS cx h (wipeH b env))
        | some i => (noExc (evS cx h ((wipeH b env).set i (.val (.exn x.cls x.at_))))).bind fun r => .ok (r.1, r.2.set i .emp)
  | .frz i, env => match env[i]? with
    | some (.own c) => .ok (.next, env.set i (.val c.d))
    | _ => .ok (.next, env)
  | .done, env => .ok (.next, env)
  | .seq a b, env => (evS cx a env).bind fun r => match r.1 with
    | .next => evS cx b r.2
    | .ret v => .ok (.ret v, r.2)
  | _, _ => .stuck
end PyI

end
section
set_option autoImplicit false
/-! PyB: how data stands in the heap; states; steps. -/
namespace PyI
open PySem PySem.Spec PyProof.Rows L2 RZ RT

abbrev strOk (x : Str) : Bool := PySem.PyData.strOk x
/-- a list that stays: frozen by F, the script, or the module's own -/
def LstAt (K : PySem.W.Frag) (F : Addr → Prop) (H : Hp) (a : Addr) (xs : List V) : Prop :=
  (H a = some (.lst xs) ∧ F a) ∨ (∃ o, H a = some (.frz o (.lst xs))) ∨
    ∃ (o : Obj) (its : Array Value) (n : Nat), K.lookup a = some o ∧ o.cls = .type "list" ∧ o.dict = none ∧ o.data = .seq its n ∧ its.size ≤ sizeLine ∧ Vals xs its.toList
theorem LstAt.sq {K : PySem.W.Frag} {F : Addr → Prop} {H : Hp} {a : Addr} {xs : List V} (h : LstAt K F H a xs) : SqL K H a xs := by
  rcases h with ⟨h, _⟩ | ⟨o, h⟩ | h
  · exact .inl (.inl h)
  · exact .inl (.inr ⟨o, h⟩)
  · exact .inr h

/-- an exception's object, of the class cls -/
def ExcO (cls : Value) (d : Option Addr) (a : Addr) : HO := .ext fun h => ∃ (oe : Obj) (vs : Array Value), h.get? a = some oe ∧ (oe.cls = cls ∧ oe.dict = d) ∧ oe.data = .fields vs
/-- its fields -/
def XdAt (H : Hp) (d : Option Addr) : Option Int → Prop
  | none => d = none
  | some i => ∃ dd fs, d = some dd ∧ H dd = some (.xd fs) ∧ fs.lookup ("at" : Str) = some (V.int i)
mutual
inductive Rep (K : PySem.W.Frag) (F : Addr → Prop) (H : Hp) : V → D → Prop
  | non : Rep K F H .non .non
  | bl (b : Bool) : Rep K F H (.bl b) (.bl b)
  | int (i : Int) : Rep K F H (.int i) (.int i)
  | str {x : Str} : strOk x = true → Rep K F H (.str x) (.str x)
  | tup {a : Addr} {xs : List V} {ds : List D} : H a = some (.tup xs) → RepL K F H xs ds → Rep K F H (.ref a) (.tup ds)
  | lst {a : Addr} {xs : List V} {ds : List D} : LstAt K F H a xs → RepL K F H xs ds → Rep K F H (.ref a) (.lst ds)
  | dK {a : Addr} {kvs : List (Key × V)} {ds : List D} : H a = some (.dK kvs) → F a → RepL K F H (kvs.map (·.2)) ds → Rep K F H (.ref a) (.dK (kvs.map (·.1)) ds)
  | dT {a : Addr} {kvs : List (List Key × V)} {ds : List D} : H a = some (.dT kvs) → F a → RepL K F H (kvs.map (·.2)) ds → Rep K F H (.ref a) (.dT (kvs.map (·.1)) ds)
  | exn {a : Addr} {cls : Str} {at_ : Option Int} {d : Option Addr} : H a = some (ExcO (.ref (He.ga K cls)) d a) → XdAt H d at_ → Rep K F H (.ref a) (.exn cls at_)
inductive RepL (K : PySem.W.Frag) (F : Addr → Prop) (H : Hp) : List V → List D → Prop
  | nil : RepL K F H [] []
  | cons {v : V} {vs : List V} {d : D} {ds : List D} : Rep K F H v d → RepL K F H vs ds → RepL K F H (v :: vs) (d :: ds)
end
section
variable {K : PySem.W.Frag} {F F' : Addr → Prop} {H H' : Hp}
theorem RepL.length : ∀ {xs : List V} {ds : List D}, RepL K F H xs ds → xs.length = ds.length
  | _, _, .nil => rfl
  | _, _, .cons _ t => by simp [RepL.length t]
theorem RepL.get : ∀ {xs : List V} {ds : List D} {i : Nat} {x : V}, RepL K F H xs ds → xs[i]? = some x → ∃ d, ds[i]? = some d ∧ Rep K F H x d
  | _, _, _, _, .nil, e => by simp at e
  | _, _, 0, _, .cons r _, e => by simp at e; subst e; exact ⟨_, by simp, r⟩
  | _, _, i + 1, x, .cons _ t, e => by
    obtain ⟨d, h1, h2⟩ := RepL.get (i := i) (x := x) t (by simpa using e)
    exact ⟨d, by simpa using h1, h2⟩
theorem RepL.get' : ∀ {xs : List V} {ds : List D} {i : Nat} {d : D}, RepL K F H xs ds → ds[i]? = some d → ∃ x, xs[i]? = some x ∧ Rep K F H x d
  | _, _, _, _, .nil, e => by simp at e
  | _, _, 0, _, .cons r _, e => by simp at e; subst e; exact ⟨_, by simp, r⟩
  | _, _, i + 1, x, .cons _ t, e => by
    obtain ⟨d, h1, h2⟩ := RepL.get' (i := i) (d := x) t (by simpa using e)
    exact ⟨d, by simpa using h1, h2⟩
theorem RepL.append : ∀ {xs : List V} {ds : List D} {ys : List V} {es : List D}, RepL K F H xs ds → RepL K F H ys es → RepL K F H (xs ++ ys) (ds ++ es)
  | _, _, _, _, .nil, s => s
  | _, _, _, _, .cons r t, s => .cons r (RepL.append t s)
theorem RepL.take : ∀ {xs : List V} {ds : List D} (n : Nat), RepL K F H xs ds → RepL K F H (xs.take n) (ds.take n)
  | _, _, 0, _ => .nil
  | _, _, _ + 1, .nil => .nil
  | _, _, n + 1, .cons r t => .cons r (RepL.take n t)
theorem RepL.drop : ∀ {xs : List V} {ds : List D} (n : Nat), RepL K F H xs ds → RepL K F H (xs.drop n) (ds.drop n)
  | _, _, 0, r => r
  | _, _, _ + 1, .nil => .nil
  | _, _, n + 1, .cons _ t => RepL.drop n t
theorem RepL.set {x : V} {d : D} (r : Rep K F H x d) : ∀ {xs : List V} {ds : List D} (i : Nat), RepL K F H xs ds → RepL K F H (xs.set i x) (ds.set i d)
  | _, _, _, .nil => .nil
  | _, _, 0, .cons _ t => .cons r t
  | _, _, i + 1, .cons q t => .cons q (RepL.set r i t)
theorem RepL.reverse {xs : List V} {ds : List D} (h : RepL K F H xs ds) : RepL K F H xs.reverse ds.reverse := by
  induction xs generalizing ds with
  | nil => cases h; exact .nil
  | cons x xs ih =>
    cases h with
    | cons r t =>
      rw [List.reverse_cons, List.reverse_cons]
      exact (ih t).append (.cons r .nil)
theorem RepL.dropLast {xs : List V} {ds : List D} (h : RepL K F H xs ds) : RepL K F H xs.dropLast ds.dropLast := by
  rw [List.dropLast_eq_take, List.dropLast_eq_take, h.length]
  exact h.take _
theorem RepL.flat {xs : List V} {ds : List D} (h : RepL K F H xs ds) : ∀ k : Nat, RepL K F H (List.replicate k xs).flatten (List.replicate k ds).flatten
  | 0 => .nil
  | k + 1 => by
    rw [List.replicate_succ, List.flatten_cons, List.replicate_succ, List.flatten_cons]
    exact h.append (RepL.flat h k)
end

/-! ### steps of the state -/
/-- a list or a dict that may be written -/
def IsCell (H : Hp) (a : Addr) : Prop := (∃ xs, H a = some (.lst xs)) ∨ (∃ kvs, H a = some (.dK kvs)) ∨ ∃ kvs, H a = some (.dT kvs)
/-- all that is tracked stays, but for what O holds -/
structure Go (O F : Addr → Prop) (H : Hp) (F' : Addr → Prop) (H' : Hp) : Prop where
  keep : ∀ b o, H b = some o → ¬ O b → H' b = some o
  stay : ∀ b, H b ≠ none → H' b ≠ none
  up : ∀ b, F b → F' b
  new : ∀ b, F' b → F b ∨ H b = none
  fro : (∀ b, F b → H b ≠ none) → ∀ b, F' b → H' b ≠ none
/-- what O holds: cells that are not frozen -/
def OwnOk (O F : Addr → Prop) (H : Hp) : Prop := ∀ a, O a → ¬ F a ∧ IsCell H a
section
variable {K : PySem.W.Frag} {O O' F F' F'' : Addr → Prop} {H H' H'' : Hp}
theorem Go.refl : Go O F H F H := ⟨fun _ _ e _ => e, fun _ h => h, fun _ h => h, fun _ h => .inl h, fun h => h⟩
theorem Go.trans (a : Go O F H F' H') (b : Go O F' H' F'' H'') : Go O F H F'' H'' :=
  ⟨fun c o e n => b.keep c o (a.keep c o e n) n, fun c h => b.stay c (a.stay c h), fun c h => b.up c (a.up c h), fun c h => by
    rcases b.new c h with h | h
    · exact a.new c h
    · exact .inr (Classical.byContradiction fun z => a.stay c z h), fun h => b.fro (a.fro h)⟩
theorem Go.mono (a : Go O F H F' H') (h : ∀ b, O b → O' b) : Go O' F H F' H' := ⟨fun b o e n => a.keep b o e fun z => n (h b z), a.stay, a.up, a.new, a.fro⟩
theorem Go.back (a : Go O F H F' H') {b : Addr} (h : H' b = none) : H b = none := Classical.byContradiction fun z => a.stay b z h
/-- nothing but new objects -/
theorem Go.ex (h : ∀ b o, H b = some o → H' b = some o) : Go O F H F H' :=
  ⟨fun b o e _ => h b o e, fun b n z => (by
    cases e : H b with
    | none => exact n e
    | some o => rw [h b o e] at z; cases z), fun _ h => h, fun _ h => .inl h, fun g b f z => (by
    cases e : H b with
    | none => exact g b f e
    | some o => rw [h b o e] at z; cases z)⟩
theorem Go.upd {p : Addr} {o : HO} (hp : H p = none) : Go O F H F (upd H p o) := Go.ex fun b x e => by rw [upd_ne (ne_of_none e hp)]; exact e
theorem tup_go {a : Addr} {xs : List V} (g : Go O F H F' H') (ok : OwnOk O F H) (h : H a = some (.tup xs)) : H' a = some (.tup xs) := g.keep _ _ h fun z => by
  rcases (ok a z).2 with ⟨_, c⟩ | ⟨_, c⟩ | ⟨_, c⟩ <;> rw [h] at c <;> cases c
theorem not_cell {a : Addr} {o : HO} (ok : OwnOk O F H) (h : H a = some o) (hl : ∀ xs, o ≠ .lst xs) (hk : ∀ xs, o ≠ .dK xs) (ht : ∀ xs, o ≠ .dT xs) : ¬ O a := fun z => by
  rcases (ok a z).2 with ⟨_, c⟩ | ⟨_, c⟩ | ⟨_, c⟩ <;> rw [h] at c <;> cases c
  · exact hl _ rfl
  · exact hk _ rfl
  · exact ht _ rfl
theorem XdAt.go {d : Option Addr} {i : Option Int} (g : Go O F H F' H') (ok : OwnOk O F H) (h : XdAt H d i) : XdAt H' d i := by
  cases i with
  | none => exact h
  | some i =>
    obtain ⟨dd, fs, h1, h2, h3⟩ := h
    exact ⟨dd, fs, h1, g.keep _ _ h2 (not_cell ok h2 (fun _ z => nomatch z) (fun _ z => nomatch z) fun _ z => nomatch z), h3⟩
theorem exc_go {a : Addr} {c : Value} {d : Option Addr} (g : Go O F H F' H') (ok : OwnOk O F H) (h : H a = some (ExcO c d a)) : H' a = some (ExcO c d a) :=
  g.keep _ _ h (not_cell ok h (fun _ z => nomatch z) (fun _ z => nomatch z) fun _ z => nomatch z)
theorem LstAt.go {a : Addr} {xs : List V} (g : Go O F H F' H') (ok : OwnOk O F H) (h : LstAt K F H a xs) : LstAt K F' H' a xs := by
  rcases h with ⟨h, f⟩ | ⟨o, h⟩ | h
  · exact .inl ⟨g.keep _ _ h fun z => (ok a z).1 f, g.up _ f⟩
  · refine .inr (.inl ⟨o, g.keep _ _ h fun z => ?_⟩)
    obtain ⟨_, c⟩ := ok a z
    rcases c with ⟨_, c⟩ | ⟨_, c⟩ | ⟨_, c⟩ <;> rw [h] at c <;> cases c
  · exact .inr (.inr h)
mutual
theorem Rep.go (g : Go O F H F' H') (ok : OwnOk O F H) : ∀ {v : V} {d : D}, Rep K F H v d → Rep K F' H' v d
  | _, _, .non => .non
  | _, _, .bl b => .bl b
  | _, _, .int i => .int i
  | _, _, .str h => .str h
  | _, _, .tup h r => .tup (tup_go g ok h) (RepL.go g ok r)
  | _, _, .lst h r => .lst (LstAt.go g ok h) (RepL.go g ok r)
  | _, _, .dK h f r => .dK (g.keep _ _ h fun z => (ok _ z).1 f) (g.up _ f) (RepL.go g ok r)
  | _, _, .dT h f r => .dT (g.keep _ _ h fun z => (ok _ z).1 f) (g.up _ f) (RepL.go g ok r)
  | _, _, .exn h x => .exn (exc_go g ok h) (XdAt.go g ok x)
theorem RepL.go (g : Go O F H F' H') (ok : OwnOk O F H) : ∀ {vs : List V} {ds : List D}, RepL K F H vs ds → RepL K F' H' vs ds
  | _, _, .nil => .nil
  | _, _, .cons r t => .cons (Rep.go g ok r) (RepL.go g ok t)
end
/-- F may grow -/
theorem Rep.up {v : V} {d : D} (h : ∀ b, F b → F' b) (r : Rep K F H v d) (hn : ∀ b, F' b → F b ∨ H b = none ∨ True := fun _ _ => .inr (.inr trivial)) : Rep K F' H v d := by
  have go : ∀ (n : Nat), True := fun _ => trivial
  exact (Rep.rec (motive_1 := fun v d _ => Rep K F' H v d) (motive_2 := fun vs ds _ => RepL K F' H vs ds) .non (fun b => .bl b) (fun i => .int i) (fun h => .str h) (fun q _ ih => .tup q ih)
    (fun q _ ih => .lst (by
      rcases q with ⟨e, f⟩ | q | q
      · exact .inl ⟨e, h _ f⟩
      · exact .inr (.inl q)
      · exact .inr (.inr q)) ih) (fun q f _ ih => .dK q (h _ f) ih) (fun q f _ ih => .dT q (h _ f) ih) (fun q x => .exn q x) .nil (fun _ _ a b => .cons a b) r)
theorem RepL.up {vs : List V} {ds : List D} (h : ∀ b, F b → F' b) (r : RepL K F H vs ds) : RepL K F' H vs ds := by
  induction vs generalizing ds with
  | nil => cases r; exact .nil
  | cons v vs ih => cases r with | cons a b => exact .cons (a.up h) (ih b)
end

/-! ### cells, slots, results -/
def CellAt (K : PySem.W.Frag) (F : Addr → Prop) (H : Hp) (a : Addr) : Cell → Prop
  | .lst ds => ∃ xs, H a = some (.lst xs) ∧ RepL K F H xs ds
  | .dK kvs => ∃ vs, H a = some (.dK vs) ∧ vs.map (·.1) = kvs.map (·.1) ∧ RepL K F H (vs.map (·.2)) (kvs.map (·.2))
  | .dT kvs => ∃ vs, H a = some (.dT vs) ∧ vs.map (·.1) = kvs.map (·.1) ∧ RepL K F H (vs.map (·.2)) (kvs.map (·.2))
section
variable {K : PySem.W.Frag} {O F F' : Addr → Prop} {H H' : Hp} {a : Addr} {c : Cell}
theorem CellAt.is (h : CellAt K F H a c) : IsCell H a := by
  cases c with
  | lst ds => obtain ⟨xs, e, _⟩ := h; exact .inl ⟨xs, e⟩
  | dK kvs => obtain ⟨vs, e, _⟩ := h; exact .inr (.inl ⟨vs, e⟩)
  | dT kvs => obtain ⟨vs, e, _⟩ := h; exact .inr (.inr ⟨vs, e⟩)
theorem CellAt.there (h : CellAt K F H a c) : H a ≠ none := by
  rcases h.is with ⟨_, e⟩ | ⟨_, e⟩ | ⟨_, e⟩ <;> rw [e] <;> exact fun z => nomatch z
theorem CellAt.go (g : Go O F H F' H') (ok : OwnOk O F H) (n : ¬ O a) (h : CellAt K F H a c) : CellAt K F' H' a c := by
  cases c with
  | lst ds => obtain ⟨xs, e, r⟩ := h; exact ⟨xs, g.keep _ _ e n, r.go g ok⟩
  | dK kvs => obtain ⟨vs, e, k, r⟩ := h; exact ⟨vs, g.keep _ _ e n, k, r.go g ok⟩
  | dT kvs => obtain ⟨vs, e, k, r⟩ := h; exact ⟨vs, g.keep _ _ e n, k, r.go g ok⟩
theorem CellAt.up (h : ∀ b, F b → F' b) (r : CellAt K F H a c) : CellAt K F' H a c := by
  cases c with
  | lst ds => obtain ⟨xs, e, r⟩ := r; exact ⟨xs, e, r.up h⟩
  | dK kvs => obtain ⟨vs, e, k, r⟩ := r; exact ⟨vs, e, k, r.up h⟩
  | dT kvs => obtain ⟨vs, e, k, r⟩ := r; exact ⟨vs, e, k, r.up h⟩
/-- a frozen cell is data -/
theorem CellAt.rep (h : CellAt K F H a c) (f : F a) : Rep K F H (.ref a) c.d := by
  cases c with
  | lst ds => obtain ⟨xs, e, r⟩ := h; exact .lst (.inl ⟨e, f⟩) r
  | dK kvs =>
    obtain ⟨vs, e, k, r⟩ := h
    show Rep K F H (.ref a) (.dK (kvs.map (·.1)) (kvs.map (·.2)))
    rw [← k]
    exact .dK e f r
  | dT kvs =>
    obtain ⟨vs, e, k, r⟩ := h
    show Rep K F H (.ref a) (.dT (kvs.map (·.1)) (kvs.map (·.2)))
    rw [← k]
    exact .dT e f r
end

/-- the cells that the slots own -/
def Own (σ : L2.St) (env : Nv) (a : Addr) : Prop := ∃ (i : Nat) (c : Cell), env[i]? = some (Slot.own c) ∧ σ[i]? = some (some (V.ref a))
/-- fixed through a def's body: the heap ahead of it (without a list handed in to be changed), the slots that keep their object -/
structure Bs where
  h : Hp
  pin : Nat → Bool
structure Sim (K : PySem.W.Frag) (H0 : Bs) (F : Addr → Prop) (H : Hp) (σ : L2.St) (env : Nv) : Prop where
  len : σ.length = env.length
  val : ∀ (i : Nat) d, env[i]? = some (Slot.val d) → ∃ v, σ[i]? = some (some v) ∧ Rep K F H v d
  own : ∀ (i : Nat) c, env[i]? = some (Slot.own c) → ∃ a, σ[i]? = some (some (V.ref a)) ∧ CellAt K F H a c ∧ ¬ F a ∧ H0.h a = none
  sep : ∀ (i j : Nat) c c' a, env[i]? = some (Slot.own c) → env[j]? = some (Slot.own c') → σ[i]? = some (some (V.ref a)) → σ[j]? = some (some (V.ref a)) → i = j
  old : ∀ b, H b = none → H0.h b = none
  fro : ∀ b, F b → H b ≠ none
section
variable {K : PySem.W.Frag} {H0 : Bs} {F F' F'' : Addr → Prop} {H H' H'' : Hp} {σ : L2.St} {env env' env'' : Nv} {a : Addr} {v : V} {d : D} {r : Res}
theorem Sim.ok (S : Sim K H0 F H σ env) : OwnOk (Own σ env) F H := fun a ⟨i, c, e, hs⟩ => by
  obtain ⟨b, h1, h2, h3, _⟩ := S.own i c e
  rw [hs] at h1; cases h1
  exact ⟨h3, h2.is⟩
theorem Sim.new (S : Sim K H0 F H σ env) (h : H a = none) : ¬ Own σ env a := fun z => by
  rcases (S.ok a z).2 with ⟨_, e⟩ | ⟨_, e⟩ | ⟨_, e⟩ <;> rw [h] at e <;> cases e

/-- one step of an expression: the slots stay, the own cells may have changed (of those that h holds) -/
structure Stp (K : PySem.W.Frag) (H0 : Bs) (σ : L2.St) (h : Nat → Bool) (F : Addr → Prop) (H : Hp) (env : Nv) (F' : Addr → Prop) (H' : Hp) (env' : Nv) : Prop where
  sim : Sim K H0 F' H' σ env'
  go : Go (Own σ env) F H F' H'
  owns : ∀ i : Nat, (∃ c, env'[i]? = some (Slot.own c)) ↔ ∃ c, env[i]? = some (Slot.own c)
  off : ∀ j : Nat, h j = false → env'[j]? = env[j]?
variable {h h' h'' : Nat → Bool}
theorem Stp.refl (S : Sim K H0 F H σ env) : Stp K H0 σ h F H env F H env := ⟨S, Go.refl, fun _ => Iff.rfl, fun _ _ => rfl⟩
theorem Stp.ownEq (s : Stp K H0 σ h F H env F' H' env') (a : Addr) : Own σ env' a ↔ Own σ env a := by
  constructor
  · rintro ⟨i, c, e, hs⟩
    obtain ⟨c', e'⟩ := (s.owns i).mp ⟨c, e⟩
    exact ⟨i, c', e', hs⟩
  · rintro ⟨i, c, e, hs⟩
    obtain ⟨c', e'⟩ := (s.owns i).mpr ⟨c, e⟩
    exact ⟨i, c', e', hs⟩
theorem Stp.trans (s : Stp K H0 σ h F H env F' H' env') (t : Stp K H0 σ h' F' H' env' F'' H'' env'') (e1 : ∀ j, h'' j = false → h j = false) (e2 : ∀ j, h'' j = false → h' j = false) :
    Stp K H0 σ h'' F H env F'' H'' env'' :=
  ⟨t.sim, s.go.trans (t.go.mono fun b z => (s.ownEq b).mp z), fun i => (t.owns i).trans (s.owns i), fun j hj => (t.off j (e2 j hj)).trans (s.off j (e1 j hj))⟩
theorem Stp.weak (s : Stp K H0 σ h F H env F' H' env') (e : ∀ j, h' j = false → h j = false) : Stp K H0 σ h' F H env F' H' env' := ⟨s.sim, s.go, s.owns, fun j hj => s.off j (e j hj)⟩
/-- the slots stay, their cells too: new objects alone -/
theorem Sim.go (S : Sim K H0 F H σ env) (g : Go (fun _ => False) F H F' H') : Sim K H0 F' H' σ env := by
  have g' : Go (Own σ env) F H F' H' := g.mono fun _ z => z.elim
  refine ⟨S.len, fun i d e => ?_, fun i c e => ?_, S.sep, fun b e => S.old b (g.back e), g.fro S.fro⟩
  · obtain ⟨v, h1, h2⟩ := S.val i d e
    exact ⟨v, h1, h2.go g' S.ok⟩
  · obtain ⟨a, h1, h2, h3, h4⟩ := S.own i c e
    refine ⟨a, h1, ?_, fun z => ?_, h4⟩
    · exact CellAt.go (O := fun _ => False) g (fun _ z => z.elim) (fun z => z) h2
    · rcases g.new a z with z | z
      · exact h3 z
      · exact h2.there z
theorem Sim.stp (S : Sim K H0 F H σ env) (g : Go (fun _ => False) F H F' H') : Stp K H0 σ h F H env F' H' env := ⟨S.go g, g.mono fun _ z => z.elim, fun _ => Iff.rfl, fun _ _ => rfl⟩

/-- a result at hand; Hs: the heap at its expression's start -/
def RepR (K : PySem.W.Frag) (Hs : Hp) (F : Addr → Prop) (H : Hp) (σ : L2.St) (env : Nv) (v : V) : Res → Prop
  | .val d => Rep K F H v d
  | .new c => ∃ a, v = .ref a ∧ CellAt K F H a c ∧ ¬ F a ∧ ¬ Own σ env a ∧ Hs a = none
  | .ref i => ∃ a c, v = .ref a ∧ σ[i]? = some (some (V.ref a)) ∧ env[i]? = some (Slot.own c)
theorem RepR.stp {Hs : Hp} (s : Stp K H0 σ h F H env F' H' env') (S : Sim K H0 F H σ env) (q : RepR K Hs F H σ env v r) : RepR K Hs F' H' σ env' v r := by
  cases r with
  | val d => exact Rep.go s.go S.ok q
  | new c =>
    obtain ⟨a, e, h1, h2, h3, h4⟩ := q
    refine ⟨a, e, h1.go s.go S.ok h3, fun z => ?_, fun z => h3 ((s.ownEq a).mp z), h4⟩
    rcases s.go.new a z with z | z
    · exact h2 z
    · exact h1.there z
  | ref i =>
    obtain ⟨a, c, e, h1, h2⟩ := q
    obtain ⟨c', e'⟩ := (s.owns i).mpr ⟨c, h2⟩
    exact ⟨a, c', e, h1, e'⟩
/-- what may be read as d now -/
def RepV (K : PySem.W.Frag) (F : Addr → Prop) (H : Hp) (v : V) (d : D) : Prop := Rep K F H v d ∨ ∃ a c, v = .ref a ∧ c.d = d ∧ CellAt K F H a c
theorem RepR.get {Hs : Hp} (S : Sim K H0 F H σ env) (q : RepR K Hs F H σ env v r) (e : r.get env = some d) : RepV K F H v d := by
  cases r with
  | val d' => cases e; exact .inl q
  | new c =>
    cases e
    obtain ⟨a, e, h1, _⟩ := q
    exact .inr ⟨a, c, e, rfl, h1⟩
  | ref i =>
    obtain ⟨a, c, e', h1, h2⟩ := q
    have e3 : some c.d = some d := by
      have : Res.get env (.ref i) = some c.d := by simp [Res.get, h2]
      rw [← this]; exact e
    cases e3
    obtain ⟨b, h3, h4, _⟩ := S.own i c h2
    rw [h1] at h3; cases h3
    exact .inr ⟨a, c, e', rfl, h4⟩
end
inductive RepRs (K : PySem.W.Frag) (Hs : Hp) (F : Addr → Prop) (H : Hp) (σ : L2.St) (env : Nv) : List V → List Res → Prop
  | nil : RepRs K Hs F H σ env [] []
  | cons {v : V} {vs : List V} {r : Res} {rs : List Res} : RepR K Hs F H σ env v r → RepRs K Hs F H σ env vs rs → RepRs K Hs F H σ env (v :: vs) (r :: rs)
inductive RepVs (K : PySem.W.Frag) (F : Addr → Prop) (H : Hp) : List V → List D → Prop
  | nil : RepVs K F H [] []
  | cons {v : V} {vs : List V} {d : D} {ds : List D} : RepV K F H v d → RepVs K F H vs ds → RepVs K F H (v :: vs) (d :: ds)
section
variable {K : PySem.W.Frag} {H0 : Bs} {F F' F'' : Addr → Prop} {H H' H'' : Hp} {σ : L2.St} {env env' env'' : Nv} {a : Addr} {v : V} {d : D} {r : Res} {h : Nat → Bool}
theorem RepRs.stp {Hs : Hp} (s : Stp K H0 σ h F H env F' H' env') (S : Sim K H0 F H σ env) : ∀ {vs : List V} {rs : List Res}, RepRs K Hs F H σ env vs rs → RepRs K Hs F' H' σ env' vs rs
  | _, _, .nil => .nil
  | _, _, .cons q t => .cons (q.stp s S) (RepRs.stp s S t)
theorem RepRs.get {Hs : Hp} (S : Sim K H0 F H σ env) : ∀ {vs : List V} {rs : List Res} {ds : List D}, RepRs K Hs F H σ env vs rs → deref env rs = some ds → RepVs K F H vs ds
  | _, _, ds, .nil, e => by cases e; exact .nil
  | _, r :: rs, ds, .cons q t, e => by
    unfold deref at e
    cases h1 : r.get env with
    | none => rw [h1] at e; cases e
    | some d1 =>
      rw [h1] at e
      cases h2 : deref env rs with
      | none => rw [h2] at e; cases e
      | some ds1 =>
        rw [h2] at e
        cases e
        exact .cons (q.get S h1) (RepRs.get S t h2)
theorem RepVs.length : ∀ {vs : List V} {ds : List D}, RepVs K F H vs ds → vs.length = ds.length
  | _, _, .nil => rfl
  | _, _, .cons _ t => by simp [RepVs.length t]
/-- an earlier start -/
theorem RepR.earlier {Hs Hs' : Hp} (e : ∀ b, Hs b = none → Hs' b = none) (q : RepR K Hs F H σ env v r) : RepR K Hs' F H σ env v r := by
  cases r with
  | val d => exact q
  | new c => obtain ⟨a, e1, h1, h2, h3, h4⟩ := q; exact ⟨a, e1, h1, h2, h3, e a h4⟩
  | ref i => exact q
theorem RepRs.earlier {Hs Hs' : Hp} (e : ∀ b, Hs b = none → Hs' b = none) : ∀ {vs : List V} {rs : List Res}, RepRs K Hs F H σ env vs rs → RepRs K Hs' F H σ env vs rs
  | _, _, .nil => .nil
  | _, _, .cons q t => .cons (q.earlier e) (RepRs.earlier e t)
/-- the addresses of new cells -/
def NewAt : List V → List Res → Addr → Prop
  | .ref a :: vs, .new _ :: rs, b => a = b ∨ NewAt vs rs b
  | _ :: vs, _ :: rs, b => NewAt vs rs b
  | _, _, _ => False
theorem NewAt.cons {v : V} {vs : List V} {r : Res} {rs : List Res} {b : Addr} (h : NewAt vs rs b) : NewAt (v :: vs) (r :: rs) b := by
  cases v <;> cases r <;> first | exact h | exact .inr h
theorem NewAt.is {Hs : Hp} {b : Addr} : ∀ {vs : List V} {rs : List Res}, RepRs K Hs F H σ env vs rs → NewAt vs rs b → ¬ Own σ env b ∧ Hs b = none ∧ H b ≠ none
  | _, _, .nil, z => z.elim
  | v :: vs, r :: rs, .cons q t, z => by
    cases r with
    | new c =>
      obtain ⟨a, e, h1, h2, h3, h4⟩ := q
      subst e
      rcases z with z | z
      · subst z; exact ⟨h3, h4, h1.there⟩
      · exact NewAt.is t z
    | val d => exact NewAt.is t (by cases v <;> exact z)
    | ref i => exact NewAt.is t (by cases v <;> exact z)
theorem RepRs.ice {Hs : Hp} {F1 : Addr → Prop} (up : ∀ b, F b → F1 b) : ∀ {vs : List V} {rs : List Res} {ds : List D}, RepRs K Hs F H σ env vs rs → noRef rs = some ds → (∀ b, NewAt vs rs b → F1 b) → RepL K F1 H vs ds
  | _, _, ds, .nil, e, _ => by cases e; exact .nil
  | v :: vs, r :: rs, ds, .cons q t, e, n => by
    cases r with
    | val d =>
      obtain ⟨es, h1, h2⟩ := Option.map_eq_some_iff.mp (show (noRef rs).map (d :: ·) = some ds from e)
      subst h2
      exact .cons (Rep.up up q) (RepRs.ice up t h1 fun b z => n b z.cons)
    | new c =>
      obtain ⟨es, h1, h2⟩ := Option.map_eq_some_iff.mp (show (noRef rs).map (c.d :: ·) = some ds from e)
      subst h2
      obtain ⟨a, e1, k1, k2, k3, k4⟩ := q
      subst e1
      exact .cons ((k1.up up).rep (n a (.inl rfl))) (RepRs.ice up t h1 fun b z => n b z.cons)
    | ref i => cases e
/-- new cells are frozen -/
theorem freeze {vs : List V} {rs : List Res} {ds : List D} (S : Sim K H0 F H σ env) (s : Stp K H0 σ h F H env F' H' env') (q : RepRs K H F' H' σ env' vs rs) (e : noRef rs = some ds) :
    ∃ F1, Stp K H0 σ h F H env F1 H' env' ∧ (∀ b, F' b → F1 b) ∧ RepL K F1 H' vs ds := by
  have up : ∀ b, F' b → (F' b ∨ NewAt vs rs b) := fun b z => .inl z
  refine ⟨fun b => F' b ∨ NewAt vs rs b, ⟨⟨s.sim.len, fun i d e => ?_, fun i c e => ?_, s.sim.sep, s.sim.old, fun b z => ?_⟩, ⟨s.go.keep, s.go.stay, fun b z => .inl (s.go.up b z), fun b z => ?_, fun k b z => ?_⟩, s.owns, s.off⟩, up, RepRs.ice up q e fun b z => .inr z⟩
  · obtain ⟨v, h1, h2⟩ := s.sim.val i d e
    exact ⟨v, h1, h2.up up⟩
  · obtain ⟨a, h1, h2, h3, h4⟩ := s.sim.own i c e
    refine ⟨a, h1, h2.up up, fun z => ?_, h4⟩
    rcases z with z | z
    · exact h3 z
    · exact (NewAt.is q z).1 ⟨i, c, e, h1⟩
  · rcases z with z | z
    · exact s.sim.fro b z
    · exact (NewAt.is q z).2.2
  · rcases z with z | z
    · exact s.go.new b z
    · exact .inr (NewAt.is q z).2.1
  · rcases z with z | z
    · exact s.go.fro k b z
    · exact (NewAt.is q z).2.2
end
end PyI

end
section
set_option autoImplicit false
/-! PyC: the operators on data. -/
namespace PyI
open PySem PySem.Spec PyProof.Rows L2 RZ RT

section
variable {K : PySem.W.Frag} {F : Addr → Prop} {H : Hp} {v : V}
theorem RepV.int {i : Int} (h : RepV K F H v (.int i)) : v = .int i := by
  rcases h with h | ⟨a, c, _, e, _⟩
  · cases h; rfl
  · cases c <;> cases e
theorem RepV.bl {b : Bool} (h : RepV K F H v (.bl b)) : v = .bl b := by
  rcases h with h | ⟨a, c, _, e, _⟩
  · cases h; rfl
  · cases c <;> cases e
theorem RepV.non (h : RepV K F H v .non) : v = .non := by
  rcases h with h | ⟨a, c, _, e, _⟩
  · cases h; rfl
  · cases c <;> cases e
theorem RepV.str {x : Str} (h : RepV K F H v (.str x)) : v = .str x ∧ strOk x = true := by
  rcases h with h | ⟨a, c, _, e, _⟩
  · cases h; exact ⟨rfl, by assumption⟩
  · cases c <;> cases e
theorem RepV.tup {ds : List D} (h : RepV K F H v (.tup ds)) : ∃ a xs, v = .ref a ∧ H a = some (.tup xs) ∧ RepL K F H xs ds := by
  rcases h with h | ⟨a, c, _, e, _⟩
  · cases h; exact ⟨_, _, rfl, by assumption, by assumption⟩
  · cases c <;> cases e
theorem RepV.lst {ds : List D} (h : RepV K F H v (.lst ds)) : ∃ a xs, v = .ref a ∧ SqL K H a xs ∧ RepL K F H xs ds := by
  rcases h with h | ⟨a, c, ea, e, h⟩
  · cases h with
    | lst h r => exact ⟨_, _, rfl, h.sq, r⟩
  · cases c with
    | lst ds' =>
      cases e
      obtain ⟨xs, e, r⟩ := h
      exact ⟨a, xs, ea, .inl (.inl e), r⟩
    | dK _ => cases e
    | dT _ => cases e
theorem RepV.dK {ks : List Key} {ds : List D} (h : RepV K F H v (.dK ks ds)) : ∃ a kvs, v = .ref a ∧ H a = some (.dK kvs) ∧ kvs.map (·.1) = ks ∧ RepL K F H (kvs.map (·.2)) ds := by
  rcases h with h | ⟨a, c, ea, e, h⟩
  · cases h with
    | dK h _ r => exact ⟨_, _, rfl, h, rfl, r⟩
  · cases c with
    | lst _ => cases e
    | dK kvs =>
      cases e
      obtain ⟨vs, e, k, r⟩ := h
      exact ⟨a, vs, ea, e, k, r⟩
    | dT _ => cases e
theorem RepV.dT {ks : List (List Key)} {ds : List D} (h : RepV K F H v (.dT ks ds)) : ∃ a kvs, v = .ref a ∧ H a = some (.dT kvs) ∧ kvs.map (·.1) = ks ∧ RepL K F H (kvs.map (·.2)) ds := by
  rcases h with h | ⟨a, c, ea, e, h⟩
  · cases h with
    | dT h _ r => exact ⟨_, _, rfl, h, rfl, r⟩
  · cases c with
    | lst _ => cases e
    | dK _ => cases e
    | dT kvs =>
      cases e
      obtain ⟨vs, e, k, r⟩ := h
      exact ⟨a, vs, ea, e, k, r⟩
theorem RepV.rep {d : D} (h : RepV K F H v d) (s : d.solid = true) : Rep K F H v d := by
  rcases h with h | ⟨a, c, _, e, _⟩
  · exact h
  · subst e
    cases c <;> cases s
end

/-! ### strings -/
theorem strOk_iff {x : Str} : strOk x = true ↔ ∀ c ∈ x.cps.toList, c < 0x110000 := by
  show (x.cps.all fun c => decide (c < 0x110000)) = true ↔ _
  rw [← Array.all_toList, List.all_eq_true]
  exact ⟨fun h c hc => of_decide_eq_true (h c hc), fun h c hc => decide_eq_true (h c hc)⟩
theorem cps_append (x y : Str) : (x ++ y).cps.toList = x.cps.toList ++ y.cps.toList := TL.tl_append x y
theorem strOk_append {x y : Str} (hx : strOk x = true) (hy : strOk y = true) : strOk (x ++ y) = true := by
  rw [strOk_iff] at *
  intro c hc
  rw [cps_append] at hc
  rcases List.mem_append.mp hc with h | h
  · exact hx c h
  · exact hy c h

/-! ### what an operator hands on -/
def RepN (K : PySem.W.Frag) (H : Hp) (F : Addr → Prop) (H' : Hp) (v : V) : Res → Prop
  | .val d => Rep K F H' v d
  | .new c => ∃ a, v = .ref a ∧ CellAt K F H' a c ∧ ¬ F a ∧ H a = none
  | .ref _ => False
abbrev noO : Addr → Prop := fun _ => False
def FOk (F : Addr → Prop) (H : Hp) : Prop := ∀ a, F a → H a ≠ none
/-- an operator of two data -/
def rD2 (K : PySem.W.Frag) (f : D → D → Out Res) : R2 := fun x y H Q => ∃ F dx dy r, FOk F H ∧ RepV K F H x dx ∧ RepV K F H y dy ∧ f dx dy = .ok r ∧ ∀ v H', Go noO F H F H' → RepN K H F H' v r → Q v H'
def rB2 (K : PySem.W.Frag) (f : D → D → Out Bool) : R2 := fun x y H Q => ∃ F dx dy r, FOk F H ∧ RepV K F H x dx ∧ RepV K F H y dy ∧ f dx dy = .ok r ∧ ∀ H', Go noO F H F H' → Q (.bl r) H'
section
variable {K : PySem.W.Frag} {F : Addr → Prop} {H : Hp} {p : Addr} {xs : List V} {ds : List D}
theorem noO_ok {H : Hp} {F : Addr → Prop} : OwnOk noO F H := fun _ z => z.elim
/-- a new tuple -/
theorem new_tup (hp : H p = none) (r : RepL K F H xs ds) : Rep K F (upd H p (.tup xs)) (.ref p) (.tup ds) :=
  .tup upd_same (r.go (Go.upd hp) noO_ok)
theorem new_lst (fo : FOk F H) (hp : H p = none) (r : RepL K F H xs ds) : RepN K H F (upd H p (.lst xs)) (.ref p) (.new (.lst ds)) :=
  ⟨p, rfl, ⟨xs, upd_same, r.go (Go.upd hp) noO_ok⟩, fun z => fo p z hp, hp⟩
end

section
variable {X : Cx}
/-- list + list, whatever stands there -/
theorem op_catL : OpR X (binaryOp .Add) (fun x y H Q => ∃ l b xs zs, x = .ref l ∧ y = .ref b ∧ SqL X.K H l xs ∧ SqL X.K H b zs ∧ xs.length + zs.length ≤ sizeLine ∧ ∀ p, H p = none → Q (.ref p) (upd H p (.lst (xs ++ zs)))) := by
  intro pins s σ H x y v u Q I rx ry h
  obtain ⟨l, b, xs, zs, rfl, rfl, hH, hB, hz, q⟩ := h
  cases rx
  cases ry
  obtain ⟨its, r, pl, _⟩ := I.list hH
  obtain ⟨its2, r2, pl2, _⟩ := I.list hB
  obtain ⟨⟨cls, dd, data, sl⟩, ho, hc, n, hd⟩ := id pl.isList
  obtain ⟨⟨cls2, dd2, data2, sl2⟩, ho2, hc2, n2, hd2⟩ := id pl2.isList
  simp only at hc hd hc2 hd2
  subst hc hd hc2 hd2
  have e : its.toArray ++ its2.toArray = (its ++ its2).toArray := by simp
  have l1 := r.length
  have l2 := r2.length
  refine concat_meets ⟨_, ho, rfl⟩ ⟨_, ho2, rfl⟩ noFill_list_add seq_list_add PySem.F.slot_list_add PySem.F.entry_list_add (PySem.F.args_list_add_2 _ _) (list_addW l b its.toArray its2.toArray n n2 dd dd2 sl sl2 (by simp; omega)) ⟨ho, ho2, ?_⟩
  rw [e]
  exact ⟨.ref _, _, I.lnew (t' := s.toks) (r.append r2) (by rw [List.length_append]; omega), rfl, q _ I.fresh⟩

theorem sizeLine_16 : sizeLine = 16777216 := sizeLine_eq

theorem opr_add : OpR X (binaryOp .Add) (rD2 X.K (opBin .add)) := by
  intro pins s σ H x y v u Q I rx ry h
  obtain ⟨F, dx, dy, r, fo, hx, hy, e, q⟩ := h
  cases dx with
  | int i =>
    cases dy with
    | int j =>
      cases hx.int; cases hy.int
      cases e
      exact op_add pins s σ H _ _ v u Q I rx ry ⟨i, j, rfl, rfl, q _ _ Go.refl (.int _)⟩
    | _ => cases e
  | str a =>
    cases dy with
    | str b =>
      obtain ⟨rfl, oa⟩ := hx.str
      obtain ⟨rfl, ob⟩ := hy.str
      have e' : (strAdd a b).val = .ok r := e
      unfold strAdd at e'
      split at e'
      · rename_i hz
        cases e'
        exact op_add_str pins s σ H _ _ v u Q I rx ry ⟨a, b, rfl, rfl, by rw [sizeLine_16]; exact hz, q _ _ Go.refl (.str (strOk_append oa ob))⟩
      · cases e'
    | _ => cases e
  | tup xs =>
    cases dy with
    | tup ys =>
      obtain ⟨a, vs, rfl, ha, ra⟩ := hx.tup
      obtain ⟨b, ws, rfl, hb, rb⟩ := hy.tup
      have e' : (tupAdd xs ys).val = .ok r := e
      unfold tupAdd at e'
      split at e'
      · rename_i hz
        cases e'
        have la := ra.length
        have lb := rb.length
        refine op_catA pins s σ H _ _ v u Q I rx ry ⟨a, b, vs, ws, rfl, rfl, SqT.of ha, SqT.of hb, by rw [sizeLine_16]; omega, fun z => ?_, fun z1 z2 => ?_, fun z1 z2 p hp => ?_⟩
        · subst z
          cases ra
          exact q _ _ Go.refl (.tup hb rb)
        · subst z2
          cases rb
          rw [List.append_nil] at q
          exact q _ _ Go.refl (.tup ha ra)
        · exact q _ _ (Go.upd hp) (new_tup hp (ra.append rb))
      · cases e'
    | _ => cases e
  | lst xs =>
    cases dy with
    | lst ys =>
      obtain ⟨a, vs, rfl, ha, ra⟩ := hx.lst
      obtain ⟨b, ws, rfl, hb, rb⟩ := hy.lst
      have e' : lstAdd xs ys = .ok r := e
      unfold lstAdd at e'
      split at e'
      · rename_i hz
        cases e'
        have la := ra.length
        have lb := rb.length
        exact op_catL pins s σ H _ _ v u Q I rx ry ⟨a, b, vs, ws, rfl, rfl, ha, hb, by rw [sizeLine_16]; omega, fun p hp => q _ _ (Go.upd hp) (new_lst fo hp (ra.append rb))⟩
      · cases e'
    | _ => cases e
  | _ => cases e
theorem opr_sub : OpR X (binaryOp .Sub) (rD2 X.K (opBin .sub)) := by
  intro pins s σ H x y v u Q I rx ry h
  obtain ⟨F, dx, dy, r, fo, hx, hy, e, q⟩ := h
  cases dx with
  | int i =>
    cases dy with
    | int j =>
      cases hx.int; cases hy.int
      cases e
      exact op_sub pins s σ H _ _ v u Q I rx ry ⟨i, j, rfl, rfl, q _ _ Go.refl (.int _)⟩
    | _ => cases e
  | _ => cases e
theorem opr_mod : OpR X (binaryOp .Mod) (rD2 X.K (opBin .mod)) := by
  intro pins s σ H x y v u Q I rx ry h
  obtain ⟨F, dx, dy, r, fo, hx, hy, e, q⟩ := h
  cases dx with
  | int i =>
    cases dy with
    | int j =>
      cases hx.int; cases hy.int
      have e' : (if 0 < j then Out.ok (Res.val (.int (i % j))) else .stuck) = .ok r := e
      split at e'
      · rename_i hj
        cases e'
        exact op_mod pins s σ H _ _ v u Q I rx ry ⟨i, j, rfl, rfl, hj, q _ _ Go.refl (.int _)⟩
      · cases e'
    | _ => cases e
  | _ => cases e
theorem opr_fdiv : OpR X (binaryOp .FloorDiv) (rD2 X.K (opBin .fdiv)) := by
  intro pins s σ H x y v u Q I rx ry h
  obtain ⟨F, dx, dy, r, fo, hx, hy, e, q⟩ := h
  cases dx with
  | int i =>
    cases dy with
    | int j =>
      cases hx.int; cases hy.int
      have e' : (if 0 < j ∧ j < 1073741824 then Out.ok (Res.val (.int (i / j))) else .stuck) = .ok r := e
      split at e'
      · rename_i hj
        cases e'
        exact op_fdiv pins s σ H _ _ v u Q I rx ry ⟨i, j, rfl, rfl, hj, q _ _ Go.refl (.int _)⟩
      · cases e'
    | _ => cases e
  | _ => cases e
theorem opr_pow : OpR X (binaryOp .Pow) (rD2 X.K (opBin .pow)) := by
  intro pins s σ H x y v u Q I rx ry h
  obtain ⟨F, dx, dy, r, fo, hx, hy, e, q⟩ := h
  cases dx with
  | int i =>
    cases dy with
    | int j =>
      cases hx.int; cases hy.int
      have e' : (if 0 ≤ j ∧ j.toNat ≤ 1000000 ∧ i.natAbs < 2 ^ 64 then Out.ok (Res.val (.int (i ^ j.toNat))) else .stuck) = .ok r := e
      split at e'
      · rename_i hj
        cases e'
        exact op_pow pins s σ H _ _ v u Q I rx ry ⟨i, j, rfl, rfl, ⟨hj.1, by omega, hj.2.2⟩, q _ _ Go.refl (.int _)⟩
      · cases e'
    | _ => cases e
  | _ => cases e
theorem opr_neg : UnR X (unaryOp .USub) (fun x H Q => ∃ F dx r, RepV X.K F H x dx ∧ opNeg dx = .ok r ∧ ∀ v, Rep X.K F H v r → Q v H) := by
  intro pins s σ H x v Q I rx h
  obtain ⟨F, dx, r, hx, e, q⟩ := h
  cases dx with
  | int i =>
    cases hx.int
    cases e
    exact un_neg pins s σ H _ v Q I rx ⟨i, rfl, q _ (.int _)⟩
  | _ => cases e
theorem size_foldl (x : Str) : ∀ (k : Nat) (acc : Array Nat), ((List.replicate k x.cps).foldl (· ++ ·) acc).toList = acc.toList ++ (List.replicate k x.cps.toList).flatten
  | 0, acc => by simp
  | k + 1, acc => by
    rw [List.replicate_succ, List.foldl_cons, size_foldl x k, List.replicate_succ, List.flatten_cons, Array.toList_append, List.append_assoc]
theorem strOk_mul {x : Str} {k : Int} (h : strOk x = true) : strOk (Txt.mul x k) = true := by
  unfold Txt.mul
  split
  · rw [strOk_iff]
    intro c hc
    cases hc
  · split
    · exact h
    · rw [strOk_iff] at *
      intro c hc
      have hc : c ∈ ((List.replicate k.toNat x.cps).foldl (· ++ ·) #[]).toList := hc
      rw [size_foldl] at hc
      simp only [List.nil_append, List.mem_flatten] at hc
      obtain ⟨l, h1, h2⟩ := hc
      rw [(List.mem_replicate.mp h1).2] at h2
      exact h c h2
theorem mulOk_str {x : Str} {k : Int} (h0 : 0 ≤ k) (h1 : k ≤ 1000) (h2 : x.length ≤ 1000) : MulOk x k := by
  refine ⟨by rw [decide_eq_false (by omega), decide_eq_false (by omega)]; rfl, fun n1 _ => ?_, fun _ _ => ?_⟩
  · have hk : 0 < k := by omega
    have : (1000 : Int) ≤ (2 ^ 63 - 1) / k := (Int.le_ediv_iff_mul_le hk).mpr (by omega)
    omega
  · have h3 : k.toNat ≤ 1000 := by omega
    have h4 : x.length * k.toNat ≤ 1000 * 1000 := Nat.mul_le_mul h2 h3
    have h5 : sizeLine = 16777216 := sizeLine_eq
    unfold PySem.Builtin.Str.tooLong
    simp
    omega
theorem int_mul_str {prog : Program} {w : World} {A : Around} {E : Value → Shared → Prop} {s : Shared} {x : Str} {t u : Tok} {n : Int} {Q : Value → Shared → Prop} (hok : MulOk x n) (h : ∀ t' k, Q (.str (Txt.mul x n) t') { s with toks := k }) : wpAny (model prog w) A (binaryOp .Mult (.int n u) (.str x t)) Q E s := by
  refine PySem.lm_binaryOp_repeat_right (T := "str") (U := "int") (by decide) (fun s' => typeIs_int s' n u) (typeIs_str s x t) F.fills_int_mul noFill_str_mul F.slot_int_mul lm_noRepeat_int repeat_str F.slot_int_index.lookup
    (call_gives F.slot_int_mul (typeIs_int s n u) F.entry_int_mul (F.args_int_mul_2 _ _) (AutoIntG3.int___mul___int_str_0 n u x t) ⟨rfl, typeIs_str s x t, call_gives F.slot_str_mul (typeIs_str s x t) F.entry_str_mul (F.args_str_mul_2 _ _) (gives_str_mul x n t u hok.1 hok.2.1 hok.2.2) ?_⟩)
  unfold Txt.mul at h
  by_cases h1 : n < 1
  · rw [if_pos h1]
    have h2 := h s.toks (s.toks + 1)
    rw [if_pos h1] at h2
    exact ⟨by decide, h2⟩
  · rw [if_neg h1]
    refine post_val_or_made (fun hc => fits_reps (hok.2.2 h1 (by simpa using hc))) fun t' k => ?_
    have h2 := h t' k
    rw [if_neg h1] at h2
    exact h2
theorem int_rmul_listW (a : Int) (t : Tok) (l : Addr) (items : Array Value) (n : Nat) (dd : Option Addr) (sl : Array (Option Value)) :
    Meets (Builtin.«int.__rmul__» ⟨[.int a t, .ref l], []⟩) (fun _ R s => s.heap.get? l = some { cls := .type "list", dict := dd, data := .seq items n, slots := sl } ∧ R (.ok (.ret Value.notImplemented)) s) :=
  .of_wp fun prog w A R s h => by obtain ⟨hp, g, d, tk, os⟩ := s; obtain ⟨hl, h⟩ := h; wp_walk using wpAny_loadPart' hl; exact ⟨_, rfl, h⟩
theorem list_mulW (l : Addr) (items : Array Value) (n : Nat) (dd : Option Addr) (sl : Array (Option Value)) (x : Int) (u : Tok) (hc0 : ¬(!Builtin.List.listFitsIndex x) = true) (hc1 : ¬items.size * x.toNat > (2 ^ 63 - 1) / 8) (hc2 : ¬Builtin.List.listTooLong (items.size * x.toNat) = true)
    (hsz : (List.foldl (fun x1 x2 => x1 ++ x2) #[] (List.replicate (if items.isEmpty = true then 0 else x.toNat) items)).size ≤ sizeLine) :
    Meets (Builtin.«list.__mul__» ⟨[.ref l, .int x u], []⟩) (fun _ R s => s.heap.get? l = some { cls := .type "list", dict := dd, data := .seq items n, slots := sl } ∧
      R (.ok (.ret (Value.ref s.heap.objs.size))) { s with heap := s.heap.push { cls := Value.type "list", data := Data.seq (List.foldl (fun x1 x2 => x1 ++ x2) #[] (List.replicate (if items.isEmpty = true then 0 else x.toNat) items)) }, toks := s.toks }) :=
  .of_wp fun prog w A R s h => by
    obtain ⟨hp, g, d, tk, os⟩ := s
    obtain ⟨hl, h⟩ := h
    have f1 := AutoSeq1.idx_int
    wp_walk using wpAny_loadPart' hl
    repeat (first
      | (refine wpAny_ite_false (decide_eq_false (by assumption)) ?_; wp_walk using wpAny_loadPart' hl)
      | (refine wpAny_ite_false (decide_eq_false (Nat.not_lt.mpr hsz)) ?_; wp_walk using wpAny_loadPart' hl))
    exact ⟨_, rfl, h⟩
/-- list * int, whatever stands there -/
theorem op_repL : OpR X (binaryOp .Mult) (fun x y H Q => ∃ l k xs, x = .ref l ∧ y = .int k ∧ SqL X.K H l xs ∧ 0 ≤ k ∧ k ≤ 1000 ∧ xs.length ≤ 1000 ∧ ∀ p, H p = none → Q (.ref p) (upd H p (.lst (List.replicate k.toNat xs).flatten))) := by
  intro pins s σ H x y v u Q I rx ry h
  obtain ⟨l, k, xs, rfl, rfl, hH, h1, h2, hz, q⟩ := h
  cases rx
  obtain ⟨t, rfl⟩ := ry
  obtain ⟨its, r, pl, _⟩ := I.list hH
  obtain ⟨⟨cls, dd, data, sl⟩, ho, hc, n, hd⟩ := id pl.isList
  simp only at hc hd
  subst hc hd
  have hl := r.length
  have a1 : its.length * k.toNat ≤ 1000 * 1000 := Nat.mul_le_mul (by omega) (by omega)
  have hlen : its.toArray.size * k.toNat ≤ sizeLine := by rw [List.size_toArray, sizeLine_eq]; omega
  have hcap : ¬ its.toArray.size * k.toNat > (2 ^ 63 - 1) / 8 := by
    have : (sizeLine : Nat) ≤ (2 ^ 63 - 1) / 8 := by decide
    omega
  have hfit : ¬ (!Builtin.List.listFitsIndex k) = true := by
    rw [fitsIndex_both (by omega) (by omega)]
    exact Bool.false_ne_true
  have hlong : ¬ Builtin.List.listTooLong (its.toArray.size * k.toNat) = true := by
    rw [notLongL hlen]
    exact Bool.false_ne_true
  have hnew : List.foldl (fun x1 x2 => x1 ++ x2) #[] (List.replicate (if its.toArray.isEmpty = true then 0 else k.toNat) its.toArray) = (List.replicate k.toNat its).flatten.toArray := by
    have f0 : ∀ m : Nat, List.foldl (fun x1 x2 => x1 ++ x2) #[] (List.replicate m its.toArray) = (List.replicate m its).flatten.toArray := fun m => by
      have := foldl_rep its m []
      rw [List.nil_append] at this
      exact this
    rw [f0]
    cases its with
    | nil => simp
    | cons a r' => rw [if_neg (by simp)]
  have hfl : (List.foldl (fun x1 x2 => x1 ++ x2) #[] (List.replicate (if its.toArray.isEmpty = true then 0 else k.toNat) its.toArray)).size ≤ sizeLine := by
    rw [hnew, List.size_toArray, PyProof.Rows.lm_len_rep_flat, Nat.mul_comm, ← List.size_toArray]
    exact hlen
  refine wpAny_binaryOp_repeat_ref (T := "list") (U := "int") (by decide) ⟨_, ho, rfl⟩ (fun s' => typeIs_int s' k t) noFill_list_mul F.fills_int_mul F.slot_int_rmul repeat_list F.slot_int_index.lookup
    (call_meets F.slot_int_rmul (typeIs_int s k t) F.entry_int_rmul (F.args_int_rmul_2 _ _) (int_rmul_listW k t l its.toArray n dd sl)
      ⟨ho, rfl, ⟨_, ho, rfl⟩, call_meets F.slot_list_mul ⟨_, ho, rfl⟩ F.entry_list_mul (F.args_list_mul_2 _ _) (list_mulW l its.toArray n dd sl k t hfit hcap hlong hfl) ⟨ho, ?_⟩⟩)
  rw [hnew]
  exact ⟨.ref _, _, I.lnew (t' := s.toks) (r.rep k.toNat) (by rw [PyProof.Rows.lm_len_rep_flat, Nat.mul_comm, sizeLine_eq]; have a2 : xs.length * k.toNat ≤ 1000 * 1000 := Nat.mul_le_mul hz (by omega); omega), rfl, q _ I.fresh⟩
theorem opr_mul : OpR X (binaryOp .Mult) (rD2 X.K (opBin .mul)) := by
  intro pins s σ H x y v u Q I rx ry h
  obtain ⟨F, dx, dy, r, fo, hx, hy, e, q⟩ := h
  cases dx with
  | int i =>
    cases dy with
    | int j =>
      cases hx.int; cases hy.int
      have e' : (intMul i j).val = .ok r := e
      unfold intMul at e'
      split at e'
      · rename_i hj
        cases e'
        rcases Bool.or_eq_true_iff.mp hj with hj | hj
        · have hj : j.natAbs < 2 ^ 64 ∨ i.natAbs < 2 ^ 64 := of_decide_eq_true hj
          have hj : (-(2 ^ 64) < j ∧ j < 2 ^ 64) ∨ (-(2 ^ 64) < i ∧ i < 2 ^ 64) := by omega
          exact op_mul pins s σ H _ _ v u Q I rx ry ⟨i, j, rfl, rfl, hj.symm, q _ _ Go.refl (.int _)⟩
        · have hj := of_decide_eq_true hj
          exact op_mulX pins s σ H _ _ v u Q I rx ry ⟨i, j, rfl, rfl, mulx_ok (a := i.natAbs.log2 + 1) (b := j.natAbs.log2 + 1) Nat.lt_log2_self Nat.lt_log2_self (by omega), q _ _ Go.refl (.int _)⟩
      · cases e'
    | str z =>
      obtain ⟨rfl, oz⟩ := hy.str
      cases hx.int
      have e' : (if 0 ≤ i ∧ i ≤ 1000 ∧ z.length ≤ 1000 then Out.ok (Res.val (.str (Txt.mul z i))) else .stuck) = .ok r := e
      split at e'
      · rename_i hj
        cases e'
        obtain ⟨t, rfl⟩ := rx
        obtain ⟨t', rfl⟩ := ry
        exact int_mul_str (mulOk_str hj.1 hj.2.1 hj.2.2) fun t' tk => ⟨.str (Txt.mul z i), H, I.tok _, ⟨_, rfl⟩, q _ _ Go.refl (.str (strOk_mul oz))⟩
      · cases e'
    | _ => cases e
  | str z =>
    cases dy with
    | int k =>
      obtain ⟨rfl, oz⟩ := hx.str
      cases hy.int
      have e' : (if 0 ≤ k ∧ k ≤ 1000 ∧ z.length ≤ 1000 then Out.ok (Res.val (.str (Txt.mul z k))) else .stuck) = .ok r := e
      split at e'
      · rename_i hj
        cases e'
        obtain ⟨t, rfl⟩ := rx
        obtain ⟨t', rfl⟩ := ry
        exact SB.mul (mulOk_str hj.1 hj.2.1 hj.2.2) fun t' tk => ⟨.str (Txt.mul z k), H, I.tok _, ⟨_, rfl⟩, q _ _ Go.refl (.str (strOk_mul oz))⟩
      · cases e'
    | _ => cases e
  | lst xs =>
    cases dy with
    | int k =>
      obtain ⟨a, vs, rfl, ha, ra⟩ := hx.lst
      cases hy.int
      have e' : (if 0 ≤ k ∧ k ≤ 1000 ∧ xs.length ≤ 1000 then Out.ok (Res.new (.lst (rep xs k))) else .stuck) = .ok r := e
      split at e'
      · rename_i hj
        cases e'
        have la := ra.length
        exact op_repL pins s σ H _ _ v u Q I rx ry ⟨a, k, vs, rfl, rfl, ha, hj.1, hj.2.1, by omega, fun p hp => q _ _ (Go.upd hp) (new_lst fo hp (ra.flat _))⟩
      · cases e'
    | _ => cases e
  | tup xs =>
    cases dy with
    | int k =>
      obtain ⟨a, vs, rfl, ha, ra⟩ := hx.tup
      cases hy.int
      have e' : (if xs.isEmpty = false ∧ 2 ≤ k ∧ k ≤ 1000 ∧ xs.length ≤ 1000 then Out.ok (Res.val (.tup (rep xs k))) else .stuck) = .ok r := e
      split at e'
      · rename_i hj
        cases e'
        have la := ra.length
        refine op_repT pins s σ H _ _ v u Q I rx ry ⟨a, k, vs, rfl, rfl, SqT.of ha, fun z => ?_, hj.2.1, hj.2.2.1, by omega, fun p hp => q _ _ (Go.upd hp) (new_tup hp (ra.flat _))⟩
        subst z
        cases ra
        cases hj.1
      · cases e'
    | _ => cases e
  | _ => cases dy <;> cases e
end

/-! ### == -/
mutual
def D.py : D → PyData
  | .non => .none
  | .bl b => .bool b
  | .int i => .int i
  | .str s => .str s
  | .tup ds => .tuple (D.pyL ds)
  | .lst ds => .list (D.pyL ds)
  | _ => .dict []
def D.pyL : List D → List PyData
  | [] => []
  | d :: ds => D.py d :: D.pyL ds
end
theorem pyL_map : ∀ ds : List D, D.pyL ds = ds.map D.py
  | [] => rfl
  | d :: ds => by rw [D.pyL, pyL_map ds]; rfl
mutual
theorem eqv_py : ∀ (a b : D), a.plain = true → b.plain = true → PyData.eqv a.py b.py = D.eqv a b
  | .non, b, _, hb => by cases b <;> first | rfl | cases hb
  | .bl _, b, _, hb => by cases b <;> first | rfl | cases hb
  | .int _, b, _, hb => by cases b <;> first | rfl | cases hb
  | .str _, b, _, hb => by cases b <;> first | rfl | cases hb
  | .tup xs, b, ha, hb => by
    cases b with
    | tup ys => exact eqvL_py xs ys ha hb
    | _ => first | rfl | cases hb
  | .lst xs, b, ha, hb => by
    cases b with
    | lst ys => exact eqvL_py xs ys ha hb
    | _ => first | rfl | cases hb
  | .dK _ _, _, ha, _ => by cases ha
  | .dT _ _, _, ha, _ => by cases ha
  | .exn _ _, _, ha, _ => by cases ha
theorem eqvL_py : ∀ (as bs : List D), D.plainL as = true → D.plainL bs = true → PyData.eqvAll (D.pyL as) (D.pyL bs) = D.eqvL as bs
  | [], [], _, _ => rfl
  | [], _ :: _, _, _ => rfl
  | _ :: _, [], _, _ => rfl
  | a :: as, b :: bs, ha, hb => by
    have ha' := Bool.and_eq_true_iff.mp (show (a.plain && D.plainL as) = true from ha)
    have hb' := Bool.and_eq_true_iff.mp (show (b.plain && D.plainL bs) = true from hb)
    show (PyData.eqv a.py b.py && PyData.eqvAll (D.pyL as) (D.pyL bs)) = (D.eqv a b && D.eqvL as bs)
    rw [eqv_py a b ha'.1 hb'.1, eqvL_py as bs ha'.2 hb'.2]
end
mutual
theorem depth_py : ∀ (a : D), a.plain = true → a.py.depth = a.depth
  | .non, _ => rfl
  | .bl _, _ => rfl
  | .int _, _ => rfl
  | .str _, _ => rfl
  | .tup xs, h => congrArg (· + 1) (depthL_py xs h)
  | .lst xs, h => congrArg (· + 1) (depthL_py xs h)
  | .dK _ _, h => by cases h
  | .dT _ _, h => by cases h
  | .exn _ _, h => by cases h
theorem depthL_py : ∀ (as : List D), D.plainL as = true → PyData.depthAll (D.pyL as) = D.depthL as
  | [], _ => rfl
  | a :: as, h => by
    have h' := Bool.and_eq_true_iff.mp (show (a.plain && D.plainL as) = true from h)
    show max a.py.depth (PyData.depthAll (D.pyL as)) = max a.depth (D.depthL as)
    rw [depth_py a h'.1, depthL_py as h'.2]
end
section
variable {K : PySem.W.Frag} {F : Addr → Prop} {H : Hp}
mutual
theorem Rep.dp : ∀ {v : V} {d : D}, Rep K F H v d → d.plain = true → Dp K H v d.py ∧ PyData.canLay0 d.py = true
  | _, _, .non, _ => ⟨.non, rfl⟩
  | _, _, .bl b, _ => ⟨.bl b, rfl⟩
  | _, _, .int i, _ => ⟨.int i, rfl⟩
  | _, _, .str h, _ => ⟨.str _, h⟩
  | _, _, .tup h r, p => ⟨.tup (SqT.of h) (RepL.dp r p).1, (RepL.dp r p).2⟩
  | _, _, .lst h r, p => ⟨.lst h.sq (RepL.dp r p).1, (RepL.dp r p).2⟩
  | _, _, .dK _ _ _, p => by cases p
  | _, _, .dT _ _ _, p => by cases p
theorem RepL.dp : ∀ {vs : List V} {ds : List D}, RepL K F H vs ds → D.plainL ds = true → DpAll K H vs (D.pyL ds) ∧ PyData.canLayAll0 (D.pyL ds) = true
  | _, _, .nil, _ => ⟨.nil, rfl⟩
  | _, d :: ds, .cons r t, p => by
    have p' := Bool.and_eq_true_iff.mp (show (d.plain && D.plainL ds) = true from p)
    obtain ⟨h1, h2⟩ := Rep.dp r p'.1
    obtain ⟨h3, h4⟩ := RepL.dp t p'.2
    exact ⟨.cons h1 h3, Bool.and_eq_true_iff.mpr ⟨h2, h4⟩⟩
end
theorem RepV.dp {v : V} {d : D} (h : RepV K F H v d) (p : d.plain = true) : Dp K H v d.py ∧ PyData.canLay0 d.py = true := by
  rcases h with h | ⟨a, c, ea, e, h⟩
  · exact h.dp p
  · subst e ea
    cases c with
    | lst ds =>
      obtain ⟨xs, e, r⟩ := h
      obtain ⟨h1, h2⟩ := r.dp p
      exact ⟨.lst (.inl (.inl e)) h1, h2⟩
    | dK _ => cases p
    | dT _ => cases p
end
theorem eqOk_of {a b : D} (h : eqOk a b = true) : a.plain = true ∧ b.plain = true ∧ min a.depth b.depth ≤ 64 := by
  obtain ⟨h1, h3⟩ := Bool.and_eq_true_iff.mp h
  obtain ⟨h1, h2⟩ := Bool.and_eq_true_iff.mp h1
  refine ⟨h1, h2, ?_⟩
  rcases Bool.or_eq_true_iff.mp h3 with h | h
  · have := of_decide_eq_true h; omega
  · have := of_decide_eq_true h; omega
section
variable {X : Cx}
theorem opr_eq (hu : X.A.units + 64 < cLine) : OpR X (compareOp .Eq) (rB2 X.K (opCmp .eq)) := by
  intro pins s σ H x y v u Q I rx ry h
  obtain ⟨F, dx, dy, r, fo, hx, hy, e, q⟩ := h
  have e' : (if eqOk dx dy = true then Out.ok (D.eqv dx dy) else .stuck) = .ok r := e
  split at e'
  · rename_i hk
    obtain ⟨h1, h2, h3⟩ := eqOk_of hk
    cases e'
    obtain ⟨d1, c1⟩ := hx.dp h1
    obtain ⟨d2, c2⟩ := hy.dp h2
    obtain ⟨as, r1⟩ := Dp.reads I _ x v d1 rx
    obtain ⟨bs, r2⟩ := Dp.reads I _ y u d2 ry
    refine SeqAt.compareEq_reads r1 r2 c1 c2 (by rw [depth_py _ h1, depth_py _ h2]; omega) ?_
    rw [eqv_py _ _ h1 h2]
    exact ⟨.bl _, H, I, rfl, q H Go.refl⟩
  · cases e'
theorem opr_ne (hu : X.A.units + 64 < cLine) : OpR X (compareOp .NotEq) (rB2 X.K (opCmp .ne)) := by
  intro pins s σ H x y v u Q I rx ry h
  obtain ⟨F, dx, dy, r, fo, hx, hy, e, q⟩ := h
  have e' : (if eqOk dx dy = true then Out.ok (!D.eqv dx dy) else .stuck) = .ok r := e
  split at e'
  · rename_i hk
    obtain ⟨h1, h2, h3⟩ := eqOk_of hk
    cases e'
    obtain ⟨d1, c1⟩ := hx.dp h1
    obtain ⟨d2, c2⟩ := hy.dp h2
    obtain ⟨as, r1⟩ := Dp.reads I _ x v d1 rx
    obtain ⟨bs, r2⟩ := Dp.reads I _ y u d2 ry
    refine SeqAt.compareNe_reads r1 r2 c1 c2 (by rw [depth_py _ h1, depth_py _ h2]; omega) ?_
    rw [eqv_py _ _ h1 h2]
    exact ⟨.bl _, H, I, rfl, q H Go.refl⟩
  · cases e'
theorem opr_intc {op : CmpOp} {o : COp} {p : Int → Int → Bool} (ho : OpR X (compareOp op) (rI0 fun i j => .bl (p i j))) (hi : ∀ i j, opCmp o (.int i) (.int j) = .ok (p i j))
    (hn : ∀ a b r, opCmp o a b = .ok r → ∃ i j, a = .int i ∧ b = .int j) : OpR X (compareOp op) (rB2 X.K (opCmp o)) := by
  intro pins s σ H x y v u Q I rx ry h
  obtain ⟨F, dx, dy, r, fo, hx, hy, e, q⟩ := h
  obtain ⟨i, j, rfl, rfl⟩ := hn _ _ _ e
  cases hx.int; cases hy.int
  rw [hi] at e
  cases e
  exact ho pins s σ H _ _ v u Q I rx ry ⟨i, j, rfl, rfl, q H Go.refl⟩
theorem ints_of {K : PySem.W.Frag} {F : Addr → Prop} {H : Hp} : ∀ {xs : List V} {ds : List D} {ns : List Int}, RepL K F H xs ds → intsOf ds = some ns → xs = ns.map V.int
  | _, _, ns, .nil, e => by cases e; rfl
  | _, d :: ds, ns, .cons r t, e => by
    cases d with
    | int b =>
      obtain ⟨ns', h1, h2⟩ := Option.map_eq_some_iff.mp (show (intsOf ds).map (b :: ·) = some ns from e)
      subst h2
      cases r
      rw [ints_of t h1]; rfl
    | _ => cases e
theorem first_lex : ∀ (ns ms : List Int), SeqAt.firstLt (fun j => decide (ns.getD j 0 = ms.getD j 0)) (fun j => decide (ns.getD j 0 < ms.getD j 0)) (decide (ns.length < ms.length)) (List.range (min ns.length ms.length)) = HT.lexLt ns ms
  | [], [] => rfl
  | [], y :: ys => by rw [HT.lexLt_nil_cons]; simp [SeqAt.firstLt]
  | x :: xs, [] => by rw [HT.lexLt_cons_nil]; simp [SeqAt.firstLt]
  | x :: xs, y :: ys => by
    have ih := first_lex xs ys
    have e1 : min (x :: xs).length (y :: ys).length = min xs.length ys.length + 1 := by simp only [List.length_cons]; omega
    have sh : ∀ l : List Nat, SeqAt.firstLt (fun j => decide ((x :: xs).getD j 0 = (y :: ys).getD j 0)) (fun j => decide ((x :: xs).getD j 0 < (y :: ys).getD j 0)) (decide ((x :: xs).length < (y :: ys).length)) (l.map (· + 1)) =
        SeqAt.firstLt (fun j => decide (xs.getD j 0 = ys.getD j 0)) (fun j => decide (xs.getD j 0 < ys.getD j 0)) (decide (xs.length < ys.length)) l := fun l => by
      induction l with
      | nil => simp [SeqAt.firstLt]
      | cons j l ih =>
        rw [List.map_cons]
        unfold SeqAt.firstLt
        rw [ih]
        simp
    rw [e1, List.range_succ_eq_map, HT.lexLt_cons]
    unfold SeqAt.firstLt
    show (if decide (x = y) = true then _ else decide (x < y)) = _
    by_cases h : x = y
    · rw [if_pos (decide_eq_true h), if_pos h, ← ih]
      exact sh _
    · rw [if_neg (by simpa using h), if_neg h]
theorem opr_lt (hu : X.A.units < cLine) : OpR X (compareOp .Lt) (rB2 X.K (opCmp .lt)) := by
  intro pins s σ H x y v u Q I rx ry h
  obtain ⟨F, dx, dy, r, fo, hx, hy, e, q⟩ := h
  cases dx with
  | int i =>
    cases dy <;> first | (cases e; done) | skip
    cases e
    cases hx.int; cases hy.int
    exact op_lt pins s σ H _ _ v u Q I rx ry ⟨_, _, rfl, rfl, q H Go.refl⟩
  | lst xs =>
    cases dy <;> first | (cases e; done) | skip
    rename_i ys
    have e' : (Out.of (intsOf xs)).bind (fun ns => (Out.of (intsOf ys)).bind fun ms => .ok (HT.lexLt ns ms)) = .ok r := e
    cases h1 : intsOf xs with
    | none => rw [h1] at e'; cases e'
    | some ns =>
    cases h2 : intsOf ys with
    | none => rw [h1, h2] at e'; cases e'
    | some ms =>
    rw [h1, h2] at e'
    cases e'
    obtain ⟨a, vs, rfl, k1, k2⟩ := hx.lst
    obtain ⟨b, ws, rfl, k3, k4⟩ := hy.lst
    cases rx
    cases ry
    obtain ⟨its, rv, pl, hz⟩ := I.list k1
    obtain ⟨its2, rv2, pl2, hz2⟩ := I.list k3
    rw [ints_of k2 h1] at rv
    rw [ints_of k4 h2] at rv2
    have l1 : its.toArray.size = ns.length := by rw [List.size_toArray, ← rv.length, List.length_map]
    have l2 : its2.toArray.size = ms.length := by rw [List.size_toArray, ← rv2.length, List.length_map]
    have at1 : ∀ {zs : List Int} {us : List Value}, Vals (zs.map V.int) us → ∀ (j : Nat) (hj : j < us.toArray.size), ∃ t, us.toArray[j] = .int (zs.getD j 0) t := fun {zs us} hv j hj => by
      have hj2 : j < us.length := by simpa using hj
      have hj3 : j < zs.length := by have := hv.length; rw [List.length_map] at this; omega
      obtain ⟨w, hw, rw'⟩ := hv.get (show (zs.map V.int)[j]? = some (V.int zs[j]) by simp [hj3])
      obtain ⟨t, rfl⟩ := rw'
      refine ⟨t, ?_⟩
      have e1 : us[j]? = some us[j] := by simp [hj2]
      rw [e1] at hw
      have e2 : us.toArray[j] = us[j] := by simp
      rw [e2, Option.some.inj hw, List.getD_eq_getElem?_getD, List.getElem?_eq_getElem hj3]
      rfl
    have key := SeqAt.RcLt.lists (A := X.A) (s := s) (e := fun j => decide (ns.getD j 0 = ms.getD j 0)) (r := fun j => decide (ns.getD j 0 < ms.getD j 0)) pl.isList pl2.isList hu (fun j h1 h2 => by
        obtain ⟨t, e1⟩ := at1 rv j h1
        obtain ⟨t2, e2⟩ := at1 rv2 j h2
        rw [e1, e2]
        have := SeqAt.EqAt.int_int (A := X.A.in1) (s := s) (ns.getD j 0) t (ms.getD j 0) t2
        have eb : (ns.getD j 0 == ms.getD j 0) = decide (ns.getD j 0 = ms.getD j 0) := by rw [Bool.eq_iff_iff]; simp
        rw [eb] at this
        exact this) (fun j h1 h2 _ => by
        obtain ⟨t, e1⟩ := at1 rv j h1
        obtain ⟨t2, e2⟩ := at1 rv2 j h2
        rw [e1, e2]
        intro prog w E Q h
        exact (PyProof.Rows.lt_int h : wpAny (model prog w) _ (compareOp .Lt (.int (ns.getD j 0) t) (.int (ms.getD j 0) t2)) Q E s))
    rw [l1, l2, first_lex] at key
    exact (key X.prog X.w X.xe _ ⟨.bl _, H, I, rfl, q H Go.refl⟩ : wpAny (model X.prog X.w) X.A (richCompare .Lt _ _) (EP X pins σ Q) X.xe s)
  | _ => cases dy <;> cases e
theorem opr_le : OpR X (compareOp .LtE) (rB2 X.K (opCmp .le)) := opr_intc op_le (fun _ _ => rfl) fun a b r e => by cases a <;> cases b <;> first | exact ⟨_, _, rfl, rfl⟩ | cases e
theorem opr_gt : OpR X (compareOp .Gt) (rB2 X.K (opCmp .gt)) := opr_intc op_gt (fun _ _ => rfl) fun a b r e => by cases a <;> cases b <;> first | exact ⟨_, _, rfl, rfl⟩ | cases e
theorem opr_ge : OpR X (compareOp .GtE) (rB2 X.K (opCmp .ge)) := opr_intc op_ge (fun _ _ => rfl) fun a b r e => by cases a <;> cases b <;> first | exact ⟨_, _, rfl, rfl⟩ | cases e
theorem nonV {K : PySem.W.Frag} {F : Addr → Prop} {H : Hp} {v : V} {d : D} (h : RepV K F H v d) : decide (v = .non) = d.isNon := by
  rcases h with h | ⟨a, c, ea, e, h⟩
  · cases h <;> rfl
  · subst e ea; cases c <;> rfl
theorem opr_isN : OpR X (compareOp .Is) (rB2 X.K (opCmp .isN)) := by
  intro pins s σ H x y v u Q I rx ry h
  obtain ⟨F, dx, dy, r, fo, hx, hy, e, q⟩ := h
  cases dy with
  | non =>
    cases hy.non
    have e' : Out.ok dx.isNon = .ok r := by cases dx <;> exact e
    cases e'
    exact op_isN pins s σ H _ _ v u Q I rx ry ⟨rfl, by rw [nonV hx]; exact q H Go.refl⟩
  | _ => cases dx <;> cases e
theorem opr_notN : OpR X (compareOp .IsNot) (rB2 X.K (opCmp .notN)) := by
  intro pins s σ H x y v u Q I rx ry h
  obtain ⟨F, dx, dy, r, fo, hx, hy, e, q⟩ := h
  cases dy with
  | non =>
    cases hy.non
    have e' : Out.ok (!dx.isNon) = .ok r := by cases dx <;> exact e
    cases e'
    exact op_notN pins s σ H _ _ v u Q I rx ry ⟨rfl, by rw [nonV hx]; exact q H Go.refl⟩
  | _ => cases dx <;> cases e
end
end PyI

end
section
set_option autoImplicit false
/-! PyD: expressions: what the evaluator says is what the code does. -/
namespace PyI
open PySem PySem.Spec PyProof.Rows L2 RZ RT

/-- fixed through a def's body: the heap at its entry, the wish about exceptions, what calls and the module's names give -/
structure Gc where
  H0 : Bs
  W : WX
  cx : Cxt
def XRep (K : PySem.W.Frag) (H : Hp) (x : Exn) (c : Value) (d : Option Addr) : Prop :=
  c = .ref (He.ga K x.cls) ∧ XdAt H d x.at_
abbrev Rl (α β : Type) := (Addr → Prop) → Hp → Nv → β → α → Prop
/-- what is wanted of an end -/
def Post {α β : Type} (K : PySem.W.Frag) (G : Gc) (σ : L2.St) (h : Nat → Bool) (F : Addr → Prop) (H : Hp) (env : Nv) (rel : Rl α β) (Q : β → Hp → Prop) : Out (α × Nv) → Prop
  | .stuck => False
  | .ok (r, env') => ∀ F' v H', Stp K G.H0 σ h F H env F' H' env' → rel F' H' env' v r → Q v H'
  | .exc x => ∀ F' env' c d H', Stp K G.H0 σ h F H env F' H' env' → XRep K H' x c d → G.W c d σ H'
abbrev relR (K : PySem.W.Frag) (Hs : Hp) (σ : L2.St) : Rl Res V := fun F H env v r => RepR K Hs F H σ env v r
abbrev relA (K : PySem.W.Frag) (Hs : Hp) (σ : L2.St) : Rl (List Res) (List V) := fun F H env v r => RepRs K Hs F H σ env v r
abbrev relE {α : Type} : Rl α α := fun _ _ _ v r => v = r
section
variable {α β γ δ : Type} {K : PySem.W.Frag} {G : Gc} {σ : L2.St} {h h' h'' : Nat → Bool} {F F' F1 : Addr → Prop} {H H1 : Hp} {env env1 : Nv} {rel : Rl α β} {rel' : Rl γ δ} {Q Q' : β → Hp → Prop} {Q2 : δ → Hp → Prop}
theorem Post.shift {o : Out (α × Nv)} (P : Post K G σ h F H env rel Q o) (s : Stp K G.H0 σ h F H env F1 H1 env1) : Post K G σ h F1 H1 env1 rel Q o := by
  cases o with
  | stuck => exact P
  | ok r => exact fun F' v H' t q => P F' v H' (s.trans t (fun _ h => h) fun _ h => h) q
  | exc x => exact fun F' env' c d H' t q => P F' env' c d H' (s.trans t (fun _ h => h) fun _ h => h) q
theorem Post.seq {o : Out (α × Nv)} {f : α × Nv → Out (γ × Nv)} (P : Post K G σ h'' F H env rel' Q2 (o.bind f)) (e : ∀ j, h'' j = false → h j = false)
    (k : ∀ r env1 F1 v H1, o = .ok (r, env1) → Post K G σ h'' F1 H1 env1 rel' Q2 (f (r, env1)) → Stp K G.H0 σ h F H env F1 H1 env1 → rel F1 H1 env1 v r → Q v H1) : Post K G σ h F H env rel Q o := by
  cases o with
  | stuck => exact P
  | ok r =>
    obtain ⟨r, env1⟩ := r
    intro F1 v H1 s q
    refine k r env1 F1 v H1 rfl ?_ s q
    have P' : Post K G σ h'' F H env rel' Q2 (f (r, env1)) := P
    exact P'.shift (s.weak e)
  | exc x => exact fun F' env' c d H' t q => P F' env' c d H' (t.weak e) q
/-- .. from the start on -/
theorem Post.seq0 {o : Out (α × Nv)} {f : α × Nv → Out (γ × Nv)} (P : Post K G σ h'' F H env rel' Q2 (o.bind f)) (e : ∀ j, h'' j = false → h j = false)
    (k : ∀ r env1 F1 v H1, o = .ok (r, env1) → Post K G σ h'' F H env rel' Q2 (f (r, env1)) → Stp K G.H0 σ h F H env F1 H1 env1 → rel F1 H1 env1 v r → Q v H1) : Post K G σ h F H env rel Q o := by
  cases o with
  | stuck => exact P
  | ok r =>
    obtain ⟨r, env1⟩ := r
    exact fun F1 v H1 s q => k r env1 F1 v H1 rfl P s q
  | exc x => exact fun F' env' c d H' t q => P F' env' c d H' (t.weak e) q
theorem Post.less {o : Out (α × Nv)} (P : Post K G σ h'' F H env rel Q o) (e : ∀ j, h'' j = false → h j = false) : Post K G σ h F H env rel Q o := by
  cases o with
  | stuck => exact P
  | ok r => exact fun F' v H' t q => P F' v H' (t.weak e) q
  | exc x => exact fun F' env' c d H' t q => P F' env' c d H' (t.weak e) q
theorem Post.wr {rel2 : Rl α β} {o : Out (α × Nv)} (P : Post K G σ h F H env rel Q o) (k : ∀ F' H' env' v r, rel2 F' H' env' v r → rel F' H' env' v r) : Post K G σ h F H env rel2 Q o := by
  cases o with
  | stuck => exact P
  | ok r => exact fun F' v H' t q => P F' v H' t (k _ _ _ _ _ q)
  | exc x => exact P
theorem Post.of {o : Option γ} {f : γ → Out (α × Nv)} (P : Post K G σ h F H env rel Q ((Out.of o).bind f)) : ∃ a, o = some a ∧ Post K G σ h F H env rel Q (f a) := by
  cases o with
  | none => exact P.elim
  | some a => exact ⟨a, rfl, P⟩
theorem Post.ite {c : Prop} [Decidable c] {o : Out (α × Nv)} (P : Post K G σ h F H env rel Q (if c then o else .stuck)) : c ∧ Post K G σ h F H env rel Q o := by
  split at P
  · exact ⟨by assumption, P⟩
  · exact P.elim
end
/-- no exception -/
def NoX {α : Type} : Out α → Prop
  | .exc _ => False
  | _ => True
theorem NoX.bind {α β : Type} {o : Out α} {f : α → Out β} (h : NoX o) (k : ∀ a, NoX (f a)) : NoX (o.bind f) := by
  cases o with
  | stuck => trivial
  | ok a => exact k a
  | exc _ => exact h
theorem NoX.of {α : Type} (o : Option α) : NoX (Out.of o) := by cases o <;> trivial
theorem NoX.val {o : Out D} (h : NoX o) : NoX o.val := h.bind fun _ => trivial
theorem NoX.no {α : Type} {o : Out α} {x : Exn} (h : NoX o) (e : o = .exc x) : False := by subst e; exact h
theorem NoX.ite {α : Type} {c : Prop} [Decidable c] {o p : Out α} (h : NoX o) (k : NoX p) : NoX (if c then o else p) := by split <;> assumption
theorem opBin_nox (o : BOp) (a b : D) : NoX (opBin o a b) := by
  unfold opBin
  split <;> first | trivial | exact NoX.ite trivial trivial | exact NoX.val (NoX.ite trivial trivial)
theorem opIn_nox (a b : D) : NoX (opIn a b) := by
  unfold opIn
  split
  · trivial
  · exact NoX.ite trivial trivial
  · exact NoX.ite trivial trivial
  · exact (NoX.of _).bind fun _ => trivial
theorem opCmp_nox (o : COp) (a b : D) : NoX (opCmp o a b) := by
  unfold opCmp
  split <;> first | trivial | exact (NoX.of _).bind fun _ => (NoX.of _).bind fun _ => trivial | exact NoX.ite trivial trivial | exact opIn_nox _ _ | exact (opIn_nox _ _).bind fun _ => trivial
def TE (K : PySem.W.Frag) (G : Gc) (i : I) : L2.TE := fun σ H Q => ∃ F env, Sim K G.H0 F H σ env ∧ Post K G σ (fun j => i.hits j) F H env (relR K H σ) Q (evE G.cx i env)
def TT (K : PySem.W.Frag) (G : Gc) (i : I) : L2.TT := fun σ H Q => ∃ F env, Sim K G.H0 F H σ env ∧ Post K G σ (fun j => i.hits j) F H env relE Q (evT G.cx i env)
def TA (K : PySem.W.Frag) (G : Gc) (i : I) : L2.TA := fun σ H Q => ∃ F env, Sim K G.H0 F H σ env ∧ Post K G σ (fun j => i.hits j) F H env (relA K H σ) Q (evA G.cx i env)
def TP (K : PySem.W.Frag) (G : Gc) (i : I) : TO := fun σ H Q => ∃ F env, Sim K G.H0 F H σ env ∧ Post K G σ (fun j => i.hits j) F H env relE Q (evP G.cx i env)

theorem or_l {a b : Bool} (h : (a || b) = false) : a = false := (Bool.or_eq_false_iff.mp h).1
theorem or_r {a b : Bool} (h : (a || b) = false) : b = false := (Bool.or_eq_false_iff.mp h).2

/-- an expression as a value, as a test -/
structure SE (X : Cx) (G : Gc) (e : Expr) (i : I) : Prop where
  pe : PE X e (TE X.K G i)
  pt : PT X e (TT X.K G i)
  pw : ∀ op vs pos, e = .BoolOp op vs pos → PW X e (TT X.K G i)
section
variable {X : Cx} {G : Gc} {i ia ib ic il ih : I} {e a b c : Expr} {es : List Expr} {pos : Pos}
theorem imp_pe {t t' : L2.TE} (h : PE X e t) (w : ∀ σ H Q, t' σ H Q → t σ H Q) : PE X e t' := ⟨fun pins s σ H Q I q => h.run pins s σ H Q I (w σ H Q q)⟩
theorem imp_pt {t t' : L2.TT} (h : PT X e t) (w : ∀ σ H Q, t' σ H Q → t σ H Q) : PT X e t' := ⟨fun pins s σ H Q I q => h.run pins s σ H Q I (w σ H Q q)⟩
theorem imp_pw {t t' : L2.TT} (h : PW X e t) (w : ∀ σ H Q, t' σ H Q → t σ H Q) : PW X e t' := ⟨fun wh pins s σ H Q I q => h.run wh pins s σ H Q I (w σ H Q q)⟩
theorem imp_pa {t t' : L2.TA} (h : PA X es t) (w : ∀ σ H Q, t' σ H Q → t σ H Q) : PA X es t' := ⟨fun pos pins s σ H Q I q => h.run pos pins s σ H Q I (w σ H Q q)⟩
/-- a value that is a truth -/
theorem tt_te {σ : L2.St} {H : Hp} {Q : Bool → Hp → Prop} (h : TT X.K G i σ H Q) : tB (TE X.K G i) σ H Q := by
  obtain ⟨F, env, S, P⟩ := h
  refine ⟨F, env, S, Post.seq P (fun _ h => h) fun r env1 F1 v H1 _ P1 s1 q1 => ?_⟩
  obtain ⟨b, hb, P2⟩ := P1.of
  cases r with
  | val d =>
    cases d with
    | bl b' =>
      cases hb
      cases (show Rep X.K F1 H1 v (.bl b) from q1)
      exact ⟨b, rfl, P2 F1 b H1 (Stp.refl s1.sim) rfl⟩
    | _ => cases hb
  | _ => cases hb
theorem SE.of_pe (h : PE X e (TE X.K G i)) (he : ∀ whole, isTrue e X.env whole = (do let v ← whole; standAt e.pos; holding [v] (truthy v))) (hb : ∀ op vs pos, e ≠ .BoolOp op vs pos) : SE X G e i :=
  ⟨h, imp_pt (pt_val h he) fun _ _ _ q => tt_te q, fun op vs pos z => absurd z (hb op vs pos)⟩

/-! ### names, constants -/
theorem se_var {n : Nat} {x : Str} (hN : X.N[n]? = some x) (hv : Vis X.env.scope x) (hd : (x == ("__debug__" : Str)) = false) (hcd : (x == ("__classdict__" : Str)) = false) : SE X G (.Name x pos) (.var n) := by
  refine SE.of_pe (imp_pe (pe_var hN hv hd hcd) fun σ H Q h => ?_) (fun _ => rfl) (fun _ _ _ z => nomatch z)
  obtain ⟨F, env, S, P⟩ := h
  rw [evE] at P
  cases he : env[n]? with
  | none => rw [he] at P; exact P.elim
  | some s =>
    rw [he] at P
    cases s with
    | emp => exact P.elim
    | val d =>
      obtain ⟨v, h1, h2⟩ := S.val n d he
      exact ⟨v, h1, P F v H (Stp.refl S) h2⟩
    | own c =>
      obtain ⟨a, h1, h2, h3, h4⟩ := S.own n c he
      exact ⟨.ref a, h1, P F _ H (Stp.refl S) ⟨a, c, rfl, h1, he⟩⟩
theorem se_int {k : Int} {j} : SE X G (.Constant (.int k) j pos) (.kI k) :=
  SE.of_pe (imp_pe pe_int fun σ H Q ⟨F, env, S, P⟩ => by rw [evE] at P; exact P F (.int k) H (Stp.refl S) (.int k)) (fun _ => rfl) (fun _ _ _ z => nomatch z)
theorem se_bl {k : Bool} {j} : SE X G (.Constant (.bool k) j pos) (.kB k) :=
  SE.of_pe (imp_pe pe_bl fun σ H Q ⟨F, env, S, P⟩ => by rw [evE] at P; exact P F (.bl k) H (Stp.refl S) (.bl k)) (fun _ => rfl) (fun _ _ _ z => nomatch z)
theorem se_non {j} : SE X G (.Constant .none j pos) .kN :=
  SE.of_pe (imp_pe pe_non fun σ H Q ⟨F, env, S, P⟩ => by rw [evE] at P; exact P F .non H (Stp.refl S) .non) (fun _ => rfl) (fun _ _ _ z => nomatch z)
theorem se_str {k : Str} {j} (ok : strOk k = true) : SE X G (.Constant (.str k) j pos) (.kS k) :=
  SE.of_pe (imp_pe pe_str fun σ H Q ⟨F, env, S, P⟩ => by rw [evE] at P; exact P F (.str k) H (Stp.refl S) (.str ok)) (fun _ => rfl) (fun _ _ _ z => nomatch z)

/-! ### operators -/
theorem RepN.r {K : PySem.W.Frag} {H0 : Bs} {Hs : Hp} {F F0 : Addr → Prop} {H H' : Hp} {σ : L2.St} {env : Nv} {v : V} {r : Res} (S : Sim K H0 F0 H σ env) (e : ∀ b, H b = none → Hs b = none) (q : RepN K H F H' v r) : RepR K Hs F H' σ env v r := by
  cases r with
  | val d => exact q
  | new c =>
    obtain ⟨a, e', h1, h2, h3⟩ := q
    exact ⟨a, e', h1, h2, S.new h3, e _ h3⟩
  | ref i => exact q.elim
theorem se_bin {op : Operator} {o : BOp} (ho : OpR X (binaryOp op) (rD2 X.K (opBin o))) (ha : SE X G a ia) (hb : SE X G b ib) : SE X G (.BinOp a op b pos) (.bin o ia ib) := by
  refine SE.of_pe (imp_pe (pe_op ho ha.pe hb.pe) fun σ H Q h => ?_) (fun _ => rfl) (fun _ _ _ z => nomatch z)
  obtain ⟨F, env, S, P⟩ := h
  rw [evE] at P
  refine ⟨F, env, S, P.seq (fun j hj => or_l hj) fun ra env1 F1 x H1 _ P1 s1 q1 => ⟨F1, env1, s1.sim, P1.seq (fun j hj => or_r hj) fun rb env2 F2 y H2 _ P2 s2 q2 => ?_⟩⟩
  obtain ⟨dx, hx, P2⟩ := P2.of
  obtain ⟨dy, hy, P2⟩ := P2.of
  cases e : opBin o dx dy with
  | stuck => rw [e] at P2; exact P2.elim
  | exc _ => exact ((opBin_nox _ _ _).no e).elim
  | ok r =>
    rw [e] at P2
    exact ⟨F2, dx, dy, r, s2.sim.fro, (q1.stp s2 s1.sim).get s2.sim hx, q2.get s2.sim hy, e, fun v H' g q => P2 F2 v H' (s2.sim.stp g) (q.r s2.sim fun b z => s1.go.back (s2.go.back z))⟩
theorem se_neg (ha : SE X G a ia) : SE X G (.UnaryOp .USub a pos) (.neg ia) := by
  refine SE.of_pe (imp_pe (pe_un opr_neg ha.pe) fun σ H Q h => ?_) (fun _ => rfl) (fun _ _ _ z => nomatch z)
  obtain ⟨F, env, S, P⟩ := h
  rw [evE] at P
  refine ⟨F, env, S, P.seq (fun j hj => hj) fun ra env1 F1 x H1 _ P1 s1 q1 => ?_⟩
  obtain ⟨dx, hx, P1⟩ := P1.of
  cases e : opNeg dx with
  | stuck => rw [e] at P1; exact P1.elim
  | exc _ => cases dx <;> cases e
  | ok r =>
    rw [e] at P1
    exact ⟨F1, dx, r, q1.get s1.sim hx, e, fun v q => P1 F1 v H1 (Stp.refl s1.sim) q⟩
theorem se_cmp {op : CmpOp} {o : COp} (ho : OpR X (compareOp op) (rB2 X.K (opCmp o))) (hm : behindInMarks op b = false) (ha : SE X G a ia) (hb : SE X G b ib) : SE X G (.Compare a [op] [b] pos) (.cmp o ia ib) := by
  have key : ∀ σ H (Q : VK), TE X.K G (.cmp o ia ib) σ H Q → tOp (rB2 X.K (opCmp o)) (TE X.K G ia) (TE X.K G ib) σ H Q := fun σ H Q h => by
    obtain ⟨F, env, S, P⟩ := h
    rw [evE] at P
    refine ⟨F, env, S, P.seq (fun j hj => or_l hj) fun ra env1 F1 x H1 _ P1 s1 q1 => ⟨F1, env1, s1.sim, P1.seq (fun j hj => or_r hj) fun rb env2 F2 y H2 _ P2 s2 q2 => ?_⟩⟩
    obtain ⟨dx, hx, P2⟩ := P2.of
    obtain ⟨dy, hy, P2⟩ := P2.of
    cases e : opCmp o dx dy with
    | stuck => rw [e] at P2; exact P2.elim
    | exc _ => exact ((opCmp_nox _ _ _).no e).elim
    | ok r =>
      rw [e] at P2
      exact ⟨F2, dx, dy, r, s2.sim.fro, (q1.stp s2 s1.sim).get s2.sim hx, q2.get s2.sim hy, e, fun H' g => P2 F2 (.bl r) H' (s2.sim.stp g) (.bl r)⟩
  refine ⟨imp_pe (pe_cmpR ho ha.pe hb.pe hm) key, imp_pt (pt_cmpR ho ha.pe hb.pe hm) fun σ H Q h => ?_, fun _ _ _ z => nomatch z⟩
  have := tt_te h
  exact key σ H _ this
theorem se_cmp2 {p1 p2 : CmpOp} {o1 o2 : COp} (h1 : OpR X (compareOp p1) (rB2 X.K (opCmp o1))) (h2 : OpR X (compareOp p2) (rB2 X.K (opCmp o2))) (hm : lastMarks [p1, p2] [b, c] = false) (ha : SE X G a ia) (hb : SE X G b ib) (hc : SE X G c ic) :
    SE X G (.Compare a [p1, p2] [b, c] pos) (.cmp2 o1 o2 ia ib ic) := by
  have key : ∀ σ H (Q : VK), TE X.K G (.cmp2 o1 o2 ia ib ic) σ H Q → tChain (rB2 X.K (opCmp o1)) (rB2 X.K (opCmp o2)) (TE X.K G ia) (TE X.K G ib) (TE X.K G ic) σ H Q := fun σ H Q h => by
    obtain ⟨F, env, S, P⟩ := h
    rw [evE] at P
    refine ⟨F, env, S, P.seq (fun j hj => or_l (or_l hj)) fun ra env1 F1 x H1 _ P1 s1 q1 => ⟨F1, env1, s1.sim, P1.seq (fun j hj => or_r (or_l hj)) fun rb env2 F2 y H2 _ P2 s2 q2 => ?_⟩⟩
    obtain ⟨dx, hx, P2⟩ := P2.of
    obtain ⟨dy, hy, P2⟩ := P2.of
    cases e : opCmp o1 dx dy with
    | stuck => rw [e] at P2; exact P2.elim
    | exc _ => exact ((opCmp_nox _ _ _).no e).elim
    | ok r =>
      rw [e] at P2
      refine ⟨F2, dx, dy, r, s2.sim.fro, (q1.stp s2 s1.sim).get s2.sim hx, q2.get s2.sim hy, e, fun H3 g => ⟨r, rfl, ?_⟩⟩
      have s3 : Stp X.K G.H0 σ (fun j => ic.hits j) F2 H2 env2 F2 H3 env2 := s2.sim.stp g
      cases r with
      | false => exact P2 F2 (.bl false) H3 (s2.sim.stp g) (.bl false)
      | true =>
        have P3 := P2.shift (s2.sim.stp g)
        refine ⟨F2, env2, s3.sim, Post.seq P3 (fun j hj => or_r hj) fun rc env4 F4 z H4 _ P4 s4 q4 => ?_⟩
        obtain ⟨dy', hy', P4⟩ := P4.of
        obtain ⟨dz, hz, P4⟩ := P4.of
        cases e2 : opCmp o2 dy' dz with
        | stuck => rw [e2] at P4; exact P4.elim
        | exc _ => exact ((opCmp_nox _ _ _).no e2).elim
        | ok r2 =>
          rw [e2] at P4
          exact ⟨F4, dy', dz, r2, s4.sim.fro, ((q2.stp s3 s2.sim).stp s4 s3.sim).get s4.sim hy', q4.get s4.sim hz, e2, fun H' g => P4 F4 (.bl r2) H' (s4.sim.stp g) (.bl r2)⟩
  refine ⟨imp_pe (pe_chain h1 h2 ha.pe hb.pe hc.pe hm) key, imp_pt (pt_chain h1 h2 ha.pe hb.pe hc.pe hm) fun σ H Q h => ?_, fun _ _ _ z => nomatch z⟩
  have := tt_te h
  exact key σ H _ this

/-! ### and, or, not -/
theorem bool_bl {r : Res} {b : Bool} (h : r.bool = some b) : r = .val (.bl b) := by
  cases r with
  | val d => cases d <;> cases h; rfl
  | _ => cases h
theorem se_not (ha : SE X G a ia) : SE X G (.UnaryOp .Not a pos) (.not_ ia) := by
  refine ⟨imp_pe (pe_not ha.pe) fun σ H Q h => ?_, imp_pt (pt_not ha.pt) fun σ H Q h => ?_, fun _ _ _ z => nomatch z⟩
  · obtain ⟨F, env, S, P⟩ := h
    rw [evE] at P
    refine ⟨F, env, S, P.seq (fun j hj => hj) fun ra env1 F1 x H1 _ P1 s1 q1 => ?_⟩
    obtain ⟨t, ht, P1⟩ := P1.of
    have hr := bool_bl ht
    subst hr
    cases (show Rep X.K F1 H1 x (.bl t) from q1)
    exact ⟨t, rfl, P1 F1 _ H1 (Stp.refl s1.sim) (.bl _)⟩
  · obtain ⟨F, env, S, P⟩ := h
    refine ⟨F, env, S, ?_⟩
    have e : evT G.cx (.not_ ia) env = (evT G.cx ia env).bind fun t => .ok (!t.1, t.2) := by
      unfold evT
      rw [evE]
      cases evE G.cx ia env with
      | stuck => rfl
      | exc _ => rfl
      | ok r =>
        obtain ⟨r, env'⟩ := r
        cases h : r.bool with
        | none => simp [h]
        | some b =>
          have := bool_bl h
          subst this
          rfl
    rw [e] at P
    exact P.seq (fun j hj => hj) fun t env1 F1 x H1 _ P1 s1 q1 => by
      cases q1
      exact P1 F1 _ H1 (Stp.refl s1.sim) rfl
theorem evT_and (cx : Cxt) (ia ib : I) (env : Nv) : evT cx (.and_ ia ib) env = (evT cx ia env).bind fun t => match t.1 with | false => .ok (false, t.2) | true => evT cx ib t.2 := by
  unfold evT
  rw [evE]
  cases evE cx ia env with
  | stuck => rfl
  | exc _ => rfl
  | ok r =>
    obtain ⟨r, env'⟩ := r
    cases h : r.bool with
    | none => simp [h]
    | some b =>
      have := bool_bl h
      subst this
      cases b <;> rfl
theorem evT_or (cx : Cxt) (ia ib : I) (env : Nv) : evT cx (.or_ ia ib) env = (evT cx ia env).bind fun t => match t.1 with | true => .ok (true, t.2) | false => evT cx ib t.2 := by
  unfold evT
  rw [evE]
  cases evE cx ia env with
  | stuck => rfl
  | exc _ => rfl
  | ok r =>
    obtain ⟨r, env'⟩ := r
    cases h : r.bool with
    | none => simp [h]
    | some b =>
      have := bool_bl h
      subst this
      cases b <;> rfl
theorem tt_and {σ : L2.St} {H : Hp} {Q : Bool → Hp → Prop} (h : TT X.K G (.and_ ia ib) σ H Q) : tAnd (TT X.K G ia) (TT X.K G ib) σ H Q := by
  obtain ⟨F, env, S, P⟩ := h
  rw [evT_and] at P
  refine ⟨F, env, S, P.seq (fun j hj => or_l hj) fun t env1 F1 x H1 _ P1 s1 q1 => ?_⟩
  cases q1
  cases t with
  | false => exact P1 F1 _ H1 (Stp.refl s1.sim) rfl
  | true => exact ⟨F1, env1, s1.sim, Post.less P1 fun j hj => or_r hj⟩
theorem tt_or {σ : L2.St} {H : Hp} {Q : Bool → Hp → Prop} (h : TT X.K G (.or_ ia ib) σ H Q) : tOr (TT X.K G ia) (TT X.K G ib) σ H Q := by
  obtain ⟨F, env, S, P⟩ := h
  rw [evT_or] at P
  refine ⟨F, env, S, P.seq (fun j hj => or_l hj) fun t env1 F1 x H1 _ P1 s1 q1 => ?_⟩
  cases q1
  cases t with
  | true => exact P1 F1 _ H1 (Stp.refl s1.sim) rfl
  | false => exact ⟨F1, env1, s1.sim, Post.less P1 fun j hj => or_r hj⟩
theorem te_and {σ : L2.St} {H : Hp} {Q : VK} (h : TE X.K G (.and_ ia ib) σ H Q) : tAndV (TE X.K G ia) (TE X.K G ib) σ H Q := by
  obtain ⟨F, env, S, P⟩ := h
  rw [evE] at P
  refine ⟨F, env, S, P.seq (fun j hj => or_l hj) fun r env1 F1 x H1 _ P1 s1 q1 => ?_⟩
  obtain ⟨t, ht, P1⟩ := P1.of
  have hr := bool_bl ht
  subst hr
  cases (show Rep X.K F1 H1 x (.bl t) from q1)
  refine ⟨t, rfl, ?_⟩
  cases t with
  | false => exact P1 F1 _ H1 (Stp.refl s1.sim) (.bl _)
  | true =>
    exact ⟨F1, env1, s1.sim, Post.wr (Post.less P1 fun j hj => or_r hj) fun _ _ _ _ _ q => RepR.earlier (fun _ z => s1.go.back z) q⟩
theorem te_or {σ : L2.St} {H : Hp} {Q : VK} (h : TE X.K G (.or_ ia ib) σ H Q) : tOrV (TE X.K G ia) (TE X.K G ib) σ H Q := by
  obtain ⟨F, env, S, P⟩ := h
  rw [evE] at P
  refine ⟨F, env, S, P.seq (fun j hj => or_l hj) fun r env1 F1 x H1 _ P1 s1 q1 => ?_⟩
  obtain ⟨t, ht, P1⟩ := P1.of
  have hr := bool_bl ht
  subst hr
  cases (show Rep X.K F1 H1 x (.bl t) from q1)
  refine ⟨t, rfl, ?_⟩
  cases t with
  | true => exact P1 F1 _ H1 (Stp.refl s1.sim) (.bl _)
  | false =>
    exact ⟨F1, env1, s1.sim, Post.wr (Post.less P1 fun j hj => or_r hj) fun _ _ _ _ _ q => RepR.earlier (fun _ z => s1.go.back z) q⟩
/-- a and b; b is the last -/
theorem se_and1 (ha : SE X G a ia) (hb : SE X G b ib) : SE X G (.BoolOp .And [a, b] pos) (.and_ ia ib) := by
  have w : PW X (.BoolOp .And [a, b] pos) (TT X.K G (.and_ ia ib)) := imp_pw (pw_and ha.pt (pw_and1 hb.pt)) fun _ _ _ q => tt_and q
  exact ⟨imp_pe (pe_and ha.pe (pe_one hb.pe)) fun _ _ _ q => te_and q, w.pt, fun _ _ _ z => by cases z; exact w⟩
theorem se_and (ha : SE X G a ia) (hb : SE X G (.BoolOp .And (b :: c :: es) pos) ib) : SE X G (.BoolOp .And (a :: b :: c :: es) pos) (.and_ ia ib) := by
  have w : PW X (.BoolOp .And (a :: b :: c :: es) pos) (TT X.K G (.and_ ia ib)) := imp_pw (pw_and ha.pt (hb.pw _ _ _ rfl)) fun _ _ _ q => tt_and q
  exact ⟨imp_pe (pe_and ha.pe hb.pe) fun _ _ _ q => te_and q, w.pt, fun _ _ _ z => by cases z; exact w⟩
theorem se_or1 (ha : SE X G a ia) (hb : SE X G b ib) : SE X G (.BoolOp .Or [a, b] pos) (.or_ ia ib) := by
  have w : PW X (.BoolOp .Or [a, b] pos) (TT X.K G (.or_ ia ib)) := imp_pw (pw_or ha.pt (pw_or1 hb.pt)) fun _ _ _ q => tt_or q
  exact ⟨imp_pe (pe_or ha.pe (pe_one hb.pe)) fun _ _ _ q => te_or q, w.pt, fun _ _ _ z => by cases z; exact w⟩
theorem se_or (ha : SE X G a ia) (hb : SE X G (.BoolOp .Or (b :: c :: es) pos) ib) : SE X G (.BoolOp .Or (a :: b :: c :: es) pos) (.or_ ia ib) := by
  have w : PW X (.BoolOp .Or (a :: b :: c :: es) pos) (TT X.K G (.or_ ia ib)) := imp_pw (pw_or ha.pt (hb.pw _ _ _ rfl)) fun _ _ _ q => tt_or q
  exact ⟨imp_pe (pe_or ha.pe hb.pe) fun _ _ _ q => te_or q, w.pt, fun _ _ _ z => by cases z; exact w⟩
end
end PyI

end
section
set_option autoImplicit false
/-! PyE: arguments, displays, subscripts, slices, calls, built-in functions. -/
namespace PyI
open PySem PySem.Spec PyProof.Rows L2 RZ RT

/-! ### arguments -/
def notStar : Expr → Bool
  | .Starred _ _ => false
  | _ => true
theorem starEach_cons {e : Expr} {es : List Expr} {env : PySem.Env} (h : notStar e = true) : starEach (e :: es) env = (false, eval e env) :: starEach es env := by
  cases e <;> first | rfl | cases h
theorem starEach_any {pos : Pos} {env : PySem.Env} : ∀ {es : List Expr}, es.all notStar = true → (backTo pos (starEach es env)).any (·.1) = false
  | [], _ => rfl
  | e :: es, h => by
    have h' := Bool.and_eq_true_iff.mp (show (notStar e && es.all notStar) = true from h)
    rw [starEach_cons h'.1]
    exact starEach_any (es := es) h'.2
structure SA (X : Cx) (G : Gc) (es : List Expr) (i : I) : Prop where
  pa : PA X es (TA X.K G i)
  ns : es.all notStar = true
section
variable {X : Cx} {G : Gc} {i ia ib ic il ih : I} {e a b c : Expr} {es : List Expr} {pos : Pos}
theorem sa_nil : SA X G [] .nil := ⟨imp_pa pa_nil fun σ H Q ⟨F, env, S, P⟩ => by
  rw [evA] at P
  exact P F [] H (Stp.refl S) .nil, rfl⟩
theorem sa_cons (ha : SE X G a ia) (hs : notStar a = true) (hb : SA X G es ib) : SA X G (a :: es) (.cons ia ib) := by
  refine ⟨imp_pa (pa_cons ha.pe hb.pa (starEach_cons hs)) fun σ H Q h => ?_, Bool.and_eq_true_iff.mpr ⟨hs, hb.ns⟩⟩
  obtain ⟨F, env, S, P⟩ := h
  rw [evA] at P
  refine ⟨F, env, S, P.seq (fun j hj => or_l hj) fun ra env1 F1 x H1 _ P1 s1 q1 => ⟨F1, env1, s1.sim, P1.seq (fun j hj => or_r hj) fun rs env2 F2 ys H2 _ P2 s2 q2 => ?_⟩⟩
  exact P2 F2 (x :: ys) H2 (Stp.refl s2.sim) (.cons (q1.stp s2 s1.sim) (RepRs.earlier (fun b z => s1.go.back z) q2))

/-! ### displays -/
/-- new objects behind a step -/
theorem Stp.then_go {K : PySem.W.Frag} {H0 : Bs} {σ : L2.St} {h : Nat → Bool} {F F1 : Addr → Prop} {H H1 H2 : Hp} {env env1 : Nv} {F2 : Addr → Prop} (s : Stp K H0 σ h F H env F1 H1 env1) (g : Go noO F1 H1 F2 H2) : Stp K H0 σ h F H env F2 H2 env1 :=
  s.trans (s.sim.stp (h := h) g) (fun _ h => h) fun _ h => h
theorem se_tup {x1} (ha : SA X G es ia) : SE X G (.Tuple es x1 pos) (.tup ia) := by
  refine SE.of_pe (imp_pe (pe_tup ha.pa) fun σ H Q h => ?_) (fun _ => rfl) (fun _ _ _ z => nomatch z)
  obtain ⟨F, env, S, P⟩ := h
  rw [evE] at P
  refine ⟨F, env, S, P.seq0 (fun j hj => hj) fun rs env1 F1 vs H1 _ P1 s1 q1 => ?_⟩
  obtain ⟨ds, hd, P1⟩ := P1.of
  obtain ⟨hl, P1⟩ := P1.ite
  obtain ⟨F2, s2, _, r2⟩ := freeze S s1 q1 hd
  refine ⟨by rw [r2.length, sizeLine_16]; exact hl, fun p hp => P1 F2 _ _ (s2.then_go (Go.upd hp)) (new_tup hp r2)⟩
theorem se_lst (ha : SA X G es ia) : SE X G (.List es pos) (.lst ia) := by
  refine SE.of_pe (imp_pe (pe_lst ha.pa) fun σ H Q h => ?_) (fun _ => rfl) (fun _ _ _ z => nomatch z)
  obtain ⟨F, env, S, P⟩ := h
  rw [evE] at P
  refine ⟨F, env, S, P.seq0 (fun j hj => hj) fun rs env1 F1 vs H1 _ P1 s1 q1 => ?_⟩
  obtain ⟨ds, hd, P1⟩ := P1.of
  obtain ⟨hl, P1⟩ := P1.ite
  obtain ⟨F2, s2, _, r2⟩ := freeze S s1 q1 hd
  exact ⟨by rw [r2.length, sizeLine_16]; exact hl, fun p hp => P1 F2 _ _ (s2.then_go (Go.upd hp)) (RepN.r s2.sim (fun b z => s2.go.back z) (new_lst s2.sim.fro hp r2))⟩
theorem se_dk0 : SE X G (.Dict [] [] pos) .dk0 := by
  refine SE.of_pe (imp_pe pe_dnewK fun σ H Q h => ?_) (fun _ => rfl) (fun _ _ _ z => nomatch z)
  obtain ⟨F, env, S, P⟩ := h
  rw [evE] at P
  intro p hp
  exact P F _ _ (S.stp (Go.upd hp)) ⟨p, rfl, ⟨[], upd_same, rfl, .nil⟩, fun z => S.fro p z hp, S.new hp, hp⟩
theorem se_dt0 : SE X G (.Dict [] [] pos) .dt0 := by
  refine SE.of_pe (imp_pe pe_dnewT fun σ H Q h => ?_) (fun _ => rfl) (fun _ _ _ z => nomatch z)
  obtain ⟨F, env, S, P⟩ := h
  rw [evE] at P
  intro p hp
  exact P F _ _ (S.stp (Go.upd hp)) ⟨p, rfl, ⟨[], upd_same, rfl, .nil⟩, fun z => S.fro p z hp, S.new hp, hp⟩

/-! ### subscripts -/
def notSlice : Expr → Bool
  | .Slice _ _ _ _ => false
  | _ => true
theorem plainIx_of (h : notSlice b = true) : PlainIx b := fun o i => by
  cases b <;> first | rfl | cases h
theorem atI_rep {K : PySem.W.Frag} {F : Addr → Prop} {H : Hp} {xs : List V} {ds : List D} {i : Int} {d : D} (r : RepL K F H xs ds) (e : atI ds i = some d) : ∃ v, atI xs i = some v ∧ Rep K F H v d := by
  unfold atI at e ⊢
  rw [r.length]
  cases h : ixN ds.length i with
  | none => rw [h] at e; cases e
  | some j =>
    rw [h] at e
    obtain ⟨x, h1, h2⟩ := r.get' (show ds[j]? = some d from e)
    exact ⟨x, h1, h2⟩
/-! dicts: the two kinds -/
theorem dlook_val {K : PySem.W.Frag} {F : Addr → Prop} {H : Hp} {κ : Type} [DecidableEq κ] (k : κ) : ∀ {kvs : List (κ × V)} {ds : List D}, RepL K F H (kvs.map (·.2)) ds →
    match dlook ((kvs.map (·.1)).zip ds) k with
    | none => valV kvs k = none
    | some d => ∃ v, valV kvs k = some v ∧ Rep K F H v d
  | [], ds, _ => by simp [dlook, valV]
  | (j, v) :: kvs, [], h => by cases h
  | (j, v) :: kvs, d :: ds, h => by
    cases h with
    | cons r t =>
      have ih := dlook_val k t
      show match (if j = k then some d else dlook ((kvs.map (·.1)).zip ds) k) with | none => _ | some d => _
      by_cases e : j = k
      · rw [if_pos e]
        exact ⟨v, valV_pos e, r⟩
      · rw [if_neg e, valV_neg (p := (j, v)) e]
        exact ih
theorem key_rep {K : PySem.W.Frag} {F : Addr → Prop} {H : Hp} {v : V} {d : D} {k : Key} (h : RepV K F H v d) (e : d.key = some k) : v = kV k := by
  cases d <;> cases e
  · exact h.int
  · exact h.str.1
theorem keyL_rep {K : PySem.W.Frag} {F : Addr → Prop} {H : Hp} : ∀ {vs : List V} {ds : List D} {ks : List Key}, RepL K F H vs ds → D.keyL ds = some ks → vs = ks.map kV
  | _, _, ks, .nil, e => by cases e; rfl
  | _, d :: ds, ks, .cons r t, e => by
    unfold D.keyL at e
    cases h1 : d.key with
    | none => rw [h1] at e; cases e
    | some k =>
      rw [h1] at e
      cases h2 : D.keyL ds with
      | none => rw [h2] at e; cases e
      | some ks' =>
        rw [h2] at e
        cases e
        rw [key_rep (.inl r) h1, keyL_rep t h2]
        rfl
theorem keyT_rep {K : PySem.W.Frag} {F : Addr → Prop} {H : Hp} {v : V} {d : D} {k : List Key} (h : RepV K F H v d) (e : d.keyT = some k) : ∃ b, v = .ref b ∧ H b = some (.tup (k.map kV)) := by
  cases d <;> first | (cases e; done) | skip
  rename_i ds
  obtain ⟨a, xs, rfl, h1, h2⟩ := h.tup
  rw [keyL_rep h2 e] at h1
  exact ⟨a, rfl, h1⟩
/-- what d[k] is -/
theorem dget_rep {K : PySem.W.Frag} {F : Addr → Prop} {H : Hp} {x y : V} {d k : D} {o : Option D} (hx : RepV K F H x d) (hy : RepV K F H y k) (e : d.dget k = some o) :
    ∃ a r, x = .ref a ∧ DGet H a y r ∧ r.isSome = o.isSome ∧ ∀ d', o = some d' → ∃ v, r = some v ∧ Rep K F H v d' := by
  cases d <;> first | (cases e; done) | skip
  · rename_i ks vs
    obtain ⟨a, kvs, rfl, h1, h2, h3⟩ := hx.dK
    obtain ⟨k', hk, hk2⟩ := Option.map_eq_some_iff.mp (show (k.key).map (fun k => dlook (ks.zip vs) k) = some o from e)
    subst h2 hk2
    rw [key_rep hy hk]
    have z := dlook_val k' h3
    refine ⟨a, _, rfl, DGet.k h1, ?_, fun d' h => ?_⟩
    · cases q : dlook ((kvs.map (·.1)).zip vs) k' with
      | none => rw [q] at z; rw [z]; rfl
      | some d' => rw [q] at z; obtain ⟨v, hv, _⟩ := z; rw [hv]; rfl
    · rw [h] at z
      exact z
  · rename_i ks vs
    obtain ⟨a, kvs, rfl, h1, h2, h3⟩ := hx.dT
    obtain ⟨k', hk, hk2⟩ := Option.map_eq_some_iff.mp (show (k.keyT).map (fun k => dlook (ks.zip vs) k) = some o from e)
    subst h2 hk2
    obtain ⟨b, rfl, hb⟩ := keyT_rep hy hk
    have z := dlook_val k' h3
    refine ⟨a, _, rfl, DGet.t h1 hb, ?_, fun d' h => ?_⟩
    · cases q : dlook ((kvs.map (·.1)).zip vs) k' with
      | none => rw [q] at z; rw [z]; rfl
      | some d' => rw [q] at z; obtain ⟨v, hv, _⟩ := z; rw [hv]; rfl
    · rw [h] at z
      exact z
/-- strings: one sign -/
theorem strOk_one {s : Str} {i : Int} {c : Nat} (h : strOk s = true) (e : atI s.cps.toList i = some c) : strOk ⟨#[c]⟩ = true := by
  rw [strOk_iff] at *
  intro x hx
  have hx : x = c := by simpa using hx
  subst hx
  unfold atI at e
  cases q : ixN s.cps.toList.length i with
  | none => rw [q] at e; cases e
  | some j =>
    rw [q] at e
    exact h x (List.mem_of_getElem? (show s.cps.toList[j]? = some x from e))
def strFits (s : Str) : Bool := decide (s.length ≤ 16777216)
theorem ix_dict (hu : X.A.units + 1 < cLine) : IxR X (fun x y H Q => ∃ a v, x = .ref a ∧ DGet H a y (some v) ∧ Q v H) := by
  intro value slice pins s σ H x y v u Q I rx ry h hs
  obtain ⟨a, w, rfl, g, q⟩ := h
  cases rx
  exact tail_any (dict_typeIs I g) PySem.F.slot_dict_getitem.lookup (d_getItem hu I g ry fun w' s' I' r => ⟨w, H, I', r, q⟩) hs
theorem ixr_D (hu : X.A.units + 1 < cLine) : IxR X (fun x y H Q => ∃ F dx dy r, RepV X.K F H x dx ∧ RepV X.K F H y dy ∧ opIdx dx dy = .ok r ∧ ∀ v, Rep X.K F H v r → Q v H) := by
  intro value slice pins s σ H x y v u Q I rx ry h hs
  obtain ⟨F, dx, dy, r, hx, hy, e, q⟩ := h
  have dict : ∀ {o}, dx.dget dy = some o → o = some r → wpAny (model X.prog X.w) X.A (subscriptTail value slice v u) (EP X pins σ Q) X.xe s := fun {o} e1 e2 => by
    obtain ⟨a, r', rfl, g, _, k⟩ := dget_rep hx hy e1
    obtain ⟨w, rfl, hw⟩ := k r e2
    exact ix_dict hu value slice pins s σ H _ y v u Q I rx ry ⟨a, w, rfl, g, q w hw⟩ hs
  have dict2 : (Out.of (dx.dget dy)).bind (fun o => Out.of o) = Out.ok r → wpAny (model X.prog X.w) X.A (subscriptTail value slice v u) (EP X pins σ Q) X.xe s := fun e => by
    cases h1 : dx.dget dy with
    | none => rw [h1] at e; cases e
    | some o =>
      rw [h1] at e
      cases o with
      | none => cases e
      | some d => cases e; exact dict h1 rfl
  unfold opIdx at e
  split at e
  · rename_i ds i
    cases h1 : atI ds i with
    | none => rw [h1] at e; cases e
    | some d =>
      rw [h1] at e
      cases e
      obtain ⟨a, xs, rfl, h2, h3⟩ := hx.lst
      cases hy.int
      obtain ⟨w, h4, h5⟩ := atI_rep h3 h1
      exact ix_list value slice pins s σ H _ _ v u Q I rx ry ⟨a, xs, i, w, rfl, rfl, h2, h4, q w h5⟩ hs
  · rename_i ds i
    cases h1 : atI ds i with
    | none => rw [h1] at e; cases e
    | some d =>
      rw [h1] at e
      cases e
      obtain ⟨a, xs, rfl, h2, h3⟩ := hx.tup
      cases hy.int
      obtain ⟨w, h4, h5⟩ := atI_rep h3 h1
      exact ix_tup value slice pins s σ H _ _ v u Q I rx ry ⟨a, xs, i, w, rfl, rfl, SqT.of h2, h4, q w h5⟩ hs
  · rename_i z i
    split at e
    · rename_i hz
      cases h1 : atI z.cps.toList i with
      | none => rw [h1] at e; cases e
      | some c =>
        rw [h1] at e
        cases e
        obtain ⟨rfl, oz⟩ := hx.str
        cases hy.int
        exact ix_str value slice pins s σ H _ _ v u Q I rx ry ⟨z, i, c, rfl, rfl, by rw [sizeLine_16]; exact hz, h1, q _ (.str (strOk_one oz h1))⟩ hs
    · cases e
  · exact dict2 e
theorem opIdx_nox (a b : D) : NoX (opIdx a b) := by
  unfold opIdx
  split
  · exact NoX.of _
  · exact NoX.of _
  · exact NoX.ite (NoX.of _) trivial
  · exact (NoX.of _).bind fun _ => NoX.of _
theorem se_idx (hu : X.A.units + 1 < cLine) (hs : notSlice b = true) (ha : SE X G a ia) (hb : SE X G b ib) : SE X G (.Subscript a b pos) (.idx ia ib) := by
  refine SE.of_pe (imp_pe (pe_ix (ixr_D hu) ha.pe hb.pe (plainIx_of hs)) fun σ H Q h => ?_) (fun _ => rfl) (fun _ _ _ z => nomatch z)
  obtain ⟨F, env, S, P⟩ := h
  rw [evE] at P
  refine ⟨F, env, S, P.seq (fun j hj => or_l hj) fun ra env1 F1 x H1 _ P1 s1 q1 => ⟨F1, env1, s1.sim, P1.seq (fun j hj => or_r hj) fun rb env2 F2 y H2 _ P2 s2 q2 => ?_⟩⟩
  obtain ⟨dx, hx, P2⟩ := P2.of
  obtain ⟨dy, hy, P2⟩ := P2.of
  cases e : opIdx dx dy with
  | stuck => rw [e] at P2; exact P2.elim
  | exc _ => exact ((opIdx_nox _ _).no e).elim
  | ok r =>
    rw [e] at P2
    exact ⟨F2, dx, dy, r, (q1.stp s2 s1.sim).get s2.sim hx, q2.get s2.sim hy, e, fun v q => P2 F2 v H2 (Stp.refl s2.sim) q⟩

/-! ### slices -/
structure SP (X : Cx) (G : Gc) (e : Option Expr) (i : I) : Prop where
  po : PO X e (TP X.K G i)
theorem imp_po {e : Option Expr} {t t' : TO} (h : PO X e t) (w : ∀ σ H Q, t' σ H Q → t σ H Q) : PO X e t' := ⟨fun pins s σ H Q I q => h.run pins s σ H Q I (w σ H Q q)⟩
theorem sp_none : SP X G none .none_ := ⟨imp_po po_none fun σ H Q ⟨F, env, S, P⟩ => by
  rw [evP] at P
  exact P F none H (Stp.refl S) rfl⟩
theorem evP_eq (cx : Cxt) (i : I) (h : (match i with | .none_ => false | _ => true) = true) (env : Nv) : evP cx i env = (evE cx i env).bind fun ra => match ra.1 with
    | .val (.int i) => .ok (some i, ra.2)
    | _ => .stuck := by
  cases i <;> first | (cases h; done) | (rw [evP]; all_goals first | rfl | (intro z; cases z))
theorem sp_some (h : (match i with | .none_ => false | _ => true) = true) (ha : SE X G a i) : SP X G (some a) i := ⟨imp_po (po_some ha.pe) fun σ H Q ⟨F, env, S, P⟩ => by
  rw [evP_eq _ _ h] at P
  refine ⟨F, env, S, P.seq (fun j hj => hj) fun r env1 F1 x H1 _ P1 s1 q1 => ?_⟩
  cases r with
  | val d =>
    cases d with
    | int k =>
      cases (show Rep X.K F1 H1 x (.int k) from q1)
      exact ⟨k, rfl, P1 F1 (some k) H1 (Stp.refl s1.sim) rfl⟩
    | _ => exact P1.elim
  | _ => exact P1.elim⟩
theorem cut_rep {K : PySem.W.Frag} {F : Addr → Prop} {H : Hp} {xs : List V} {ds : List D} (r : RepL K F H xs ds) (lo hi : Option Int) : RepL K F H (cutV xs lo hi) (cutD ds lo hi) := by
  unfold cutV cutD
  rw [r.length]
  exact (r.drop _).take _
theorem strOk_cut {s : Str} (h : strOk s = true) (lo hi : Option Int) : strOk (cutS s lo hi) = true := by
  rw [strOk_iff] at *
  intro c hc
  refine h c ?_
  have : c ∈ ((s.cps.toList.drop (HT.sIx s.length 0 lo)).take (HT.sIx s.length s.length hi - HT.sIx s.length 0 lo)) := by
    simpa [cutS] using hc
  exact List.mem_of_mem_drop (List.mem_of_mem_take this)
theorem slr_D : SlR X (fun x lo hi H Q => ∃ F d r, FOk F H ∧ RepV X.K F H x d ∧ opSl d lo hi = .ok r ∧ ∀ v H', Go noO F H F H' → RepN X.K H F H' v r → Q v H') := by
  intro pins s σ H x v vl vu lo hi sl Q I rx hs pl pu h
  obtain ⟨F, d, r, fo, hx, e, q⟩ := h
  cases d with
  | lst ds =>
    cases e
    obtain ⟨a, xs, rfl, h1, h2⟩ := hx.lst
    exact sl_list pins s σ H _ v vl vu lo hi sl Q I rx hs pl pu ⟨a, xs, rfl, h1, fun p hp => q _ _ (Go.upd hp) (new_lst fo hp (cut_rep h2 lo hi))⟩
  | tup ds =>
    cases e
    obtain ⟨a, xs, rfl, h1, h2⟩ := hx.tup
    refine sl_tupA pins s σ H _ v vl vu lo hi sl Q I rx hs pl pu ⟨a, xs, rfl, SqT.of h1, fun z => ?_, fun z p hp => q _ _ (Go.upd hp) (new_tup hp (cut_rep h2 lo hi))⟩
    refine q _ _ Go.refl (.tup h1 ?_)
    have e1 : cutV xs lo hi = xs := by
      unfold cutV
      rw [z.1, z.2]
      simp
    have := cut_rep h2 lo hi
    rw [e1] at this
    exact this
  | str z =>
    have e' : (if z.length ≤ 16777216 then Out.ok (Res.val (.str (cutS z lo hi))) else .stuck) = .ok r := e
    split at e'
    · rename_i hz
      cases e'
      obtain ⟨rfl, oz⟩ := hx.str
      exact sl_str pins s σ H _ v vl vu lo hi sl Q I rx hs pl pu ⟨z, rfl, by rw [sizeLine_16]; exact hz, q _ _ Go.refl (.str (strOk_cut oz lo hi))⟩
    · cases e'
  | _ => cases e
theorem opSl_nox (d : D) (lo hi : Option Int) : NoX (opSl d lo hi) := by
  cases d <;> first | trivial | exact NoX.ite trivial trivial
theorem se_sl {lo hi : Option Expr} {p2 : Pos} (ha : SE X G a ia) (hl : SP X G lo il) (hh : SP X G hi ih) : SE X G (.Subscript a (.Slice lo hi none p2) pos) (.sl ia il ih) := by
  refine SE.of_pe (imp_pe (pe_slice slr_D ha.pe hl.po hh.po) fun σ H Q h => ?_) (fun _ => rfl) (fun _ _ _ z => nomatch z)
  obtain ⟨F, env, S, P⟩ := h
  rw [evE] at P
  refine ⟨F, env, S, P.seq (fun j hj => or_l (or_l hj)) fun ra env1 F1 x H1 _ P1 s1 q1 => ⟨F1, env1, s1.sim, P1.seq (fun j hj => or_r (or_l hj)) fun l env2 F2 l' H2 _ P2 s2 q2 =>
    ⟨F2, env2, s2.sim, P2.seq (fun j hj => or_r hj) fun u env3 F3 u' H3 _ P3 s3 q3 => ?_⟩⟩⟩
  cases q2
  cases q3
  obtain ⟨d, hd, P3⟩ := P3.of
  cases e : opSl d l u with
  | stuck => rw [e] at P3; exact P3.elim
  | exc _ => exact ((opSl_nox _ _ _).no e).elim
  | ok r =>
    rw [e] at P3
    exact ⟨F3, d, r, s3.sim.fro, ((q1.stp s2 s1.sim).stp s3 s2.sim).get s3.sim hd, e, fun v H' g q => P3 F3 v H' (s3.sim.stp g) (q.r s3.sim fun b z => s1.go.back (s2.go.back (s3.go.back z)))⟩

/-! ### built-in functions -/
def rDn (K : PySem.W.Frag) (f : List D → Out Res) : List V → Hp → VK → Prop := fun xs H Q => ∃ F ds r, FOk F H ∧ RepVs K F H xs ds ∧ f ds = .ok r ∧ ∀ v H', Go noO F H F H' → RepN K H F H' v r → Q v H'
theorem te_bi {bt : Bi} (hn : ∀ ds, NoX (opBi bt ds)) {σ : L2.St} {H : Hp} {Q : VK} (h : TE X.K G (.bi bt ia) σ H Q) : tCB (rDn X.K (opBi bt)) (TA X.K G ia) σ H Q := by
  obtain ⟨F, env, S, P⟩ := h
  rw [evE] at P
  refine ⟨F, env, S, P.seq (fun j hj => hj) fun rs env1 F1 xs H1 _ P1 s1 q1 => ?_⟩
  obtain ⟨ds, hd, P1⟩ := P1.of
  cases e : opBi bt ds with
  | stuck => rw [e] at P1; exact P1.elim
  | exc _ => exact ((hn _).no e).elim
  | ok r =>
    rw [e] at P1
    exact ⟨F1, ds, r, s1.sim.fro, RepRs.get s1.sim q1 hd, e, fun v H' g q => P1 F1 v H' (s1.sim.stp g) (q.r s1.sim fun b z => s1.go.back z)⟩
theorem opBi_nox (bt : Bi) (ds : List D) : NoX (opBi bt ds) := by
  unfold opBi
  split <;> first | trivial | (unfold opOrd; split <;> trivial) | (unfold opSorted; split <;> first | trivial | (split <;> trivial)) | (split <;> trivial) | exact (NoX.of _).bind fun _ => trivial | exact (NoX.of _).bind fun _ => NoX.ite trivial trivial | exact NoX.ite trivial trivial | exact NoX.ite ((NoX.of _).bind fun _ => trivial) trivial
theorem se_biB {bt : Bi} {x : Str} {id : String} {p : Pos} (hc : CallR X (.builtin id) (rDn X.K (opBi bt))) (hg : Gl X x) (hm : X.mg x = none) (hv : bootBuiltins x = some (.builtin id)) (ha : SA X G (a :: es) ia) (hn : x ≠ "__name__") (hdb : (x == ("__debug__" : Str)) = false) :
    SE X G (.Call (.Name x p) (a :: es) [] pos) (.bi bt ia) := by
  have n := Bool.and_eq_true_iff.mp (show (notStar a && es.all notStar) = true from ha.ns)
  exact SE.of_pe (imp_pe (pe_callB hc hg hm hv ha.pa hn hdb (starEach_cons n.1) (starEach_any n.2)) fun σ H Q h => te_bi (opBi_nox bt) h) (fun _ => rfl) (fun _ _ _ z => nomatch z)
theorem se_biT {bt : Bi} {x : Str} {T : String} {p : Pos} (hc : CallR X (.type T) (rDn X.K (opBi bt))) (hg : Gl X x) (hm : X.mg x = none) (hv : bootBuiltins x = some (.type T)) (ha : SA X G (a :: es) ia) (hn : x ≠ "__name__") (hdb : (x == ("__debug__" : Str)) = false) :
    SE X G (.Call (.Name x p) (a :: es) [] pos) (.bi bt ia) := by
  have n := Bool.and_eq_true_iff.mp (show (notStar a && es.all notStar) = true from ha.ns)
  exact SE.of_pe (imp_pe (pe_callTy hc hg hm hv ha.pa hn hdb (starEach_cons n.1) (starEach_any n.2)) fun σ H Q h => te_bi (opBi_nox bt) h) (fun _ => rfl) (fun _ _ _ z => nomatch z)
theorem RepVs.one {K : PySem.W.Frag} {F : Addr → Prop} {H : Hp} {xs : List V} {d : D} (h : RepVs K F H xs [d]) : ∃ x, xs = [x] ∧ RepV K F H x d := by
  cases h with
  | cons r t => cases t; exact ⟨_, rfl, r⟩
theorem RepVs.two {K : PySem.W.Frag} {F : Addr → Prop} {H : Hp} {xs : List V} {d e : D} (h : RepVs K F H xs [d, e]) : ∃ x y, xs = [x, y] ∧ RepV K F H x d ∧ RepV K F H y e := by
  cases h with
  | cons r t =>
    cases t with
    | cons r2 t2 => cases t2; exact ⟨_, _, rfl, r, r2⟩
theorem cr_len : CallR X (.builtin "len") (rDn X.K (opBi .len)) := by
  intro pins s σ H xs us Q I rs h
  obtain ⟨F, ds, r, fo, hx, e, q⟩ := h
  have ce : ∀ (f : List V → Hp → VK → Prop), CallR X (.builtin "len") f → f xs H Q → wpAny (model X.prog X.w) X.A (call (.builtin "len") us) (EP X pins σ Q) X.xe s := fun f hf hq => hf pins s σ H xs us Q I rs hq
  unfold opBi at e
  split at e <;> first | (cases e; done) | skip
  all_goals rename_i eq1
  all_goals first | (cases eq1; done) | skip
  · obtain ⟨x, rfl, hx1⟩ := RepVs.one hx
    cases e
    obtain ⟨a, ys, rfl, h1, h2⟩ := RepV.lst hx1
    refine ce _ call_len_seq ⟨a, ys, rfl, .inl h1, ?_⟩
    rw [h2.length]
    exact q _ _ Go.refl (.int _)
  · obtain ⟨x, rfl, hx1⟩ := RepVs.one hx
    cases e
    obtain ⟨a, ys, rfl, h1, h2⟩ := RepV.tup hx1
    refine ce _ call_len_seq ⟨a, ys, rfl, .inr (SqT.of h1), ?_⟩
    rw [h2.length]
    exact q _ _ Go.refl (.int _)
  · obtain ⟨x, rfl, hx1⟩ := RepVs.one hx
    split at e
    · rename_i hz
      cases e
      obtain ⟨rfl, oz⟩ := RepV.str hx1
      exact ce _ call_len_str ⟨_, rfl, by rw [sizeLine_16]; exact hz, q _ _ Go.refl (.int _)⟩
    · cases e
  · obtain ⟨x, rfl, hx1⟩ := RepVs.one hx
    cases e
    obtain ⟨a, kvs, rfl, h1, h2, h3⟩ := RepV.dK hx1
    obtain ⟨u, rfl, ru⟩ := vals1 rs
    cases ru
    refine d_len I (.inl h1) fun t s' I' => ⟨.int kvs.length, H, I', ⟨t, rfl⟩, ?_⟩
    have : (kvs.length : Int) = (kvs.map (·.1)).length := by simp
    rw [this, h2]
    exact q _ _ Go.refl (.int _)
  · obtain ⟨x, rfl, hx1⟩ := RepVs.one hx
    cases e
    obtain ⟨a, kvs, rfl, h1, h2, h3⟩ := RepV.dT hx1
    refine ce _ call_len_dT ⟨a, kvs, rfl, h1, ?_⟩
    have : (kvs.length : Int) = (kvs.map (·.1)).length := by simp
    rw [this, h2]
    exact q _ _ Go.refl (.int _)
theorem cr_tuple : CallR X (.type "tuple") (rDn X.K (opBi .tuple)) := by
  intro pins s σ H xs us Q I rs h
  obtain ⟨F, ds, r, fo, hx, e, q⟩ := h
  unfold opBi at e
  split at e <;> first | (cases e; done) | skip
  all_goals rename_i eq1
  all_goals first | (cases eq1; done) | skip
  obtain ⟨x, rfl, hx1⟩ := RepVs.one hx
  split at e
  · cases e
    obtain ⟨a, ys, rfl, h1, h2⟩ := RepV.lst hx1
    exact call_tuple_of pins s σ H _ us Q I rs ⟨a, ys, rfl, .inl ⟨h1, fun p hp => q _ _ (Go.upd hp) (new_tup hp h2)⟩⟩
  · cases e
    obtain ⟨a, ys, rfl, h1, h2⟩ := RepV.tup hx1
    exact call_tuple_of pins s σ H _ us Q I rs ⟨a, ys, rfl, .inr ⟨SqT.of h1, q _ _ Go.refl (.tup h1 h2)⟩⟩
  · cases e
theorem kD_rep {K : PySem.W.Frag} {F : Addr → Prop} {H : Hp} {k : Key} (h : ∀ s, k = .inr s → strOk s = true) : Rep K F H (kV k) (kD k) := by
  cases k with
  | inl i => exact .int i
  | inr s => exact .str (h s rfl)
theorem keysK_rep {K : PySem.W.Frag} {F : Addr → Prop} {H : Hp} : ∀ {ks : List Key}, ks.all keyOk = true → RepL K F H (ks.map kV) (ks.map kD)
  | [], _ => .nil
  | k :: ks, h => by
    obtain ⟨h1, h2⟩ := Bool.and_eq_true_iff.mp (show (keyOk k && ks.all keyOk) = true from h)
    exact .cons (kD_rep fun s e => by subst e; exact h1) (keysK_rep h2)
theorem keysT_rep {K : PySem.W.Frag} {F : Addr → Prop} {H H' : Hp} {kvs : List (List Key × V)} {bs : List Addr} (k : ∀ b o, H b = some o → H' b = some o) (h : IsKeys H kvs bs) : ∀ (_ : ((kvs.map (·.1)).all fun k => k.all keyOk) = true),
    RepL K F H' (bs.map V.ref) ((kvs.map (·.1)).map fun k => D.tup (k.map kD)) := by
  unfold IsKeys at h
  induction h with
  | nil => exact fun _ => .nil
  | @cons p b ps bs h1 _ ih =>
    intro z
    obtain ⟨z1, z2⟩ := Bool.and_eq_true_iff.mp (show (p.1.all keyOk && (ps.map (·.1)).all fun k => k.all keyOk) = true from z)
    exact .cons (.tup (k _ _ h1) (keysK_rep z1)) (ih z2)
theorem cr_list (hcalm : X.calm = true) : CallR X (.type "list") (rDn X.K (opBi .list)) := by
  intro pins s σ H xs us Q I rs h
  obtain ⟨F, ds, r, fo, hx, e, q⟩ := h
  unfold opBi at e
  split at e <;> first | (cases e; done) | skip
  all_goals rename_i eq1
  all_goals first | (cases eq1; done) | skip
  obtain ⟨x, rfl, hx1⟩ := RepVs.one hx
  rename_i d
  cases d with
  | lst ds =>
    cases e
    obtain ⟨a, ys, rfl, h1, h2⟩ := RepV.lst hx1
    exact call_list_of pins s σ H _ us Q I rs ⟨a, ys, rfl, .inl h1, fun p hp => q _ _ (Go.upd hp) (new_lst fo hp h2)⟩
  | tup ds =>
    cases e
    obtain ⟨a, ys, rfl, h1, h2⟩ := RepV.tup hx1
    exact call_list_of pins s σ H _ us Q I rs ⟨a, ys, rfl, .inr (SqT.of h1), fun p hp => q _ _ (Go.upd hp) (new_lst fo hp h2)⟩
  | dK ks vs =>
    have e : (Out.of (if ks.all keyOk = true then some (ks.map kD) else none)).bind (fun ds => Out.ok (Res.new (.lst ds))) = .ok r := e
    split at e
    · rename_i hk
      cases e
      obtain ⟨a, kvs, rfl, h1, h2, h3⟩ := RepV.dK hx1
      refine call_listD hcalm pins s σ H _ us Q I rs ⟨a, kvs, rfl, .inl h1, fun p hp => ?_⟩
      have e2 : kvs.map (fun kv => kV kv.1) = ks.map kV := by rw [← h2, List.map_map]; rfl
      rw [e2]
      exact q _ _ (Go.upd hp) (new_lst fo hp (keysK_rep hk))
    · cases e
  | dT ks vs =>
    have e : (Out.of (if (ks.all fun k => k.all keyOk) = true then some (ks.map fun k => D.tup (k.map kD)) else none)).bind (fun ds => Out.ok (Res.new (.lst ds))) = .ok r := e
    split at e
    · rename_i hk
      cases e
      obtain ⟨a, kvs, rfl, h1, h2, h3⟩ := RepV.dT hx1
      subst h2
      exact call_list_dT hcalm pins s σ H _ us Q I rs ⟨a, kvs, rfl, .inl h1, fun p bs hp hb => q _ _ (Go.upd hp) (new_lst fo hp (keysT_rep (fun _ _ z => z) hb hk))⟩
    · cases e
  | _ => cases e
theorem strOk_ofString (s : String) : strOk (Str.ofString s) = true := by
  rw [strOk_iff]
  intro c hc
  have hc : c ∈ s.toList.map Char.toNat := by rw [← TL.tl_ofString]; exact hc
  obtain ⟨ch, _, rfl⟩ := List.mem_map.mp hc
  rcases ch.valid with h | h
  · exact Nat.lt_of_lt_of_le h (by decide)
  · exact h.2
theorem strOk_digits (i : Int) : strOk (toString i) = true := strOk_ofString _
theorem cr_str : CallR X (.type "str") (rDn X.K (opBi .str)) := by
  intro pins s σ H xs us Q I rs h
  obtain ⟨F, ds, r, fo, hx, e, q⟩ := h
  unfold opBi at e
  split at e <;> first | (cases e; done) | skip
  all_goals rename_i eq1
  all_goals first | (cases eq1; done) | skip
  obtain ⟨x, rfl, hx1⟩ := RepVs.one hx
  split at e
  · rename_i hz
    cases e
    cases RepV.int hx1
    exact call_str_int pins s σ H _ us Q I rs ⟨_, rfl, of_decide_eq_true hz, q _ _ Go.refl (.str (strOk_digits _))⟩
  · cases e
theorem cr_int : CallR X (.type "int") (rDn X.K (opBi .int)) := by
  intro pins s σ H xs us Q I rs h
  obtain ⟨F, ds, r, fo, hx, e, q⟩ := h
  unfold opBi at e
  split at e <;> first | (cases e; done) | skip
  all_goals rename_i eq1
  all_goals first | (cases eq1; done) | skip
  · obtain ⟨x, rfl, hx1⟩ := RepVs.one hx
    cases e
    cases RepV.int hx1
    exact call_int1 pins s σ H _ us Q I rs (.inl ⟨_, rfl, q _ _ Go.refl (.int _)⟩)
  · obtain ⟨x, rfl, hx1⟩ := RepVs.one hx
    cases e
    cases RepV.bl hx1
    exact call_int1 pins s σ H _ us Q I rs (.inr ⟨_, rfl, q _ _ Go.refl (.int _)⟩)
  · obtain ⟨x, rfl, hx1⟩ := RepVs.one hx
    split at e
    · rename_i z hz
      cases e2 : PySem.intText? z with
      | none => rw [e2] at e; cases e
      | some n =>
        rw [e2] at e
        cases e
        obtain ⟨rfl, oz⟩ := RepV.str hx1
        exact call_int_str pins s σ H _ us Q I rs ⟨z, n, rfl, e2, hz, q _ _ Go.refl (.int _)⟩
    · cases e
theorem opOrd_ok {z : Str} {r : Res} (e : opOrd z = .ok r) : ∃ c : Nat, z.length = 1 ∧ z.cps.getD 0 0 = c ∧ r = .val (.int c) := by
  unfold opOrd at e
  split at e
  · rename_i c hz
    cases e
    refine ⟨c, ?_, ?_, rfl⟩
    · show z.cps.size = 1
      rw [← Array.length_toList, hz]; rfl
    · have : z.cps.toList[0]? = some c := by rw [hz]; rfl
      rw [Array.getElem?_toList] at this
      rw [Array.getD_eq_getD_getElem?, this]; rfl
  · cases e
theorem opOrd_nox (z : Str) : NoX (opOrd z) := by
  unfold opOrd
  split <;> trivial
theorem cr_ord : CallR X (.builtin "ord") (rDn X.K (opBi .ord)) := by
  intro pins s σ H xs us Q I rs h
  obtain ⟨F, ds, r, fo, hx, e, q⟩ := h
  unfold opBi at e
  split at e <;> first | (cases e; done) | skip
  all_goals rename_i eq1
  all_goals first | (cases eq1; done) | skip
  obtain ⟨x, rfl, hx1⟩ := RepVs.one hx
  obtain ⟨c, h1, h2, rfl⟩ := opOrd_ok e
  obtain ⟨rfl, oz⟩ := RepV.str hx1
  refine call_ord pins s σ H _ us Q I rs ⟨_, rfl, h1, ?_⟩
  rw [h2]
  exact q _ _ Go.refl (.int _)
theorem cr_abs : CallR X (.builtin "abs") (rDn X.K (opBi .abs)) := by
  intro pins s σ H xs us Q I rs h
  obtain ⟨F, ds, r, fo, hx, e, q⟩ := h
  unfold opBi at e
  split at e <;> first | (cases e; done) | skip
  all_goals rename_i eq1
  all_goals first | (cases eq1; done) | skip
  obtain ⟨x, rfl, hx1⟩ := RepVs.one hx
  cases e
  cases RepV.int hx1
  exact call_abs pins s σ H _ us Q I rs ⟨_, rfl, q _ _ Go.refl (.int _)⟩
theorem cr_min2 (hc : X.calm = true) : CallR X (.builtin "min") (rDn X.K (opBi .min2)) := by
  intro pins s σ H xs us Q I rs h
  obtain ⟨F, ds, r, fo, hx, e, q⟩ := h
  unfold opBi at e
  split at e <;> first | (cases e; done) | skip
  all_goals rename_i eq1
  all_goals first | (cases eq1; done) | skip
  obtain ⟨x, y, rfl, hx1, hy⟩ := RepVs.two hx
  cases e
  cases RepV.int hx1
  cases RepV.int hy
  exact call_min2 hc pins s σ H _ us Q I rs ⟨_, _, rfl, q _ _ Go.refl (.int _)⟩
theorem cr_max2 (hc : X.calm = true) : CallR X (.builtin "max") (rDn X.K (opBi .max2)) := by
  intro pins s σ H xs us Q I rs h
  obtain ⟨F, ds, r, fo, hx, e, q⟩ := h
  unfold opBi at e
  split at e <;> first | (cases e; done) | skip
  all_goals rename_i eq1
  all_goals first | (cases eq1; done) | skip
  obtain ⟨x, y, rfl, hx1, hy⟩ := RepVs.two hx
  cases e
  cases RepV.int hx1
  cases RepV.int hy
  exact call_max2 hc pins s σ H _ us Q I rs ⟨_, _, rfl, q _ _ Go.refl (.int _)⟩
theorem bools_rep {K : PySem.W.Frag} {F : Addr → Prop} {H : Hp} : ∀ {xs : List V} {ds : List D} {bs : List Bool}, RepL K F H xs ds → boolsOf ds = some bs → xs = bs.map V.bl
  | _, _, bs, .nil, e => by cases e; rfl
  | _, d :: ds, bs, .cons r t, e => by
    cases d with
    | bl b =>
      obtain ⟨bs', h1, h2⟩ := Option.map_eq_some_iff.mp (show (boolsOf ds).map (b :: ·) = some bs from e)
      subst h2
      cases r
      rw [bools_rep t h1]
      rfl
    | _ => cases e
theorem cr_all' (hc : X.calm = true) : CallR X (.builtin "all") (rDn X.K (opBi .all)) := by
  intro pins s σ H xs us Q I rs h
  obtain ⟨F, ds, r, fo, hx, e, q⟩ := h
  unfold opBi at e
  split at e <;> first | (cases e; done) | skip
  all_goals rename_i eq1
  all_goals first | (cases eq1; done) | skip
  obtain ⟨x, rfl, hx1⟩ := RepVs.one hx
  rename_i es
  cases e2 : boolsOf es with
  | none => rw [e2] at e; cases e
  | some bs =>
    rw [e2] at e
    cases e
    obtain ⟨a, ys, rfl, h1, h2⟩ := RepV.lst hx1
    rw [bools_rep h2 e2] at h1
    exact cr_all hc pins s σ H _ us Q I rs ⟨a, bs, rfl, h1, q _ _ Go.refl (.bl _)⟩
theorem cr_any' (hc : X.calm = true) : CallR X (.builtin "any") (rDn X.K (opBi .any)) := by
  intro pins s σ H xs us Q I rs h
  obtain ⟨F, ds, r, fo, hx, e, q⟩ := h
  unfold opBi at e
  split at e <;> first | (cases e; done) | skip
  all_goals rename_i eq1
  all_goals first | (cases eq1; done) | skip
  obtain ⟨x, rfl, hx1⟩ := RepVs.one hx
  rename_i es
  cases e2 : boolsOf es with
  | none => rw [e2] at e; cases e
  | some bs =>
    rw [e2] at e
    cases e
    obtain ⟨a, ys, rfl, h1, h2⟩ := RepV.lst hx1
    rw [bools_rep h2 e2] at h1
    exact cr_any hc pins s σ H _ us Q I rs ⟨a, bs, rfl, h1, q _ _ Go.refl (.bl _)⟩
end
end PyI

end
section
set_option autoImplicit false
/-! PyF: isinstance, calls of defs; small statements. -/
namespace PyI
open PySem PySem.Spec PyProof.Rows L2 RZ RT

/-! ### isinstance -/
def Ty.nm : Ty → String
  | .int => "int" | .bool => "bool" | .str => "str" | .tuple => "tuple" | .list => "list" | .dict => "dict"
def Ty.py : Ty → Str
  | .int => "int" | .bool => "bool" | .str => "str" | .tuple => "tuple" | .list => "list" | .dict => "dict"
def D.nm : D → String
  | .non => "NoneType" | .bl _ => "bool" | .int _ => "int" | .str _ => "str" | .tup _ => "tuple" | .lst _ => "list" | .dK _ _ => "dict" | .dT _ _ => "dict" | .exn _ _ => ""
theorem boot_ty (t : Ty) : bootBuiltins t.py = some (.type t.nm) := by
  cases t
  · exact PyProof.Rows.boot_int
  · exact PyProof.Rows.boot_bool
  · exact PyProof.Rows.boot_str
  · exact PyProof.Rows.boot_tuple
  · exact PyProof.Rows.boot_list
  · exact PyProof.Rows.boot_dict
def nms : List String := ["NoneType", "bool", "int", "str", "tuple", "list", "dict"]
def tys : List Ty := [.int, .bool, .str, .tuple, .list, .dict]
theorem kit_all : (nms.all fun n => tys.all fun t => decide (kitB n t.nm = some (match t, n with
    | .int, "bool" => true | .int, "int" => true | .bool, "bool" => true | .str, "str" => true | .tuple, "tuple" => true | .list, "list" => true | .dict, "dict" => true | _, _ => false))) = true := by decide +kernel
theorem kit_D (d : D) (t : Ty) (h : ∀ c a, d ≠ .exn c a) : kitB d.nm t.nm = some (t.is d) := by
  have key : ∀ n ∈ nms, ∀ t ∈ tys, _ := fun n hn t ht => of_decide_eq_true (List.all_eq_true.mp (List.all_eq_true.mp kit_all n hn) t ht)
  have ht : t ∈ tys := by cases t <;> simp [tys]
  cases d with
  | exn c a => exact absurd rfl (h c a)
  | non => have := key "NoneType" (by simp [nms]) t ht; cases t <;> exact this
  | bl _ => have := key "bool" (by simp [nms]) t ht; cases t <;> exact this
  | int _ => have := key "int" (by simp [nms]) t ht; cases t <;> exact this
  | str _ => have := key "str" (by simp [nms]) t ht; cases t <;> exact this
  | tup _ => have := key "tuple" (by simp [nms]) t ht; cases t <;> exact this
  | lst _ => have := key "list" (by simp [nms]) t ht; cases t <;> exact this
  | dK _ _ => have := key "dict" (by simp [nms]) t ht; cases t <;> exact this
  | dT _ _ => have := key "dict" (by simp [nms]) t ht; cases t <;> exact this
theorem kitAny_D {K : PySem.W.Frag} (d : D) (h : ∀ c a, d ≠ .exn c a) : ∀ ts : List Ty, PySem.W.kitAny K (.type d.nm) (ts.map fun t => Value.type t.nm) = some (ts.any fun t => t.is d)
  | [] => rfl
  | t :: ts => kitAny_cons (kit_ty (kit_D d t h)) (fun e => by rw [List.any_cons, e, Bool.false_or]; exact kitAny_D d h ts) (fun e => by rw [List.any_cons, e, Bool.true_or])
theorem tyx_D {K : PySem.W.Frag} {F : Addr → Prop} {H : Hp} {v : V} {d : D} (r : RepV K F H v d) (h : ∀ c a, d ≠ .exn c a) : TyX K H v (.type d.nm) := by
  cases d with
  | exn c a => exact absurd rfl (h c a)
  | non => cases r.non; exact .base .non
  | bl b => cases r.bl; exact .base (.bl b)
  | int i => cases r.int; exact .base (.int i)
  | str s => obtain ⟨rfl, _⟩ := r.str; exact .base (.str s)
  | tup ds => obtain ⟨a, xs, rfl, h1, _⟩ := r.tup; exact .base (.tup h1)
  | dK ks vs => obtain ⟨a, xs, rfl, h1, _⟩ := r.dK; exact .base (.dK h1)
  | dT ks vs => obtain ⟨a, xs, rfl, h1, _⟩ := r.dT; exact .base (.dT h1)
  | lst ds =>
    obtain ⟨a, xs, rfl, h1, _⟩ := r.lst
    rcases h1 with (h1 | ⟨o, h1⟩) | ⟨o, its, n, h1, h2, _⟩
    · exact .base (.lst h1)
    · exact .base (.frz h1)
    · exact .kList h1 h2
section
variable {X : Cx} {G : Gc} {i ia ib ic il ih : I} {e a b c : Expr} {es : List Expr} {pos : Pos}
/-- the class that is asked after, as a value -/
theorem pe_ty {t : Ty} {p : Pos} (hg : Gl X t.py) (hm : X.mg t.py = none) : PE X (.Name t.py p) (tC (.ty t.nm)) :=
  pe_bltn hg hm (boot_ty t) rfl (by cases t <;> decide) (by cases t <;> decide)
theorem evI (cx : Cxt) (ts : List Ty) (i : I) (env : Nv) : evE cx (.bi (.isI ts) (.cons i .nil)) env = (evE cx i env).bind fun r => (Out.of (r.1.get r.2)).bind fun d => (opBi (.isI ts) [d]).bind fun v => .ok (v, r.2) := by
  rw [evE, evA]
  cases evE cx i env with
  | stuck => rfl
  | exc _ => rfl
  | ok r =>
    obtain ⟨r, env1⟩ := r
    show ((evA cx .nil env1).bind fun rb => Out.ok (r :: rb.1, rb.2)).bind _ = _
    rw [evA]
    show (Out.of (deref env1 [r])).bind _ = _
    cases h : r.get env1 with
    | none => simp [deref, h]
    | some d => simp [deref, h]
theorem isI_ok {ts : List Ty} {d : D} {r : Res} (e : opBi (.isI ts) [d] = .ok r) : (∀ c a, d ≠ .exn c a) ∧ r = .val (.bl (ts.any fun t => t.is d)) := by
  cases d <;> first | (cases e; done) | (cases e; exact ⟨fun _ _ z => (nomatch z), rfl⟩)
theorem se_isI1 {t : Ty} {p p2 : Pos} (hg : Gl X "isinstance") (hm : X.mg "isinstance" = none) (hg2 : Gl X t.py) (hm2 : X.mg t.py = none) (ha : SE X G a ia) (hs : notStar a = true) :
    SE X G (.Call (.Name "isinstance" p) [a, .Name t.py p2] [] pos) (.bi (.isI [t]) (.cons ia .nil)) := by
  refine SE.of_pe (imp_pe (pe_callB call_isi hg hm PyProof.Rows.boot_isinstance (pa_cons ha.pe (pa_cons (pe_ty hg2 hm2) pa_nil) (starEach_cons hs)) (by decide) (by decide) (starEach_cons hs)) fun σ H Q h => ?_) (fun _ => rfl) (fun _ _ _ z => nomatch z)
  obtain ⟨F, env, S, P⟩ := h
  rw [evI] at P
  refine ⟨F, env, S, P.seq (fun j hj => or_l hj) fun r env1 F1 x H1 _ P1 s1 q1 => ?_⟩
  obtain ⟨d, hd, P1⟩ := P1.of
  cases e : opBi (.isI [t]) [d] with
  | stuck => rw [e] at P1; exact P1.elim
  | exc _ => exact ((opBi_nox _ _).no e).elim
  | ok q =>
    rw [e] at P1
    obtain ⟨hn, rfl⟩ := isI_ok e
    have P2 := P1 F1 (.bl (([t] : List Ty).any fun t => t.is d)) H1 (Stp.refl s1.sim) (.bl _)
    refine ⟨x, .ty t.nm, _, _, t.is d, rfl, .ty _, tyx_D (q1.get s1.sim hd) hn, kit_ty (kit_D d t hn), ?_⟩
    rw [List.any_cons, List.any_nil, Bool.or_false] at P2
    exact P2
theorem pa_tys {pt : List (Ty × Pos)} (hg : ∀ q ∈ pt, Gl X q.1.py) (hm : ∀ q ∈ pt, X.mg q.1.py = none) : ∃ t, PA X (pt.map fun q => Expr.Name q.1.py q.2) t ∧ ∀ σ H Q, Q (pt.map fun q => V.ty q.1.nm) H → t σ H Q := by
  induction pt with
  | nil => exact ⟨_, pa_nil, fun _ _ _ h => h⟩
  | cons q r ih =>
    obtain ⟨t, h1, h2⟩ := ih (fun q hq => hg q (List.mem_cons_of_mem _ hq)) (fun q hq => hm q (List.mem_cons_of_mem _ hq))
    exact ⟨_, pa_cons (pe_ty (hg q List.mem_cons_self) (hm q List.mem_cons_self)) h1, fun σ H Q h => h2 σ H _ h⟩
theorem paired_ty : ∀ ts : List Ty, Paired ClsV (ts.map fun t => V.ty t.nm) (ts.map fun t => Value.type t.nm)
  | [] => .nil
  | t :: ts => .cons (.ty _) (paired_ty ts)
theorem se_isIT {pt : List (Ty × Pos)} {p p2 : Pos} {k : Nat} (hg : Gl X "isinstance") (hm : X.mg "isinstance" = none) (hg2 : ∀ q ∈ pt, Gl X q.1.py) (hm2 : ∀ q ∈ pt, X.mg q.1.py = none) (hl : pt.length ≤ 100) (ha : SE X G a ia) (hs : notStar a = true) :
    SE X G (.Call (.Name "isinstance" p) [a, .Tuple (pt.map fun q => Expr.Name q.1.py q.2) k p2] [] pos) (.bi (.isI (pt.map (·.1))) (.cons ia .nil)) := by
  obtain ⟨t, h1, h2⟩ := pa_tys hg2 hm2
  refine SE.of_pe (imp_pe (pe_callB call_isiT hg hm PyProof.Rows.boot_isinstance (pa_cons ha.pe (pa_cons (pe_tup h1) pa_nil) (starEach_cons hs)) (by decide) (by decide) (starEach_cons hs)) fun σ H Q h => ?_) (fun _ => rfl) (fun _ _ _ z => nomatch z)
  obtain ⟨F, env, S, P⟩ := h
  rw [evI] at P
  refine ⟨F, env, S, P.seq (fun j hj => or_l hj) fun r env1 F1 x H1 _ P1 s1 q1 => h2 _ _ _ ⟨?_, fun tp htp => ?_⟩⟩
  · rw [List.length_map, sizeLine_16]; omega
  obtain ⟨d, hd, P1⟩ := P1.of
  cases e : opBi (.isI (pt.map (·.1))) [d] with
  | stuck => rw [e] at P1; exact P1.elim
  | exc _ => exact ((opBi_nox _ _).no e).elim
  | ok q =>
    rw [e] at P1
    obtain ⟨hn, rfl⟩ := isI_ok e
    have g : Go noO F1 H1 F1 (upd H1 tp (.tup (pt.map fun q => V.ty q.1.nm))) := Go.upd htp
    have s2 : Stp X.K G.H0 σ (fun _ => false) F1 H1 env1 F1 _ env1 := s1.sim.stp g
    have P2 := P1 F1 (V.bl (List.any (List.map (fun (x : Ty × Pos) => x.1) pt) (fun (t : Ty) => t.is d))) _ (s1.sim.stp g) (Rep.bl (List.any (List.map (fun (x : Ty × Pos) => x.1) pt) (fun (t : Ty) => t.is d)))
    refine ⟨x, tp, _, _, _, _, rfl, upd_same, ?_, tyx_D ((q1.stp s2 s1.sim).get s2.sim hd) hn, kitAny_D d hn (pt.map (·.1)), P2⟩
    have := paired_ty (pt.map (·.1))
    rw [List.map_map] at this
    exact this
end

/-! ### a def's promise: what its function says -/
def spI (K : PySem.W.Frag) (g : List D → Out Res) : Sp := fun vs H Q E => ∃ F ds, FOk F H ∧ RepL K F H vs ds ∧ match g ds with
  | .stuck => False
  | .ok r => ∀ F' v H', Go noO F H F' H' → RepN K H F' H' v r → Q v H'
  | .exc x => ∀ F' c d H', Go noO F H F' H' → XRep K H' x c d → E c d H'
theorem noRef_deref {env : Nv} : ∀ {rs : List Res} {ds : List D}, anyRef rs = false → deref env rs = some ds → noRef rs = some ds
  | [], _, _, e => e
  | .val d :: rs, ds, h, e => by
    cases h2 : deref env rs with
    | none => simp [deref, Res.get, h2] at e
    | some es =>
      have e' : some (d :: es) = some ds := by simpa [deref, Res.get, h2] using e
      cases e'
      show (noRef rs).map (d :: ·) = _
      rw [noRef_deref (show anyRef rs = false from h) h2]; rfl
  | .new c :: rs, ds, h, e => by
    cases h2 : deref env rs with
    | none => simp [deref, Res.get, h2] at e
    | some es =>
      have e' : some (c.d :: es) = some ds := by simpa [deref, Res.get, h2] using e
      cases e'
      show (noRef rs).map (c.d :: ·) = _
      rw [noRef_deref (show anyRef rs = false from h) h2]; rfl
  | .ref _ :: _, _, h, _ => by cases h
mutual
theorem Rep.solid {K : PySem.W.Frag} {F F' : Addr → Prop} {H : Hp} : ∀ {v : V} {d : D}, Rep K F H v d → d.solid = true → Rep K F' H v d
  | _, _, .non, _ => .non
  | _, _, .bl b, _ => .bl b
  | _, _, .int i, _ => .int i
  | _, _, .str h, _ => .str h
  | _, _, .tup h r, s => .tup h (RepL.solid r s)
  | _, _, .lst _ _, s => by cases s
  | _, _, .dK _ _ _, s => by cases s
  | _, _, .dT _ _ _, s => by cases s
  | _, _, .exn _ _, s => by cases s
theorem RepL.solid {K : PySem.W.Frag} {F F' : Addr → Prop} {H : Hp} : ∀ {vs : List V} {ds : List D}, RepL K F H vs ds → D.solidL ds = true → RepL K F' H vs ds
  | _, _, .nil, _ => .nil
  | _, _, .cons r t, s => .cons (Rep.solid r (Bool.and_eq_true_iff.mp s).1) (RepL.solid t (Bool.and_eq_true_iff.mp s).2)
end
theorem RepN.solid {K : PySem.W.Frag} {F F' : Addr → Prop} {H H' : Hp} {v : V} {r : Res} (f : FOk F' H) (q : RepN K H F H' v r) (s : r.solid = true) : RepN K H F' H' v r := by
  cases r with
  | val d => exact Rep.solid q s
  | new c =>
    obtain ⟨a, e, h1, h2, h3⟩ := q
    refine ⟨a, e, ?_, fun z => f a z h3, h3⟩
    cases c with
    | lst ds => obtain ⟨xs, e, r⟩ := h1; exact ⟨xs, e, r.solid s⟩
    | dK kvs => obtain ⟨xs, e, k, r⟩ := h1; exact ⟨xs, e, k, r.solid s⟩
    | dT kvs => obtain ⟨xs, e, k, r⟩ := h1; exact ⟨xs, e, k, r.solid s⟩
  | ref i => exact q
/-- all that is read now may be taken as frozen while a callee runs -/
theorem lend {K : PySem.W.Frag} {F : Addr → Prop} {H : Hp} (f : FOk F H) : ∀ {vs : List V} {ds : List D}, RepVs K F H vs ds → ∃ F', FOk F' H ∧ (∀ b, F b → F' b) ∧ RepL K F' H vs ds := by
  intro vs ds h
  refine ⟨fun b => H b ≠ none, fun b z => z, f, ?_⟩
  induction h with
  | nil => exact .nil
  | cons r _ ih =>
    refine .cons ?_ ih
    rcases r with r | ⟨a, c, rfl, rfl, r⟩
    · exact r.up f
    · exact (r.up f).rep r.there
section
variable {X : Cx} {G : Gc} {i ia ib ic il ih : I} {e a b c : Expr} {es : List Expr} {pos : Pos}
theorem te_call {n : Nat} {g : List D → Out Res} {dd : List D} {dvs : List V} (hg : ∀ ds, G.cx.call n ds = .stuck ∨ G.cx.call n ds = g (ds ++ dd)) (hd : ∀ F H, RepL X.K F H dvs dd) {σ : L2.St} {H : Hp} {Q : VK} (h : TE X.K G (.call n ia) σ H Q) :
    tCallSD (spI X.K g) dvs (WE G.W) (TA X.K G ia) σ H Q := by
  obtain ⟨F, env, S, P⟩ := h
  rw [evE] at P
  refine ⟨F, env, S, P.seq0 (fun j hj => hj) fun rs env1 F1 vs H1 _ P1 s1 q1 => ?_⟩
  obtain ⟨ds, hds, P1⟩ := P1.of
  rcases hg ds with hst | hgd
  · rw [hst] at P1; exact P1.elim
  rw [hgd] at P1
  cases ha : anyRef rs with
  | false =>
    have hnr := noRef_deref ha hds
    obtain ⟨F2, s2, up, r2⟩ := freeze S s1 q1 hnr
    refine ⟨F2, ds ++ dd, s2.sim.fro, r2.append (hd _ _), ?_⟩
    cases e : g (ds ++ dd) with
    | stuck => rw [e] at P1; exact P1.elim
    | ok r =>
      have e2 : lent rs (.ok r) = .ok r := by simp [lent, ha]
      rw [e, e2] at P1
      intro F' v H' go q
      exact P1 F' v H' (s2.then_go go) (q.r s2.sim fun b z => s2.go.back z)
    | exc x =>
      rw [e] at P1
      intro F' c d H' go q
      exact P1 F' env1 c d H' (s2.then_go go) q
  | true =>
    obtain ⟨F2, f2, up, r2⟩ := lend s1.sim.fro (RepRs.get s1.sim q1 hds)
    refine ⟨F2, ds ++ dd, f2, r2.append (hd _ _), ?_⟩
    have gback : ∀ {F' H'}, Go noO F2 H1 F' H' → Go noO F1 H1 F1 H' := fun go => ⟨go.keep, go.stay, fun _ z => z, fun _ z => .inl z, fun k b z => go.stay b (k b z)⟩
    cases e : g (ds ++ dd) with
    | stuck => rw [e] at P1; exact P1.elim
    | ok r =>
      rw [e] at P1
      cases hs : r.solid with
      | false =>
        have e2 : lent rs (.ok r) = .stuck := by simp [lent, ha, hs]
        rw [e2] at P1; exact P1.elim
      | true =>
        have e2 : lent rs (.ok r) = .ok r := by simp [lent, ha, hs]
        rw [e2] at P1
        intro F' v H' go q
        exact P1 F1 v H' (s1.then_go (gback go)) ((q.solid s1.sim.fro hs).r s1.sim fun b z => s1.go.back z)
    | exc x =>
      rw [e] at P1
      intro F' c d H' go q
      exact P1 F1 env1 c d H' (s1.then_go (gback go)) q
theorem se_call {n k : Nat} {x : Str} {f : Addr} {fd : FuncData} {ps : List Str} {g : List D → Out Res} {dd : List D} {dvs : List V} {dus : List Value} {p : Pos} (Fk : FnOk X.prog X.w X.K X.mg X.base (L2.CX X.prog X.w) k f fd ps (spI X.K g))
    (hr : Room k X.A) (hgl : Gl X x) (hm : X.mg x = some (.ref f)) (hk : PySem.W.keepIn X.K (.ref f) = true) (hb : Binds X.K fd ps dus) (hv : Vals dvs dus) (hg : ∀ ds, G.cx.call n ds = .stuck ∨ G.cx.call n ds = g (ds ++ dd)) (hd : ∀ F H, RepL X.K F H dvs dd)
    (tk : Takes X G.W) (hdb : (x == ("__debug__" : Str)) = false) (ha : SA X G (a :: es) ia) : SE X G (.Call (.Name x p) (a :: es) [] pos) (.call n ia) := by
  have ns := Bool.and_eq_true_iff.mp (show (notStar a && es.all notStar) = true from ha.ns)
  exact SE.of_pe (imp_pe (pe_callSD Fk hr hgl hm hk hb hv (fun σ => passAt tk σ) ha.pa hdb (starEach_cons ns.1) (starEach_any ns.2)) fun σ H Q h => te_call hg hd h) (fun _ => rfl) (fun _ _ _ z => nomatch z)
/-- a module's constant -/
theorem se_glob {n : Nat} {x : Str} {v : V} {u : Value} (hg : Gl X x) (hm : X.mg x = some u) (r : RelV v u) (hd : (x == ("__debug__" : Str)) = false) (hc : ∀ d, G.cx.glob n = some d → ∀ F H, Rep X.K F H v d) : SE X G (.Name x pos) (.glob n) := by
  refine SE.of_pe (imp_pe (pe_glob hg hm r hd) fun σ H Q h => ?_) (fun _ => rfl) (fun _ _ _ z => nomatch z)
  obtain ⟨F, env, S, P⟩ := h
  rw [evE] at P
  obtain ⟨d, hd, P⟩ := P.of
  exact P F v H (Stp.refl S) (hc d hd F H)
end
end PyI

end
section
set_option autoImplicit false
/-! PyG: statements and loops. -/
namespace PyI
open PySem PySem.Spec PyProof.Rows L2 RZ RT

/-- a step of statements: slots and own cells may change, of those that h holds -/
structure StpS (K : PySem.W.Frag) (H0 : Bs) (h : Nat → Bool) (σ : L2.St) (F : Addr → Prop) (H : Hp) (env : Nv) (σ' : L2.St) (F' : Addr → Prop) (H' : Hp) (env' : Nv) : Prop where
  sim : Sim K H0 F' H' σ' env'
  keep : ∀ b o, H b = some o → ¬ Own σ env b → H' b = some o
  stay : ∀ b, H b ≠ none → H' b ≠ none
  up : ∀ b, F b → F' b
  new : ∀ b, F' b → F b ∨ H b = none ∨ Own σ env b
  own : ∀ b, Own σ' env' b → Own σ env b ∨ H b = none
  off : ∀ j : Nat, h j = false → env'[j]? = env[j]? ∧ σ'[j]? = σ[j]?
  pin : ∀ j : Nat, H0.pin j = true → σ'[j]? = σ[j]?
section
variable {K : PySem.W.Frag} {H0 : Bs} {h h' h'' : Nat → Bool} {σ σ' σ'' : L2.St} {F F' F'' : Addr → Prop} {H H' H'' : Hp} {env env' env'' : Nv} {v : V} {d : D} {a : Addr}
theorem StpS.refl (S : Sim K H0 F H σ env) : StpS K H0 h σ F H env σ F H env := ⟨S, fun _ _ e _ => e, fun _ z => z, fun _ z => z, fun _ z => .inl z, fun _ z => .inl z, fun _ _ => ⟨rfl, rfl⟩, fun _ _ => rfl⟩
theorem StpS.trans (s : StpS K H0 h σ F H env σ' F' H' env') (t : StpS K H0 h' σ' F' H' env' σ'' F'' H'' env'') (e1 : ∀ j, h'' j = false → h j = false) (e2 : ∀ j, h'' j = false → h' j = false) : StpS K H0 h'' σ F H env σ'' F'' H'' env'' := by
  have bk : ∀ b, H' b = none → H b = none := fun b e => Classical.byContradiction fun z => s.stay b z e
  refine ⟨t.sim, fun b o e n => t.keep b o (s.keep b o e n) fun z => ?_, fun b z => t.stay b (s.stay b z), fun b z => t.up b (s.up b z), fun b z => ?_, fun b z => ?_, fun j hj => ?_, fun j hj => (t.pin j hj).trans (s.pin j hj)⟩
  · rcases s.own b z with z | z
    · exact n z
    · rw [e] at z; cases z
  · rcases t.new b z with z | z | z
    · exact s.new b z
    · exact .inr (.inl (bk b z))
    · rcases s.own b z with z | z
      · exact .inr (.inr z)
      · exact .inr (.inl z)
  · rcases t.own b z with z | z
    · exact s.own b z
    · exact .inr (bk b z)
  · exact ⟨(t.off j (e2 j hj)).1.trans (s.off j (e1 j hj)).1, (t.off j (e2 j hj)).2.trans (s.off j (e1 j hj)).2⟩
theorem StpS.weak (s : StpS K H0 h σ F H env σ' F' H' env') (e : ∀ j, h' j = false → h j = false) : StpS K H0 h' σ F H env σ' F' H' env' := ⟨s.sim, s.keep, s.stay, s.up, s.new, s.own, fun j hj => s.off j (e j hj), s.pin⟩
theorem Stp.s (s : Stp K H0 σ h F H env F' H' env') : StpS K H0 h σ F H env σ F' H' env' :=
  ⟨s.sim, s.go.keep, s.go.stay, s.go.up, fun b z => (s.go.new b z).elim .inl fun z => .inr (.inl z), fun b z => .inl ((s.ownEq b).mp z), fun j hj => ⟨s.off j hj, rfl⟩, fun _ _ => rfl⟩
theorem StpS.rep (s : StpS K H0 h σ F H env σ' F' H' env') (S : Sim K H0 F H σ env) (r : Rep K F H v d) : Rep K F' H' v d := by
  have g : Go (Own σ env) F H F H' := ⟨s.keep, s.stay, fun _ z => z, fun _ z => .inl z, fun k b z => s.stay b (k b z)⟩
  exact (r.go g S.ok).up s.up
theorem StpS.back (s : StpS K H0 h σ F H env σ' F' H' env') {b : Addr} (e : H' b = none) : H b = none := Classical.byContradiction fun z => s.stay b z e

/-! ### one slot is set -/
theorem get_set {α : Type} (l : List α) (i j : Nat) (a : α) : (l.set i a)[j]? = if i = j ∧ j < l.length then some a else l[j]? := by
  rw [List.getElem?_set]
  by_cases e : i = j
  · subst e
    by_cases k : i < l.length
    · simp [k]
    · simp [k]
  · simp [e]
theorem Sim.setVal (S : Sim K H0 F H σ env) (i : Nat) (r : Rep K F H v d) : Sim K H0 F H (σ.set i (some v)) (env.set i (.val d)) := by
  refine ⟨by simp [S.len], fun j d' e => ?_, fun j c e => ?_, fun j k c c' a e1 e2 e3 e4 => ?_, S.old, S.fro⟩
  · rw [get_set] at e ⊢
    split at e
    · rename_i hij
      cases e
      rw [if_pos ⟨hij.1, by rw [S.len]; exact hij.2⟩]
      exact ⟨v, rfl, r⟩
    · rename_i hij
      rw [if_neg (by rw [S.len]; exact hij)]
      exact S.val j d' e
  · rw [get_set] at e ⊢
    split at e
    · cases e
    · rename_i hij
      rw [if_neg (by rw [S.len]; exact hij)]
      exact S.own j c e
  · rw [get_set] at e1 e2 e3 e4
    rw [S.len] at e3 e4
    split at e1
    · cases e1
    · rename_i h1
      rw [if_neg h1] at e3
      split at e2
      · cases e2
      · rename_i h2
        rw [if_neg h2] at e4
        exact S.sep j k c c' a e1 e2 e3 e4
theorem Sim.setOwn {c : Cell} (S : Sim K H0 F H σ env) (i : Nat) (r : CellAt K F H a c) (n : ¬ F a) (no : ¬ Own σ env a) (h0 : H0.h a = none) : Sim K H0 F H (σ.set i (some (.ref a))) (env.set i (.own c)) := by
  refine ⟨by simp [S.len], fun j d' e => ?_, fun j c' e => ?_, fun j k c1 c2 b e1 e2 e3 e4 => ?_, S.old, S.fro⟩
  · rw [get_set] at e ⊢
    split at e
    · cases e
    · rename_i hij
      rw [if_neg (by rw [S.len]; exact hij)]
      exact S.val j d' e
  · rw [get_set] at e ⊢
    split at e
    · rename_i hij
      cases e
      rw [if_pos ⟨hij.1, by rw [S.len]; exact hij.2⟩]
      exact ⟨a, rfl, r, n, h0⟩
    · rename_i hij
      rw [if_neg (by rw [S.len]; exact hij)]
      exact S.own j c' e
  · rw [get_set] at e1 e2 e3 e4
    rw [S.len] at e3 e4
    split at e1
    · rename_i h1
      rw [if_pos h1] at e3
      cases e3
      split at e2
      · rename_i h2
        exact h1.1.symm.trans h2.1
      · rename_i h2
        rw [if_neg h2] at e4
        exact absurd ⟨k, c2, e2, e4⟩ no
    · rename_i h1
      rw [if_neg h1] at e3
      split at e2
      · rename_i h2
        rw [if_pos h2] at e4
        cases e4
        exact absurd ⟨j, c1, e1, e3⟩ no
      · rename_i h2
        rw [if_neg h2] at e4
        exact S.sep j k c1 c2 b e1 e2 e3 e4
theorem Own.set {s : Slot} {x : Option V} {i : Nat} {b : Addr} (z : Own (σ.set i x) (env.set i s) b) (hl : σ.length = env.length) : Own σ env b ∨ ((∃ c, s = .own c) ∧ x = some (.ref b)) := by
  obtain ⟨j, c, e1, e2⟩ := z
  rw [get_set] at e1 e2
  rw [hl] at e2
  split at e1
  · rename_i h1
    rw [if_pos h1] at e2
    cases e1
    cases e2
    exact .inr ⟨⟨c, rfl⟩, rfl⟩
  · rename_i h1
    rw [if_neg h1] at e2
    exact .inl ⟨j, c, e1, e2⟩
theorem pin_ne {i : Nat} (hp : H0.pin i = false) {j : Nat} (hj : H0.pin j = true) : i ≠ j := fun z => by subst z; rw [hp] at hj; cases hj
theorem Sim.stpVal (S : Sim K H0 F H σ env) (i : Nat) (r : Rep K F H v d) (hh : h i = true) (hp : H0.pin i = false) : StpS K H0 h σ F H env (σ.set i (some v)) F H (env.set i (.val d)) :=
  ⟨S.setVal i r, fun _ _ e _ => e, fun _ z => z, fun _ z => z, fun _ z => .inl z, fun b z => (Own.set z S.len).elim .inl fun z => (by obtain ⟨⟨_, e⟩, _⟩ := z; cases e), fun j hj => by
    have hij : i ≠ j := fun z => by subst z; rw [hh] at hj; cases hj
    rw [List.getElem?_set_ne hij, List.getElem?_set_ne hij]
    exact ⟨rfl, rfl⟩, fun j hj => List.getElem?_set_ne (pin_ne hp hj)⟩
end

/-! ### what is wanted of a statement's end -/
/-- what is handed back at a def's end: a slot's own object too -/
def RepS (K : PySem.W.Frag) (H0 : Bs) (σ : L2.St) (F : Addr → Prop) (H : Hp) (v : V) : Res → Prop
  | .ref i => H0.pin i = true → ∃ a, v = .ref a ∧ σ[i]? = some (some (V.ref a))
  | .val d => RepN K H0.h F H v (.val d)
  | .new c => RepN K H0.h F H v (.new c)
theorem RepS.of {K : PySem.W.Frag} {H0 : Bs} {σ : L2.St} {F : Addr → Prop} {H : Hp} {v : V} {r : Res} (h : RepN K H0.h F H v r) : RepS K H0 σ F H v r := by
  cases r with
  | val d => exact h
  | new c => exact h
  | ref i => exact h.elim
def PostS (K : PySem.W.Frag) (G : Gc) (h : Nat → Bool) (σ : L2.St) (F : Addr → Prop) (H : Hp) (env : Nv) (E : Ends) : Out (Fl × Nv) → Prop
  | .stuck => False
  | .ok (.next, env') => ∀ σ' F' H', StpS K G.H0 h σ F H env σ' F' H' env' → E.nx σ' H'
  | .ok (.ret r, env') => ∀ σ' F' H' v, StpS K G.H0 h σ F H env σ' F' H' env' → RepS K G.H0 σ' F' H' v r → E.rt v H'
  | .exc x => ∀ σ' F' env' c d H', StpS K G.H0 h σ F H env σ' F' H' env' → XRep K H' x c d → G.W c d σ' H'
section
variable {α β : Type} {K : PySem.W.Frag} {G : Gc} {h h' h'' : Nat → Bool} {σ σ' σ'' : L2.St} {F F' F1 : Addr → Prop} {H H1 H' : Hp} {env env1 : Nv} {E E' : Ends} {rel : Rl α β} {Q : β → Hp → Prop}
theorem PostS.shift {o : Out (Fl × Nv)} (P : PostS K G h σ F H env E o) (s : StpS K G.H0 h σ F H env σ' F1 H1 env1) : PostS K G h σ' F1 H1 env1 E o := by
  cases o with
  | stuck => exact P
  | ok r =>
    obtain ⟨f, env'⟩ := r
    cases f with
    | next => exact fun σ2 F2 H2 t => P σ2 F2 H2 (s.trans t (fun _ z => z) fun _ z => z)
    | ret r => exact fun σ2 F2 H2 v t q => P σ2 F2 H2 v (s.trans t (fun _ z => z) fun _ z => z) q
  | exc x => exact fun σ2 F2 e2 c d H2 t q => P σ2 F2 e2 c d H2 (s.trans t (fun _ z => z) fun _ z => z) q
theorem PostS.less {o : Out (Fl × Nv)} (P : PostS K G h'' σ F H env E o) (e : ∀ j, h'' j = false → h j = false) : PostS K G h σ F H env E o := by
  cases o with
  | stuck => exact P
  | ok r =>
    obtain ⟨f, env'⟩ := r
    cases f with
    | next => exact fun σ2 F2 H2 t => P σ2 F2 H2 (t.weak e)
    | ret r => exact fun σ2 F2 H2 v t q => P σ2 F2 H2 v (t.weak e) q
  | exc x => exact fun σ2 F2 e2 c d H2 t q => P σ2 F2 e2 c d H2 (t.weak e) q
/-- an expression ahead -/
theorem PostS.ex {o : Out (α × Nv)} {f : α × Nv → Out (Fl × Nv)} (P : PostS K G h'' σ F H env E (o.bind f)) (e : ∀ j, h'' j = false → h j = false)
    (k : ∀ r env1 F1 v H1, o = .ok (r, env1) → PostS K G h'' σ F1 H1 env1 E (f (r, env1)) → Stp K G.H0 σ h F H env F1 H1 env1 → rel F1 H1 env1 v r → Q v H1) : Post K G σ h F H env rel Q o := by
  cases o with
  | stuck => exact P
  | ok r =>
    obtain ⟨r, env1⟩ := r
    intro F1 v H1 s q
    have P' : PostS K G h'' σ F H env E (f (r, env1)) := P
    exact k r env1 F1 v H1 rfl (P'.shift (s.s.weak e)) s q
  | exc x => exact fun F' env' c d H' t q => P σ F' env' c d H' (t.s.weak e) q
/-- .. from the start on -/
theorem PostS.ex0 {o : Out (α × Nv)} {f : α × Nv → Out (Fl × Nv)} (P : PostS K G h'' σ F H env E (o.bind f)) (e : ∀ j, h'' j = false → h j = false)
    (k : ∀ r env1 F1 v H1, o = .ok (r, env1) → PostS K G h'' σ F H env E (f (r, env1)) → Stp K G.H0 σ h F H env F1 H1 env1 → rel F1 H1 env1 v r → Q v H1) : Post K G σ h F H env rel Q o := by
  cases o with
  | stuck => exact P
  | ok r =>
    obtain ⟨r, env1⟩ := r
    exact fun F1 v H1 s q => k r env1 F1 v H1 rfl P s q
  | exc x => exact fun F' env' c d H' t q => P σ F' env' c d H' (t.s.weak e) q
theorem PostS.of {γ : Type} {o : Option γ} {f : γ → Out (Fl × Nv)} (P : PostS K G h σ F H env E ((Out.of o).bind f)) : ∃ a, o = some a ∧ PostS K G h σ F H env E (f a) := by
  cases o with
  | none => exact P.elim
  | some a => exact ⟨a, rfl, P⟩
/-- a statement ahead -/
theorem PostS.seq {o : Out (Fl × Nv)} {f : Nv → Out (Fl × Nv)} (P : PostS K G h'' σ F H env E (o.bind fun r => match r.1 with | .next => f r.2 | .ret v => .ok (.ret v, r.2))) (e : ∀ j, h'' j = false → h j = false)
    (hr : ∀ v H, E.rt v H → E'.rt v H) (k : ∀ env1 σ1 F1 H1, o = .ok (.next, env1) → PostS K G h'' σ1 F1 H1 env1 E (f env1) → StpS K G.H0 h σ F H env σ1 F1 H1 env1 → E'.nx σ1 H1) : PostS K G h σ F H env E' o := by
  cases o with
  | stuck => exact P
  | ok r =>
    obtain ⟨r, env1⟩ := r
    cases r with
    | next =>
      intro σ1 F1 H1 s
      have P' : PostS K G h'' σ F H env E (f env1) := P
      exact k env1 σ1 F1 H1 rfl (P'.shift (s.weak e)) s
    | ret v => exact fun σ1 F1 H1 v s q => hr _ _ (P σ1 F1 H1 v (s.weak e) q)
  | exc x => exact fun σ1 F1 e1 c d H1 s q => P σ1 F1 e1 c d H1 (s.weak e) q
end
def TS (K : PySem.W.Frag) (G : Gc) (i : I) : L2.TS := fun E σ H => ∃ F env, Sim K G.H0 F H σ env ∧ PostS K G (fun j => i.hits j) σ F H env E (evS G.cx i env)
theorem imp_ps {X : Cx} {st : Stmt} {t t' : L2.TS} (h : PS X st t) (w : ∀ E σ H, t' E σ H → t E σ H) : PS X st t' := ⟨fun pins s σ H E I q => h.run pins s σ H E I (w E σ H q)⟩
theorem imp_pss {X : Cx} {st : List Stmt} {t t' : L2.TS} (h : PSs X st t) (w : ∀ E σ H, t' E σ H → t E σ H) : PSs X st t' := ⟨fun pins s σ H E I q => h.run pins s σ H E I (w E σ H q)⟩
section
variable {X : Cx} {G : Gc} {i ia ib ic il ih : I} {e a b c : Expr} {es : List Expr} {pos : Pos} {sts : List Stmt} {st : Stmt}

/-! ### blocks -/
theorem ss_nil : PSs X [] (TS X.K G .done) := imp_pss pss_nil fun E σ H ⟨F, env, S, P⟩ => by
  rw [evS] at P
  exact P σ F H (StpS.refl S)
theorem ss_cons (h1 : PS X st (TS X.K G ia)) (h2 : PSs X sts (TS X.K G ib)) : PSs X (st :: sts) (TS X.K G (.seq ia ib)) := imp_pss (pss_cons h1 h2) fun E σ H ⟨F, env, S, P⟩ => by
  rw [evS] at P
  exact ⟨F, env, S, P.seq (fun j hj => or_l hj) (fun _ _ z => z) fun env1 σ1 F1 H1 _ P1 s1 => ⟨F1, env1, s1.sim, P1.less fun j hj => or_r hj⟩⟩
theorem ss_one (h1 : PS X st (TS X.K G ia)) : PSs X [st] (TS X.K G ia) := pss_one h1
/-- a cell is frozen: the code does nothing -/
theorem ss_frz {k : Nat} (h : PSs X sts (TS X.K G ib)) : PSs X sts (TS X.K G (.seq (.frz k) ib)) := imp_pss h fun E σ H ⟨F, env, S, P⟩ => by
  rw [evS, evS] at P
  have same : PostS X.K G (fun j => (I.seq (.frz k) ib).hits j) σ F H env E (evS G.cx ib env) → TS X.K G ib E σ H := fun P => ⟨F, env, S, P.less fun j hj => or_r hj⟩
  cases he : env[k]? with
  | none => rw [he] at P; exact same P
  | some s =>
    rw [he] at P
    cases s with
    | emp => exact same P
    | val d => exact same P
    | own c =>
      obtain ⟨a, h1, h2, h3, h4⟩ := S.own k c he
      have P' : PostS X.K G (fun j => (I.seq (.frz k) ib).hits j) σ F H env E (evS G.cx ib (env.set k (.val c.d))) := P
      have up : ∀ b, F b → (F b ∨ b = a) := fun b z => .inl z
      have S1 : Sim X.K G.H0 (fun b => F b ∨ b = a) H σ (env.set k (.val c.d)) := by
        refine ⟨by simp [S.len], fun j d e => ?_, fun j c' e => ?_, fun j k' c1 c2 b e1 e2 e3 e4 => ?_, S.old, fun b z => ?_⟩
        · rw [get_set] at e
          split at e
          · rename_i hij
            cases e
            obtain ⟨rfl, _⟩ := hij
            exact ⟨.ref a, h1, (h2.up up).rep (.inr rfl)⟩
          · obtain ⟨v, g1, g2⟩ := S.val j d e
            exact ⟨v, g1, g2.up up⟩
        · rw [get_set] at e
          split at e
          · cases e
          · rename_i hij
            obtain ⟨b, g1, g2, g3, g4⟩ := S.own j c' e
            refine ⟨b, g1, g2.up up, fun z => ?_, g4⟩
            rcases z with z | z
            · exact g3 z
            · subst z
              have := S.sep k j c c' b he e h1 g1
              exact hij ⟨this, by
                cases q : env[j]? with
                | none => rw [q] at e; cases e
                | some _ => exact (List.getElem?_eq_some_iff.mp q).1⟩
        · rw [get_set] at e1 e2
          split at e1
          · cases e1
          · split at e2
            · cases e2
            · exact S.sep j k' c1 c2 b e1 e2 e3 e4
        · rcases z with z | z
          · exact S.fro b z
          · subst z; exact h2.there
      have s : StpS X.K G.H0 (fun j => (I.seq (.frz k) ib).hits j) σ F H env σ (fun b => F b ∨ b = a) H (env.set k (.val c.d)) := by
        refine ⟨S1, fun _ _ e _ => e, fun _ z => z, up, fun b z => ?_, fun b z => .inl ?_, fun j hj => ?_, fun _ _ => rfl⟩
        · rcases z with z | z
          · exact .inl z
          · subst z; exact .inr (.inr ⟨k, c, he, h1⟩)
        · obtain ⟨j, c', e1, e2⟩ := z
          rw [get_set] at e1
          split at e1
          · cases e1
          · exact ⟨j, c', e1, e2⟩
        · have hkj : k ≠ j := fun z => by subst z; have := or_l hj; simp [I.hits] at this
          rw [List.getElem?_set_ne hkj]
          exact ⟨rfl, rfl⟩
      exact ⟨_, _, S1, (P'.shift s).less fun j hj => or_r hj⟩

/-! ### small statements -/
theorem ss_pass : PS X (.Pass pos) (TS X.K G .pass) := imp_ps ps_pass fun E σ H ⟨F, env, S, P⟩ => by
  rw [evS] at P
  exact P σ F H (StpS.refl S)
theorem ss_doc {x j pos pos'} : PS X (.Expr (.Constant (.str x) j pos) pos') (TS X.K G .pass) := imp_ps ps_doc fun E σ H ⟨F, env, S, P⟩ => by
  rw [evS] at P
  exact P σ F H (StpS.refl S)
theorem ss_expr (ha : SE X G a ia) (hs : swapsWith a none pos.line X.env = pure false) : PS X (.Expr a pos) (TS X.K G (.expr ia)) := imp_ps (ps_expr ha.pe hs) fun E σ H ⟨F, env, S, P⟩ => by
  rw [evS] at P
  exact ⟨F, env, S, P.ex (fun j hj => hj) fun r env1 F1 v H1 _ P1 s1 q1 => P1 σ F1 H1 (StpS.refl s1.sim)⟩
theorem out_rep {K : PySem.W.Frag} {H0 : Bs} {Hs : Hp} {F : Addr → Prop} {H : Hp} {σ : L2.St} {env : Nv} {v : V} {r r' : Res} (S : Sim K H0 F H σ env) (ho : ∀ b, Hs b = none → H0.h b = none) (q : RepR K Hs F H σ env v r) (e : r.out env = some r') : RepN K H0.h F H v r' := by
  cases r with
  | val d => cases e; exact q
  | new c =>
    cases e
    obtain ⟨a, e, h1, h2, h3, h4⟩ := q
    exact ⟨a, e, h1, h2, ho a h4⟩
  | ref i =>
    obtain ⟨a, c, e1, h1, h2⟩ := q
    have e' : some (Res.new c) = some r' := by
      have : Res.out env (.ref i) = some (.new c) := by simp [Res.out, h2]
      rw [← this]; exact e
    cases e'
    obtain ⟨b, g1, g2, g3, g4⟩ := S.own i c h2
    rw [h1] at g1; cases g1
    exact ⟨a, e1, g2, g3, g4⟩
theorem ss_ret (ha : SE X G a ia) : PS X (.Return (some a) pos) (TS X.K G (.ret ia)) := imp_ps (ps_ret ha.pe) fun E σ H ⟨F, env, S, P⟩ => by
  rw [evS] at P
  refine ⟨F, env, S, P.ex (fun j hj => hj) fun r env1 F1 v H1 _ P1 s1 q1 => ?_⟩
  obtain ⟨r', hr, P1⟩ := P1.of
  exact P1 σ F1 H1 v (StpS.refl s1.sim) (.of (out_rep s1.sim (fun b z => S.old b z) q1 hr))
theorem ss_retM {k : Nat} {x : Str} {p : Pos} (hN : X.N[k]? = some x) (hv : Vis X.env.scope x) (hd : (x == ("__debug__" : Str)) = false) (hcd : (x == ("__classdict__" : Str)) = false) : PS X (.Return (some (.Name x p)) pos) (TS X.K G (.retM k)) := imp_ps (ps_ret (pe_var hN hv hd hcd)) fun E σ H ⟨F, env, S, P⟩ => by
  rw [evS] at P
  cases he : env[k]? with
  | none => rw [he] at P; exact P.elim
  | some s =>
    rw [he] at P
    cases s with
    | emp => exact P.elim
    | val d => exact P.elim
    | own c =>
      obtain ⟨a, h1, _⟩ := S.own k c he
      exact ⟨.ref a, h1, P σ F H _ (StpS.refl S) fun _ => ⟨a, rfl, h1⟩⟩
theorem ss_retN : PS X (.Return none pos) (TS X.K G .retN) := imp_ps ps_retN fun E σ H ⟨F, env, S, P⟩ => by
  rw [evS] at P
  exact P σ F H .non (StpS.refl S) .non
theorem ss_if {p q : List Stmt} (hc : SE X G c ic) (ha : PSs X p (TS X.K G ia)) (hb : PSs X q (TS X.K G ib)) : PS X (.If c p q pos) (TS X.K G (.if_ ic ia ib)) := imp_ps (ps_if hc.pt ha hb) fun E σ H ⟨F, env, S, P⟩ => by
  rw [evS] at P
  refine ⟨F, env, S, P.ex (fun j hj => or_l (or_l hj)) fun t env1 F1 v H1 _ P1 s1 q1 => ?_⟩
  cases q1
  cases t with
  | true =>
    rw [if_pos rfl]
    exact ⟨F1, env1, s1.sim, PostS.less P1 fun j hj => or_r (or_l hj)⟩
  | false =>
    rw [if_neg Bool.false_ne_true]
    exact ⟨F1, env1, s1.sim, PostS.less P1 fun j hj => or_r hj⟩

/-! ### stores -/
/-- a result goes to a slot -/
theorem Stp.set {K : PySem.W.Frag} {H0 : Bs} {σ : L2.St} {h h' : Nat → Bool} {F F1 : Addr → Prop} {H H1 : Hp} {env env1 : Nv} {v : V} {r : Res} {sl : Slot} {k : Nat} (S : Sim K H0 F H σ env) (s : Stp K H0 σ h F H env F1 H1 env1) (q : RepR K H F1 H1 σ env1 v r) (e : slotOf r = some sl) (hk : h' k = true) (hp : H0.pin k = false) :
    StpS K H0 h' σ F1 H1 env1 (σ.set k (some v)) F1 H1 (env1.set k sl) ∨ (∃ c a, v = .ref a ∧ H a = none ∧ H1 a ≠ none ∧ sl = .own c ∧ Sim K H0 F1 H1 (σ.set k (some v)) (env1.set k sl)) := by
  cases r with
  | val d => cases e; exact .inl (s.sim.stpVal k q hk hp)
  | new c =>
    cases e
    obtain ⟨a, e, h1, h2, h3, h4⟩ := q
    subst e
    exact .inr ⟨c, a, rfl, h4, h1.there, rfl, s.sim.setOwn k h1 h2 h3 (S.old a h4)⟩
  | ref i => cases e
/-- .. as one step -/
theorem Stp.setS {K : PySem.W.Frag} {H0 : Bs} {σ : L2.St} {h h' : Nat → Bool} {F F1 : Addr → Prop} {H H1 : Hp} {env env1 : Nv} {v : V} {r : Res} {sl : Slot} {k : Nat} (S : Sim K H0 F H σ env) (s : Stp K H0 σ h F H env F1 H1 env1) (q : RepR K H F1 H1 σ env1 v r) (e : slotOf r = some sl) (hk : h' k = true) (hw : ∀ j, h' j = false → h j = false) (hp : H0.pin k = false) :
    StpS K H0 h' σ F H env (σ.set k (some v)) F1 H1 (env1.set k sl) := by
  rcases s.set S q e hk hp with z | ⟨c, a, rfl, ha, hb, rfl, S1⟩
  · exact (s.s.weak hw).trans z (fun _ z => z) fun _ z => z
  · have t := s.s.weak hw
    refine ⟨S1, t.keep, t.stay, t.up, t.new, fun b z => ?_, fun j hj => ?_, fun j hj => List.getElem?_set_ne (pin_ne hp hj)⟩
    · rcases Own.set z s.sim.len with z | ⟨_, z⟩
      · exact t.own b z
      · cases z; exact .inr ha
    · have hkj : k ≠ j := fun z => by subst z; rw [hk] at hj; cases hj
      rw [List.getElem?_set_ne hkj, List.getElem?_set_ne hkj]
      exact ⟨(t.off j hj).1, rfl⟩
theorem ts_asg {k : Nat} {te : L2.TE} (hp : G.H0.pin k = false) (he : ∀ σ H Q, TE X.K G ia σ H Q → te σ H Q) {E : Ends} {σ : L2.St} {H : Hp} (h : TS X.K G (.asg k ia) E σ H) : tAsg te (gName k) E σ H := by
  obtain ⟨F, env, S, P⟩ := h
  rw [evS] at P
  refine he σ H _ ⟨F, env, S, P.ex0 (fun j hj => or_r hj) fun r env1 F1 v H1 _ P1 s1 q1 => ?_⟩
  obtain ⟨sl, hsl, P1⟩ := P1.of
  exact P1 _ F1 H1 (s1.setS S q1 hsl (by simp [I.hits]) (fun j hj => or_r hj) hp)
theorem ss_asg {k : Nat} {x : Str} {pos' : Pos} (hN : X.N.Nodup) (hi : X.N[k]? = some x) (hx : Loc X.env.scope x) (ha : SE X G a ia) (hs : swapsWith a (some (.Name x pos')) pos.line X.env = pure false) (hf : X.fn x = true ∨ X.env.scope.names.lookup x = some .local) (hp : G.H0.pin k = false) :
    PS X (.Assign [.Name x pos'] a pos) (TS X.K G (.asg k ia)) := imp_ps (ps_set hN hi hx ha.pe hs hf) fun E σ H h => ts_asg hp (fun _ _ _ q => q) h

/-- names, one after another -/
inductive NamesAt (X : Cx) : List Expr → List Nat → Prop
  | nil : NamesAt X [] []
  | cons {x : Str} {p : Pos} {i : Nat} {es : List Expr} {is : List Nat} : X.N[i]? = some x → Loc X.env.scope x → (X.fn x = true ∨ X.env.scope.names.lookup x = some .local) → NamesAt X es is → NamesAt X (.Name x p :: es) (i :: is)
def gNames : List Nat → TGs
  | [] => gNil
  | i :: is => gCons (gName i) (gNames is)
theorem pgs_names (hN : X.N.Nodup) : ∀ {es : List Expr} {is : List Nat}, NamesAt X es is → PGs X es (gNames is)
  | _, _, .nil => pgs_nil
  | _, _, .cons h1 h2 h3 t => pgs_cons (pg_name hN h1 h2 h3) (pgs_names hN t)
theorem names_len {es : List Expr} {is : List Nat} (h : NamesAt X es is) : (assignEach es X.env).length = is.length := by
  induction h with
  | nil => rfl
  | cons _ _ _ _ ih =>
    show (assignEach _ X.env).length + 1 = _
    rw [ih]; rfl
theorem names_star {es : List Expr} {is : List Nat} (h : NamesAt X es is) : (assignEach es X.env).findIdx? (·.1) = none := by
  induction h with
  | nil => rfl
  | @cons x p i es is _ _ _ _ ih =>
    show ((false, fun v => assign (.Name x p) X.env v) :: assignEach es X.env).findIdx? (·.1) = none
    rw [List.findIdx?_cons]
    simp only [Bool.false_eq_true, if_false]
    rw [ih]; rfl
def setAll (is : List Nat) (ds : List D) (env : Nv) : Nv := (is.zip ds).foldl (fun e p => e.set p.1 (.val p.2)) env
theorem g_names {K : PySem.W.Frag} {H0 : Bs} {F : Addr → Prop} {H : Hp} {h : Nat → Bool} {Q : L2.St → Hp → Prop} : ∀ {is : List Nat} {xs : List V} {ds : List D} {σ : L2.St} {env : Nv}, (∀ i ∈ is, h i = true) → (∀ i ∈ is, H0.pin i = false) → is.length = ds.length → RepL K F H xs ds → Sim K H0 F H σ env →
    (∀ σ', StpS K H0 h σ F H env σ' F H (setAll is ds env) → Q σ' H) → gNames is xs σ H Q
  | [], _, _, σ, env, _, _, hl, .nil, S, k => ⟨rfl, k σ (StpS.refl S)⟩
  | [], _, _, σ, env, _, _, hl, .cons _ _, S, k => by cases hl
  | i :: is, _, _, σ, env, _, _, hl, .nil, S, k => by cases hl
  | i :: is, v :: vs, d :: ds, σ, env, hh, hp, hl, .cons r t, S, k => by
    refine ⟨v, vs, rfl, ?_⟩
    have s := S.stpVal (h := h) i r (hh i List.mem_cons_self) (hp i List.mem_cons_self)
    exact g_names (fun j hj => hh j (List.mem_cons_of_mem _ hj)) (fun j hj => hp j (List.mem_cons_of_mem _ hj)) (by simpa using hl) t s.sim fun σ' s' => k σ' (s.trans s' (fun _ z => z) fun _ z => z)
/-- the target of a loop or a comprehension; of an assignment -/
inductive Tgt (X : Cx) : Expr → List Nat → Prop
  | one {x : Str} {p : Pos} {i : Nat} : X.N[i]? = some x → Loc X.env.scope x → (X.fn x = true ∨ X.env.scope.names.lookup x = some .local) → Tgt X (.Name x p) [i]
  | tup {es : List Expr} {is : List Nat} {k : Nat} {p : Pos} : NamesAt X es is → 2 ≤ is.length → Tgt X (.Tuple es k p) is
def gTgt (K : PySem.W.Frag) (is : List Nat) : TG := match is with
  | [i] => gName i
  | is => gTup K is.length (gNames is)
theorem gTgt_many {K : PySem.W.Frag} {is : List Nat} (h : 2 ≤ is.length) : gTgt K is = gTup K is.length (gNames is) := by
  match is, h with
  | _ :: _ :: _, _ => rfl
theorem pg_tgt (hc : X.calm = true) (hN : X.N.Nodup) {tg : Expr} {is : List Nat} (h : Tgt X tg is) : PG X tg (gTgt X.K is) := by
  cases h with
  | one h1 h2 h3 => exact pg_name hN h1 h2 h3
  | tup h1 h2 =>
    rw [gTgt_many h2]
    exact pg_tup hc (pgs_names hN h1) (names_len h1) (names_star h1)
theorem bindV_many {is : List Nat} {d : D} {env e1 : Nv} (h : 2 ≤ is.length) (e : bindV is d env = some e1) : ∃ ds, d = .tup ds ∧ is.length = ds.length ∧ e1 = setAll is ds env := by
  match is, h with
  | i :: j :: is, _ =>
    cases d <;> first | (cases e; done) | skip
    rename_i ds
    have e' : (if (i :: j :: is).length = ds.length then some (setAll (i :: j :: is) ds env) else none) = some e1 := e
    split at e'
    · cases e'; exact ⟨ds, rfl, by assumption, rfl⟩
    · cases e'
theorem g_tgt {K : PySem.W.Frag} {H0 : Bs} {F : Addr → Prop} {H : Hp} {h : Nat → Bool} {Q : L2.St → Hp → Prop} {is : List Nat} {v : V} {d : D} {σ : L2.St} {env e1 : Nv} (hn : is ≠ []) (hh : ∀ i ∈ is, h i = true) (hp : ∀ i ∈ is, H0.pin i = false) (r : Rep K F H v d) (S : Sim K H0 F H σ env) (e : bindV is d env = some e1)
    (k : ∀ σ', StpS K H0 h σ F H env σ' F H e1 → Q σ' H) : gTgt K is v σ H Q := by
  by_cases h2 : 2 ≤ is.length
  · obtain ⟨ds, rfl, hl, rfl⟩ := bindV_many h2 e
    rw [gTgt_many h2]
    cases r with
    | tup ht rl => exact ⟨_, _, rfl, SqT.of ht, by rw [rl.length, hl], g_names hh hp hl rl S k⟩
  · match is, hn, h2 with
    | [i], _, _ =>
      have e' : some (env.set i (.val d)) = some e1 := e
      cases e'
      exact k _ (S.stpVal i r (hh i List.mem_cons_self) (hp i List.mem_cons_self))
    | _ :: _ :: _, _, h2 => exact absurd (by simp) h2
theorem ss_asgT {es : List Expr} {is : List Nat} {k : Nat} {p : Pos} (hc : X.calm = true) (hN : X.N.Nodup) (hn : NamesAt X es is) (h2 : 2 ≤ is.length) (ha : SE X G a ia) (hs : swapsWith a (some (.Tuple es k p)) pos.line X.env = pure false) (hw : swappedStores [.Tuple es k p] a X.env = pure none) (hp : ∀ i ∈ is, G.H0.pin i = false) :
    PS X (.Assign [.Tuple es k p] a pos) (TS X.K G (.asgT is ia)) := imp_ps (ps_asg ha.pe (pg_tgt hc hN (.tup hn h2)) hs hw) fun E σ H ⟨F, env, S, P⟩ => by
  rw [evS] at P
  refine ⟨F, env, S, P.ex (fun j hj => or_r hj) fun r env1 F1 v H1 _ P1 s1 q1 => ?_⟩
  cases r with
  | val d =>
    cases d with
    | tup ds =>
      obtain ⟨e1, he, P1⟩ := PostS.of P1
      exact g_tgt (h := fun j => (I.asgT is ia).hits j) (fun z => by subst z; simp at h2) (fun j hj => by
        show (is.contains j || ia.hits j) = true
        rw [List.contains_iff_mem.mpr hj]; rfl) hp q1 s1.sim he fun σ' s' => P1 σ' F1 H1 s'
    | _ => exact P1.elim
  | _ => exact P1.elim
end
end PyI

end
section
set_option autoImplicit false
/-! PyH: x[k] = v; while; what is walked; for. -/
namespace PyI
open PySem PySem.Spec PyProof.Rows L2 RZ RT

section
variable {K : PySem.W.Frag} {H0 : Bs} {h : Nat → Bool} {σ : L2.St} {F : Addr → Prop} {H : Hp} {env : Nv} {v : V} {d : D} {a : Addr}
/-! ### an own cell is written -/
/-- the cell of slot k is c' now -/
theorem Sim.write {k : Nat} {c c' : Cell} {o : HO} (S : Sim K H0 F H σ env) (he : env[k]? = some (.own c)) (hs : σ[k]? = some (some (.ref a))) (hc : CellAt K F (upd H a o) a c') (hh : h k = true) :
    Stp K H0 σ h F H env F (upd H a o) (env.set k (.own c')) := by
  have hO : Own σ env a := ⟨k, c, he, hs⟩
  have hk : k < env.length := (List.getElem?_eq_some_iff.mp he).1
  have g : Go (Own σ env) F H F (upd H a o) := ⟨fun b x e n => by
      have hb : b ≠ a := fun z => n (z ▸ hO)
      rw [upd_ne hb]; exact e, fun b e z => by
      by_cases hb : b = a
      · subst hb; rw [upd_same] at z; cases z
      · rw [upd_ne hb] at z; exact e z, fun _ z => z, fun _ z => .inl z, fun q b z y => by
      by_cases hb : b = a
      · subst hb; rw [upd_same] at y; cases y
      · rw [upd_ne hb] at y; exact q b z y⟩
  have nF : ¬ F a := (S.ok a hO).1
  refine ⟨⟨by simp [S.len], fun i d e => ?_, fun i c1 e => ?_, fun i j c1 c2 b e1 e2 e3 e4 => ?_, fun b z => ?_, fun b z => g.fro S.fro b z⟩, g, fun i => ?_, fun j hj => ?_⟩
  · rw [get_set] at e
    split at e
    · cases e
    · obtain ⟨w, h1, h2⟩ := S.val i d e
      exact ⟨w, h1, h2.go g S.ok⟩
  · rw [get_set] at e
    split at e
    · rename_i hij
      cases e
      obtain ⟨rfl, _⟩ := hij
      obtain ⟨b, h1, _, _, h4⟩ := S.own k c he
      rw [hs] at h1; cases h1
      exact ⟨a, hs, hc, nF, h4⟩
    · rename_i hij
      obtain ⟨b, h1, h2, h3, h4⟩ := S.own i c1 e
      have hi : i < env.length := (List.getElem?_eq_some_iff.mp e).1
      have hb : b ≠ a := fun z => by
        subst z
        exact hij ⟨S.sep k i c c1 b he e hs h1, hi⟩
      refine ⟨b, h1, ?_, h3, h4⟩
      cases c1 with
      | lst ds => obtain ⟨xs, e, r⟩ := h2; exact ⟨xs, by rw [upd_ne hb]; exact e, r.go g S.ok⟩
      | dK kvs => obtain ⟨vs, e, q, r⟩ := h2; exact ⟨vs, by rw [upd_ne hb]; exact e, q, r.go g S.ok⟩
      | dT kvs => obtain ⟨vs, e, q, r⟩ := h2; exact ⟨vs, by rw [upd_ne hb]; exact e, q, r.go g S.ok⟩
  · have f : ∀ (i : Nat) (c1 : Cell), (env.set k (Slot.own c'))[i]? = some (Slot.own c1) → ∃ c2, env[i]? = some (Slot.own c2) := fun i c1 e => by
      rw [get_set] at e
      split at e
      · rename_i hij; exact ⟨c, by rw [← hij.1]; exact he⟩
      · exact ⟨c1, e⟩
    obtain ⟨c3, e5⟩ := f i c1 e1
    obtain ⟨c4, e6⟩ := f j c2 e2
    exact S.sep i j c3 c4 b e5 e6 e3 e4
  · by_cases hb : b = a
    · subst hb; rw [upd_same] at z; cases z
    · rw [upd_ne hb] at z; exact S.old b z
  · rw [get_set]
    split
    · rename_i hij
      constructor
      · rintro _; exact ⟨c, by rw [← hij.1]; exact he⟩
      · rintro _; exact ⟨c', rfl⟩
    · exact Iff.rfl
  · have hkj : k ≠ j := fun z => by subst z; rw [hh] at hj; cases hj
    rw [List.getElem?_set_ne hkj]
theorem map_fst_put {κ : Type} [DecidableEq κ] (k : κ) (v : V) : ∀ (vs : List (κ × V)), (vs.map fun kv => if kv.1 = k then (kv.1, v) else kv).map (·.1) = vs.map (·.1)
  | [] => rfl
  | p :: r => by
    rw [List.map_cons, List.map_cons, List.map_cons, map_fst_put k v r]
    by_cases e : p.1 = k <;> simp [e]
theorem map_fst_putD {κ : Type} [DecidableEq κ] (k : κ) (v : D) : ∀ (vs : List (κ × D)), (vs.map fun kv => if kv.1 = k then (kv.1, v) else kv).map (·.1) = vs.map (·.1)
  | [] => rfl
  | p :: r => by
    rw [List.map_cons, List.map_cons, List.map_cons, map_fst_putD k v r]
    by_cases e : p.1 = k <;> simp [e]
theorem put_vals {κ : Type} [DecidableEq κ] {k : κ} (r : Rep K F H v d) : ∀ {vs : List (κ × V)} {kvs : List (κ × D)}, vs.map (·.1) = kvs.map (·.1) → RepL K F H (vs.map (·.2)) (kvs.map (·.2)) →
    RepL K F H ((vs.map fun kv => if kv.1 = k then (kv.1, v) else kv).map (·.2)) ((kvs.map fun kv => if kv.1 = k then (kv.1, d) else kv).map (·.2))
  | [], [], _, _ => .nil
  | [], _ :: _, e, _ => by cases e
  | _ :: _, [], e, _ => by cases e
  | p :: vs, q :: kvs, e, .cons t u => by
    have e1 : p.1 = q.1 := (List.cons.inj e).1
    have ih := put_vals (k := k) r (List.cons.inj e).2 u
    by_cases h1 : p.1 = k
    · have h2 : q.1 = k := e1 ▸ h1
      simp only [List.map_cons, if_pos h1, if_pos h2]
      exact .cons r ih
    · have h2 : ¬ q.1 = k := e1 ▸ h1
      simp only [List.map_cons, if_neg h1, if_neg h2]
      exact .cons t ih
theorem look_some {κ : Type} [DecidableEq κ] (k : κ) : ∀ {vs : List (κ × V)} {kvs : List (κ × D)}, vs.map (·.1) = kvs.map (·.1) → (vs.any fun kv => decide (kv.1 = k)) = (dlook kvs k).isSome
  | [], [], _ => rfl
  | [], _ :: _, e => by cases e
  | _ :: _, [], e => by cases e
  | p :: vs, (q, x) :: kvs, e => by
    have e1 : p.1 = q := (List.cons.inj e).1
    have ih := look_some k (List.cons.inj e).2
    rw [List.any_cons, ih]
    show _ = (if q = k then some x else dlook kvs k).isSome
    by_cases h1 : p.1 = k
    · have h2 : q = k := e1 ▸ h1
      simp [h1, h2]
    · have h2 : ¬ q = k := e1 ▸ h1
      simp [h1, h2]
theorem putK_rep {κ : Type} [DecidableEq κ] {k : κ} {vs : List (κ × V)} {kvs : List (κ × D)} (r : Rep K F H v d) (e : vs.map (·.1) = kvs.map (·.1)) (t : RepL K F H (vs.map (·.2)) (kvs.map (·.2))) :
    (putK vs k v).map (·.1) = (dput kvs k d).map (·.1) ∧ RepL K F H ((putK vs k v).map (·.2)) ((dput kvs k d).map (·.2)) := by
  unfold putK dput
  rw [look_some k e]
  cases hq : (dlook kvs k).isSome with
  | true =>
    simp only [if_true]
    exact ⟨by rw [map_fst_put, map_fst_putD, e], put_vals r e t⟩
  | false =>
    simp only [Bool.false_eq_true, if_false, List.map_append, List.map_cons, List.map_nil]
    exact ⟨by rw [e], t.append (.cons r .nil)⟩
end

section
variable {X : Cx} {G : Gc} {i ia ib ic il ih : I} {e a b c : Expr} {es : List Expr} {pos : Pos} {sts : List Stmt} {st : Stmt}
/-- x[k] = v by values -/
def rPutD (K : PySem.W.Frag) : TSet := fun o i v H Q => ∃ F a c kd d c', o = .ref a ∧ CellAt K F H a c ∧ OwnOk (fun b => b = a) F H ∧ Rep K F H i kd ∧ Rep K F H v d ∧ c.put kd d = some c' ∧ ∀ o', CellAt K F (upd H a o') a c' → Q (upd H a o')
theorem upd_go {F : Addr → Prop} {H : Hp} {a : Addr} {o : HO} : Go (fun b => b = a) F H F (upd H a o) := ⟨fun b x e n => by rw [upd_ne n]; exact e, fun b e z => by
    by_cases hb : b = a
    · subst hb; rw [upd_same] at z; cases z
    · rw [upd_ne hb] at z; exact e z, fun _ z => z, fun _ z => .inl z, fun q b z y => by
    by_cases hb : b = a
    · subst hb; rw [upd_same] at y; cases y
    · rw [upd_ne hb] at y; exact q b z y⟩
theorem set_D (hu : X.A.units + 1 < cLine) : PSet X (rPutD X.K) := by
  intro pins s σ H o i v ov iv u Q I ro ri rv h
  obtain ⟨F, a, c, kd, d, c', rfl, hc, ok, hk, hd, e, q⟩ := h
  cases c with
  | lst ds =>
    obtain ⟨xs, ha, rl⟩ := hc
    cases kd <;> first | (cases e; done) | skip
    rename_i j
    obtain ⟨m, hm, rfl⟩ := Option.map_eq_some_iff.mp (show (ixN ds.length j).map _ = some c' from e)
    cases hk
    refine set_list pins s σ H _ _ v ov iv u Q I ro ri rv ⟨a, xs, j, m, rfl, rfl, ha, by rw [rl.length]; exact hm, q _ ⟨_, upd_same, ?_⟩⟩
    exact (RepL.set hd m rl).go upd_go ok
  | dK kvs =>
    obtain ⟨vs, ha, hv, rl⟩ := hc
    obtain ⟨k, hk1, e⟩ := Option.bind_eq_some_iff.mp (show kd.key.bind _ = some c' from e)
    split at e
    · rename_i hz
      cases e
      have e1 := key_rep (.inl hk) hk1
      subst e1
      have hl : vs.length = kvs.length := by have := congrArg List.length hv; simpa using this
      refine set_dict hu pins s σ H _ _ v ov iv u Q I ro ri rv ⟨a, _, rfl, DPut.k ha (by rw [hl, sizeLine_16]; exact hz), q _ ⟨_, upd_same, ?_⟩⟩
      have z := putK_rep (k := k) hd hv rl
      exact ⟨z.1, z.2.go upd_go ok⟩
    · cases e
  | dT kvs =>
    obtain ⟨vs, ha, hv, rl⟩ := hc
    obtain ⟨k, hk1, e⟩ := Option.bind_eq_some_iff.mp (show kd.keyT.bind _ = some c' from e)
    split at e
    · rename_i hz
      cases e
      obtain ⟨b, rfl, hb⟩ := keyT_rep (.inl hk) hk1
      have hl : vs.length = kvs.length := by have := congrArg List.length hv; simpa using this
      refine set_dict hu pins s σ H _ _ v ov iv u Q I ro ri rv ⟨a, _, rfl, DPut.t ha hb (by rw [hl, sizeLine_16]; exact hz), q _ ⟨_, upd_same, ?_⟩⟩
      have z := putK_rep (k := k) hd hv rl
      exact ⟨z.1, z.2.go upd_go ok⟩
    · cases e
theorem te_var {k : Nat} {c : Cell} {F : Addr → Prop} {H : Hp} {σ : L2.St} {env : Nv} {Q : VK} (S : Sim X.K G.H0 F H σ env) (he : env[k]? = some (.own c)) (q : ∀ a F' H', σ[k]? = some (some (.ref a)) → Stp X.K G.H0 σ (fun j => (I.var k).hits j) F H env F' H' env → Q (.ref a) H') : TE X.K G (.var k) σ H Q := by
  refine ⟨F, env, S, ?_⟩
  have e : evE G.cx (.var k) env = .ok (.ref k, env) := by rw [evE, he]
  rw [e]
  intro F' v H' s r
  obtain ⟨a, c', rfl, h1, _⟩ := r
  exact q a F' H' h1 s
theorem noRef_one {r : Res} {ds : List D} (e : noRef [r] = some ds) : ∃ d, ds = [d] := by
  cases r with
  | val d => cases e; exact ⟨_, rfl⟩
  | new c => cases e; exact ⟨_, rfl⟩
  | ref i => cases e
theorem ss_put {k : Nat} {x : Str} {p p2 : Pos} (hu : X.A.units + 1 < cLine) (hx : SE X G (.Name x p) (.var k)) (ha : SE X G a ia) (hb : SE X G b ib) (hs : swapsWith b (some (.Subscript (.Name x p) a p2)) pos.line X.env = pure false) (hw : swappedStores [.Subscript (.Name x p) a p2] b X.env = pure none)
    (hsub : ∀ v, assign (.Subscript (.Name x p) a p2) X.env v = (do
      let ov ← holding [v] (eval (.Name x p) X.env)
      let iv ← holding [v, ov] (eval a X.env)
      standAt p2
      holding [v, ov, iv] (setItem ov iv v)
      release [v, ov, iv] [])) (h1 : (assignEach [.Subscript (.Name x p) a p2] X.env).map (·.2) = [assign (.Subscript (.Name x p) a p2) X.env]) :
    PS X (.Assign [.Subscript (.Name x p) a p2] b pos) (TS X.K G (.put k ia ib)) := imp_ps (ps_asg hb.pe (pg_sub hx.pe ha.pe (set_D hu) hsub) hs hw h1) fun E σ H ⟨F, env, S, P⟩ => by
  rw [evS] at P
  refine ⟨F, env, S, P.ex0 (fun j hj => or_r hj) fun r env1 F1 v H1 _ P1 s1 q1 => ?_⟩
  obtain ⟨ds, hds, P1⟩ := P1.of
  obtain ⟨d, rfl⟩ := noRef_one hds
  obtain ⟨F2, s2, up, r2⟩ := freeze S s1 (.cons q1 .nil) hds
  have r2 : Rep X.K F2 H1 v d := by cases r2 with | cons r _ => exact r
  cases he : env1[k]? with
  | none => simp only [he] at P1; exact P1.elim
  | some sl =>
  cases sl with
  | emp => simp only [he] at P1; exact P1.elim
  | val _ => simp only [he] at P1; exact P1.elim
  | own c0 =>
  simp only [he] at P1
  have P2 := P1.shift (s2.s.weak fun j hj => or_r hj)
  -- the key
  have key : ∀ a0 F' H', σ[k]? = some (some (V.ref a0)) → Stp X.K G.H0 σ (fun j => (I.var k).hits j) F2 H1 env1 F' H' env1 →
      TE X.K G ia σ H' fun iv H3 => rPutD X.K (.ref a0) iv v H3 fun H4 => E.nx σ H4 := fun a0 F' H' hs s3 => by
    have P3 := P2.shift (s3.s.weak fun j hj => rfl)
    refine ⟨F', env1, s3.sim, P3.ex (fun j hj => or_r (or_l hj)) fun rk env4 F4 w H4 _ P4 s4 q4 => ?_⟩
    cases rk with
    | val kd =>
      cases he4 : env4[k]? with
      | none => simp only [he4] at P4; exact P4.elim
      | some sl =>
        simp only [he4] at P4
        cases sl with
        | emp => exact P4.elim
        | val _ => exact P4.elim
        | own c =>
          obtain ⟨c', hc', P4⟩ := PostS.of P4
          obtain ⟨b0, g1, g2, g3, g4⟩ := s4.sim.own k c he4
          rw [hs] at g1; cases g1
          have r4 : Rep X.K F4 H4 v d := Rep.go s4.go s3.sim.ok (Rep.go s3.go s2.sim.ok r2)
          refine ⟨F4, a0, c, kd, d, c', rfl, g2, fun b z => ?_, q4, r4, hc', fun o' ho' => ?_⟩
          · subst z; exact ⟨g3, g2.is⟩
          · exact P4 σ F4 _ ((s4.sim.write (h := fun j => (I.put k ia ib).hits j) he4 hs ho' (by simp [I.hits])).s)
    | _ => exact P4.elim
  exact te_var s2.sim he key
end
end PyI

end
section
set_option autoImplicit false
/-! PyZ: zip of two sequences, each a list or a tuple. -/
namespace PyI
open PySem PySem.Spec PyProof.Rows L2 RZ RT
open PySem.Sem (wp)
/-- an iterator of a list (false) or of a tuple (true) -/
def KI (t : Bool) (h : Heap) (it l : Addr) (i : Nat) : Prop := match t with
  | true => h.IsTupleIter it l i
  | false => h.IsListIter it l i
/-- the sequence itself -/
def KQ (t : Bool) (h : Heap) (l : Addr) (its : Array Value) : Prop := match t with
  | true => h.IsTuple l its
  | false => h.IsList l its
section
variable {t : Bool} {h h' : Heap} {it l b : Addr} {i : Nat} {its : Array Value}
theorem KI.ext (x : KI t h it l i) (k : Heap.ExtBut b h h') (ne : it ≠ b) : KI t h' it l i := by
  cases t
  · exact Heap.IsListIter.extBut x k ne
  · exact Heap.IsTupleIter.extBut x k ne
theorem KI.at' (x : KI t h it l i) (k : ∀ o, h.get? it = some o → h'.get? it = some o) : KI t h' it l i := by
  cases t
  · exact Heap.IsListIter.at x k
  · exact Heap.IsTupleIter.at x k
theorem KI.lt (x : KI t h it l i) : it < h.objs.size := by
  cases t <;> obtain ⟨_, e, _⟩ := x <;> exact Heap.lt_size e
theorem KI.obj (x : KI t h it l i) : ∃ o, h.get? it = some o ∧ ∀ v, o.data ≠ .cell v := by
  cases t <;> obtain ⟨o, e, _, d⟩ := x <;> exact ⟨o, e, fun v z => by rw [d] at z; cases z⟩
theorem KQ.ext (x : KQ t h l its) (k : Heap.ExtBut b h h') (ne : l ≠ b) : KQ t h' l its := by
  cases t
  · exact Heap.IsList.extBut x k ne
  · exact Heap.IsTuple.extBut x k ne
theorem KQ.push (x : KQ t h l its) (o : Obj) : KQ t (h.push o) l its := by
  cases t
  · exact Heap.IsList.push x o
  · exact Heap.IsTuple.push x o
end
section
variable {w : World} {prog : Program} {s : Shared} {A : Around} {E : Value → Shared → Prop}
theorem kn_item {t : Bool} {it l : Addr} {i : Nat} {its : Array Value} {x : Value} {Q : Value → Shared → Prop} (a : KI t s.heap it l i) (b : KQ t s.heap l its) (e : its[i]? = some x)
    (k : ∀ h', KI t h' it l (i + 1) → Heap.SameBut it s.heap h' → Q x { s with heap := h' }) : wpAny (model prog w) A (Builtin.SmallTypes.nextOf (.ref it)) Q E s := by
  cases t
  · exact wpAny_nextOf_list_item a b e k
  · exact nextOf_tuple_item a b e k
theorem kn_end {t : Bool} {it l : Addr} {i : Nat} {its : Array Value} {Q : Value → Shared → Prop} (hn : A.handled = none) (a : KI t s.heap it l i) (b : KQ t s.heap l its) (e : its[i]? = none)
    (k : ∀ h' e, Heap.ExtBut it s.heap h' → (∃ o, h'.get? e = some o ∧ o.cls = .type "StopIteration") → E (.ref e) { s with heap := h' }) : wpAny (model prog w) A (Builtin.SmallTypes.nextOf (.ref it)) Q E s := by
  cases t
  · exact wpAny_nextOf_list_end hn a b e k
  · exact nextOf_tuple_end hn a b e k
/-- the iterator that is made of it -/
def itOb (t : Bool) (l : Addr) : Obj := { cls := .type (if t then "tuple_iterator" else "list_iterator"), data := .fields #[.ref l, .int 0 0] }
theorem kn_iter {t : Bool} {l : Addr} {its : Array Value} {Q : Value → Shared → Prop} (b : KQ t s.heap l its) (k : Q (.ref s.heap.objs.size) { s with heap := s.heap.push (itOb t l) }) : wpAny (model prog w) A (pyIter (.ref l)) Q E s := by
  cases t
  · exact wpAny_pyIter_list b k
  · exact wpAny_pyIter_tuple b k
variable {t1 t2 : Bool} {q u v m n c d : Addr} {i j : Nat} {xs ys : Array Value} {a0 b0 : Value}
/-- what is left as it was: all but the zip, its pair and the iterators -/
def Kept4 (q v m n : Addr) (h h' : Heap) : Prop := ∀ g o, g ≠ q → g ≠ v → g ≠ m → g ≠ n → h.get? g = some o → h'.get? g = some o
theorem zz_item {x y : Value} {Q : Value → Shared → Prop} (ap : ZipApart q u v m n c d) (oz : IsZip s.heap q u v .none) (ou : IsPair s.heap u (.ref m) (.ref n)) (ov : IsPair s.heap v a0 b0)
    (im : KI t1 s.heap m c i) (jn : KI t2 s.heap n d j) (sc : KQ t1 s.heap c xs) (sd : KQ t2 s.heap d ys) (ex : xs[i]? = some x) (ey : ys[j]? = some y)
    (fin : ∀ h', IsZip h' q u v (rawInt s.heap.objs.size) → IsPair h' v x y → KI t1 h' m c (i + 1) → KI t2 h' n d (j + 1) → IsPair h' s.heap.objs.size x y → h'.objs.size = s.heap.objs.size + 1 →
      Kept4 q v m n s.heap h' → Q (.ref s.heap.objs.size) { s with heap := h' }) :
    wpAny (model prog w) A (Builtin.«zip.__next__» ⟨[.ref q], []⟩) (fun fn s' => ∃ r, fn = .done (.ret r) ∧ Q r s') E s := by
  show wpAny _ _ (field (.ref q) 2 >>= _) _ _ _
  refine wpAny_bind (wpAny_field oz rfl (x := .bool false) rfl ?_)
  show wpAny _ _ (field (.ref q) 3 >>= _) _ _ _
  refine wpAny_bind (wpAny_field oz rfl (x := .ref u) rfl ?_)
  refine wpAny_bind (wpAny_seqItems ou rfl ?_)
  show wpAny _ _ (Builtin.SmallTypes.ownedTupleIsFree (.ref q) >>= _) _ _ _
  refine wpAny_bind ?_; unfold Builtin.SmallTypes.ownedTupleIsFree
  refine wpAny_bind (wpAny_field oz rfl (x := .none) rfl (wpAny_pure ?_))
  simp only [if_true]
  refine wpAny_bind (wpAny_rule (wpAny_bind (wpAny_field oz rfl (x := .ref v) rfl ?_)))
  refine wpAny_bind (wpAny_setField_rec oz (by simp) fun g1 z1 k1 => ?_)
  replace z1 : IsZip g1 q u v .ellipsis := z1
  refine wpAny_bind ?_; simp only [List.forIn_cons, List.forIn_nil, List.zipIdx_cons, List.zipIdx_nil]
  refine wpAny_bind (wpAny_bind (wpAny_onRaise ?_)); show wpAny _ _ (Builtin.SmallTypes.nextOf (.ref m) >>= _) _ _ _
  refine wpAny_bind (kn_item (im.ext k1.extBut ap.i1z) (sc.ext k1.extBut ap.l1z) ex fun g2 im2 k2 => wpAny_pure ?_)
  have ov2 : IsPair g2 v a0 b0 := k2.extBut _ _ ap.TOi1 (k1.extBut _ _ ap.TOz ov)
  refine wpAny_bind (wpAny_seqItems ov2 rfl ?_)
  refine wpAny_bind (wpAny_updateSeq_pair ov2 fun g3 ov3 k3 => ?_)
  replace ov3 : IsPair g3 v x b0 := ov3
  refine wpAny_bind (wpAny_letGo (wpAny_pure (wpAny_bind (wpAny_bind (wpAny_onRaise ?_))))); show wpAny _ _ (Builtin.SmallTypes.nextOf (.ref n) >>= _) _ _ _
  have jn3 := ((jn.ext k1.extBut ap.i2z).ext k2.extBut ap.i12.symm).ext k3.extBut ap.TOi2.symm
  have sd3 := ((sd.ext k1.extBut ap.l2z).ext k2.extBut ap.l2i1).ext k3.extBut ap.l2TO
  refine wpAny_bind (kn_item jn3 sd3 ey fun g4 jn4 k4 => wpAny_pure ?_)
  have ov4 : IsPair g4 v x b0 := k4.extBut _ _ ap.TOi2 ov3
  refine wpAny_bind (wpAny_seqItems ov4 rfl ?_)
  refine wpAny_bind (wpAny_updateSeq_pair ov4 fun g5 ov5 k5 => ?_)
  replace ov5 : IsPair g5 v x y := ov5
  refine wpAny_bind (wpAny_letGo (wpAny_pure (wpAny_pure (wpAny_bind (wpAny_seqItems ov5 rfl (wpAny_bind (wpAny_newTuple ?_)))))))
  have size5 : g5.objs.size = s.heap.objs.size := by rw [k5.1, k4.1, k3.1, k2.1, k1.1]
  have z5 : IsZip g5 q u v .ellipsis := k5.extBut _ _ ap.TOz.symm (k4.extBut _ _ ap.i2z.symm (k3.extBut _ _ ap.TOz.symm (k2.extBut _ _ ap.i1z.symm z1)))
  have kept : Kept4 q v m n s.heap g5 := fun g o n1 n2 n3 n4 e => k5.extBut _ _ n2 (k4.extBut _ _ n4 (k3.extBut _ _ n2 (k2.extBut _ _ n3 (k1.extBut _ _ n1 e))))
  have im5 := ((im2.ext k3.extBut ap.TOi1.symm).ext k4.extBut ap.i12).ext k5.extBut ap.TOi1.symm
  have jn5 := jn4.ext k5.extBut ap.TOi2.symm
  have below : q < g5.objs.size := Heap.lt_size z5
  show wpAny _ _ (Builtin.SmallTypes.ownedTupleHandOut (.ref q) (.ref g5.objs.size) >>= _) _ _ _
  refine wpAny_bind ?_; unfold Builtin.SmallTypes.ownedTupleHandOut
  have z6 : IsZip (g5.push { cls := .type "tuple", data := .seq #[x, y] }) q u v .ellipsis := Heap.get?_push_of_some _ z5
  refine wpAny_bind (wpAny_setField_rec z6 (by simp) fun g7 z7 k7 => ?_)
  replace z7 : IsZip g7 q u v (rawInt g5.objs.size) := z7
  refine wpAny_setField_rec z7 (by simp) fun g8 z8 k8 => ?_
  replace z8 : IsZip g8 q u v (rawInt g5.objs.size) := z8
  have up : ∀ g o, g ≠ q → g5.get? g = some o → g8.get? g = some o := fun g o n1 e => k8.extBut _ _ n1 (k7.extBut _ _ n1 (Heap.get?_push_of_some _ e))
  have pair8 : IsPair g8 g5.objs.size x y := k8.extBut _ _ (Nat.ne_of_gt below) (k7.extBut _ _ (Nat.ne_of_gt below) (Heap.get?_push_size _ rfl))
  have size8 : g8.objs.size = g5.objs.size + 1 := by rw [k8.1, k7.1, Heap.size_push]
  rw [size5] at z8 pair8 size8
  refine wpAny_pure ⟨_, rfl, ?_⟩; show Q (.ref g5.objs.size) _
  rw [size5]
  exact fin g8 z8 (up _ _ ap.TOz ov5) (im5.at' fun o e => up _ o ap.i1z e) (jn5.at' fun o e => up _ o ap.i2z e) pair8 size8 fun g o n1 n2 n3 n4 e => up g o n1 (kept g o n1 n2 n3 n4 e)
theorem zz_end {Q : Fin → Shared → Prop} (hn : A.handled = none) (ap : ZipApart q u v m n c d) (oz : IsZip s.heap q u v .none) (ou : IsPair s.heap u (.ref m) (.ref n)) (ov : IsPair s.heap v a0 b0)
    (im : KI t1 s.heap m c i) (jn : KI t2 s.heap n d j) (sc : KQ t1 s.heap c xs) (sd : KQ t2 s.heap d ys) (stop : xs[i]? = none ∨ ys[j]? = none)
    (fin : ∀ h' e, Kept4 q v m n s.heap h' → (∃ o, h'.get? e = some o ∧ o.cls = .type "StopIteration") → E (.ref e) { s with heap := h' }) :
    wpAny (model prog w) A (Builtin.«zip.__next__» ⟨[.ref q], []⟩) Q E s := by
  show wpAny _ _ (field (.ref q) 2 >>= _) _ _ _
  refine wpAny_bind (wpAny_field oz rfl (x := .bool false) rfl ?_)
  show wpAny _ _ (field (.ref q) 3 >>= _) _ _ _
  refine wpAny_bind (wpAny_field oz rfl (x := .ref u) rfl ?_)
  refine wpAny_bind (wpAny_seqItems ou rfl ?_)
  show wpAny _ _ (Builtin.SmallTypes.ownedTupleIsFree (.ref q) >>= _) _ _ _
  refine wpAny_bind ?_; unfold Builtin.SmallTypes.ownedTupleIsFree
  refine wpAny_bind (wpAny_field oz rfl (x := .none) rfl (wpAny_pure ?_))
  simp only [if_true]
  refine wpAny_bind (wpAny_rule (wpAny_bind (wpAny_field oz rfl (x := .ref v) rfl ?_)))
  refine wpAny_bind (wpAny_setField_rec oz (by simp) fun g1 z1 k1 => ?_)
  replace z1 : IsZip g1 q u v .ellipsis := z1
  refine wpAny_bind ?_; simp only [List.forIn_cons, List.forIn_nil, List.zipIdx_cons, List.zipIdx_nil]
  refine wpAny_bind (wpAny_bind (wpAny_onRaise ?_)); show wpAny _ _ (Builtin.SmallTypes.nextOf (.ref m) >>= _) _ _ _
  have apart : ∀ {g : Heap} {e : Addr} {oe : Obj}, IsZip g q u v .ellipsis → g.get? e = some oe → oe.cls = .type "StopIteration" → e ≠ q := fun zg he ce z => by
    subst z; rw [zg] at he; cases he; simp at ce
  cases ex : xs[i]? with
  | none =>
    refine wpAny_bind (kn_end hn (im.ext k1.extBut ap.i1z) (sc.ext k1.extBut ap.l1z) ex fun g2 e k2 he => ?_)
    obtain ⟨oe, he, ce⟩ := he
    have z2 : IsZip g2 q u v .ellipsis := k2 _ _ ap.i1z.symm z1
    refine wpAny_setField_rec z2 (by simp) fun g3 _ k3 => fin g3 e (fun g o n1 _ n3 _ x => k3.extBut _ _ n1 (k2 _ _ n3 (k1.extBut _ _ n1 x))) ⟨oe, k3.extBut _ _ (apart z2 he ce) he, ce⟩
  | some x =>
    have ey : ys[j]? = none := by rcases stop with z | z; rw [ex] at z; cases z; exact z
    refine wpAny_bind (kn_item (im.ext k1.extBut ap.i1z) (sc.ext k1.extBut ap.l1z) ex fun g2 im2 k2 => wpAny_pure ?_)
    have ov2 : IsPair g2 v a0 b0 := k2.extBut _ _ ap.TOi1 (k1.extBut _ _ ap.TOz ov)
    refine wpAny_bind (wpAny_seqItems ov2 rfl ?_)
    refine wpAny_bind (wpAny_updateSeq_pair ov2 fun g3 ov3 k3 => ?_)
    refine wpAny_bind (wpAny_letGo (wpAny_pure (wpAny_bind (wpAny_bind (wpAny_onRaise ?_))))); show wpAny _ _ (Builtin.SmallTypes.nextOf (.ref n) >>= _) _ _ _
    have jn3 := ((jn.ext k1.extBut ap.i2z).ext k2.extBut ap.i12.symm).ext k3.extBut ap.TOi2.symm
    have sd3 := ((sd.ext k1.extBut ap.l2z).ext k2.extBut ap.l2i1).ext k3.extBut ap.l2TO
    refine wpAny_bind (kn_end hn jn3 sd3 ey fun g4 e k4 he => ?_)
    obtain ⟨oe, he, ce⟩ := he
    have z4 : IsZip g4 q u v .ellipsis := k4 _ _ ap.i2z.symm (k3.extBut _ _ ap.TOz.symm (k2.extBut _ _ ap.i1z.symm z1))
    refine wpAny_setField_rec z4 (by simp) fun g5 _ k5 => fin g5 e (fun g o n1 n2 n3 n4 x => k5.extBut _ _ n1 (k4 _ _ n4 (k3.extBut _ _ n2 (k2.extBut _ _ n3 (k1.extBut _ _ n1 x))))) ⟨oe, k5.extBut _ _ (apart z4 he ce) he, ce⟩
theorem zz_next {x y : Value} {Q : Option Value → Shared → Prop} (ap : ZipApart q u v m n c d) (oz : IsZip s.heap q u v .none) (ou : IsPair s.heap u (.ref m) (.ref n)) (ov : IsPair s.heap v a0 b0)
    (im : KI t1 s.heap m c i) (jn : KI t2 s.heap n d j) (sc : KQ t1 s.heap c xs) (sd : KQ t2 s.heap d ys) (ex : xs[i]? = some x) (ey : ys[j]? = some y)
    (fin : ∀ h', IsZip h' q u v (rawInt s.heap.objs.size) → IsPair h' v x y → KI t1 h' m c (i + 1) → KI t2 h' n d (j + 1) → IsPair h' s.heap.objs.size x y → h'.objs.size = s.heap.objs.size + 1 →
      Kept4 q v m n s.heap h' → Q (some (.ref s.heap.objs.size)) { s with heap := h' }) :
    wpAny (model prog w) A (pyNext (.ref q)) Q E s := by
  have ty : s.TypeIs (.ref q) "zip" := ⟨_, oz, rfl⟩
  unfold pyNext
  exact wpAny_bind (wpAny_attempt (wpAny_callSpecial?_slot (name := Str.ofString "__next__") ty F.slot_zip_next (wpAny_call_entry F.slot_zip_next ty F.entry_zip_next
      (zz_item ap oz ou ov im jn sc sd ex ey fun h' r1 r2 r3 r4 r5 r6 r7 => wpAny_pure (fin h' r1 r2 r3 r4 r5 r6 r7)) (F.args_zip_next_1 _))))
theorem zz_last {Q : Option Value → Shared → Prop} (hn : A.handled = none) (ap : ZipApart q u v m n c d) (oz : IsZip s.heap q u v .none) (ou : IsPair s.heap u (.ref m) (.ref n)) (ov : IsPair s.heap v a0 b0)
    (im : KI t1 s.heap m c i) (jn : KI t2 s.heap n d j) (sc : KQ t1 s.heap c xs) (sd : KQ t2 s.heap d ys) (stop : xs[i]? = none ∨ ys[j]? = none)
    (fin : ∀ h', Kept4 q v m n s.heap h' → Q none { s with heap := h' }) : wpAny (model prog w) A (pyNext (.ref q)) Q E s := by
  have ty : s.TypeIs (.ref q) "zip" := ⟨_, oz, rfl⟩
  unfold pyNext
  refine wpAny_bind (wpAny_attempt (wpAny_callSpecial?_slot (name := Str.ofString "__next__") ty F.slot_zip_next (wpAny_call_entry F.slot_zip_next ty F.entry_zip_next
      (zz_end hn ap oz ou ov im jn sc sd stop fun h' e kp he => ?_) (F.args_zip_next_1 _))))
  obtain ⟨o, ho, ce⟩ := he
  exact wpAny_bind (wpAny_isInstance (T := "StopIteration") (b := true) ⟨o, ho, ce⟩ isSubtype_stop (wpAny_pure (fin _ kp)))
end
/-! the zip made -/
abbrev zzH2 (t1 t2 : Bool) (h : Heap) (c d : Addr) : Heap := (h.push (itOb t1 c)).push (itOb t2 d)
abbrev zzH4 (t1 t2 : Bool) (h : Heap) (c d : Addr) : Heap :=
  ((zzH2 t1 t2 h c d).push { cls := .type "tuple", data := .seq #[.ref h.objs.size, .ref (h.push (itOb t1 c)).objs.size] }).push { cls := .type "tuple", data := .seq #[.none, .none] }
abbrev zzH5 (t1 t2 : Bool) (h : Heap) (c d : Addr) : Heap := (zzH4 t1 t2 h c d).push { cls := .type "zip", data := .fields #[.none, .bool false, .bool false, .ref (zzH2 t1 t2 h c d).objs.size,
  .ref ((zzH2 t1 t2 h c d).push { cls := .type "tuple", data := .seq #[.ref h.objs.size, .ref (h.push (itOb t1 c)).objs.size] }).objs.size] }
theorem zz_new (t1 t2 : Bool) (c d : Addr) (xs ys : Array Value) : Meets (Builtin.«zip.__new__» ⟨[.type "zip", .ref c, .ref d], []⟩) (fun _ R s => KQ t1 s.heap c xs ∧ KQ t2 s.heap d ys ∧
      R (.ok (.ret (.ref (zzH4 t1 t2 s.heap c d).objs.size))) { s with heap := zzH5 t1 t2 s.heap c d }) :=
  .of_wp fun prog w A R st h => by
    obtain ⟨hp, g, dd, tk, os⟩ := st; obtain ⟨sc, sd, h⟩ := h
    have hsub := sub_zip
    have s1 : KQ t1 (Shared.heap ⟨hp, g, dd, tk, os⟩) c xs := sc
    have s2 : KQ t2 (Shared.heap ⟨hp.push (itOb t1 c), g, dd, tk, os⟩) d ys := KQ.push sd _
    wp_walk using kn_iter s1, kn_iter s2
    exact ⟨_, rfl, h⟩
section
variable {w : World} {prog : Program} {s : Shared} {A : Around} {E : Value → Shared → Prop}
theorem zz_call {t1 t2 : Bool} {c d : Addr} {xs ys : Array Value} {Q : Value → Shared → Prop} (sc : KQ t1 s.heap c xs) (sd : KQ t2 s.heap d ys)
    (fin : ∀ h', IsZip h' (s.heap.objs.size + 4) (s.heap.objs.size + 2) (s.heap.objs.size + 3) .none → IsPair h' (s.heap.objs.size + 2) (.ref s.heap.objs.size) (.ref (s.heap.objs.size + 1)) →
      IsPair h' (s.heap.objs.size + 3) .none .none → KI t1 h' s.heap.objs.size c 0 → KI t2 h' (s.heap.objs.size + 1) d 0 → (∀ g o, s.heap.get? g = some o → h'.get? g = some o) →
      Q (.ref (s.heap.objs.size + 4)) { s with heap := h' }) : wpAny (model prog w) A (call (.type "zip") [.ref c, .ref d]) Q E s := by
  refine callType_new F.called_zip (by decide) (F.typeCall_zip_2 _ _) (F.newCall_zip_2 _ _) (fun ob => F.args_object_init_3 ob _ _) F.entry_zip_new (zz_new t1 t2 c d xs ys) ⟨sc, sd, ?_⟩
  have n1 : (s.heap.push (itOb t1 c)).objs.size = s.heap.objs.size + 1 := Heap.size_push ..
  have n2 : (zzH2 t1 t2 s.heap c d).objs.size = s.heap.objs.size + 2 := by rw [Heap.size_push, n1]
  have n3 : ((zzH2 t1 t2 s.heap c d).push { cls := .type "tuple", data := .seq #[.ref s.heap.objs.size, .ref (s.heap.push (itOb t1 c)).objs.size] }).objs.size = s.heap.objs.size + 3 := by rw [Heap.size_push, n2]
  have n4 : (zzH4 t1 t2 s.heap c d).objs.size = s.heap.objs.size + 4 := by rw [Heap.size_push, n3]
  have o5 : (zzH5 t1 t2 s.heap c d).get? (zzH4 t1 t2 s.heap c d).objs.size = some _ := Heap.get?_push_size _ rfl
  have o4 : (zzH5 t1 t2 s.heap c d).get? ((zzH2 t1 t2 s.heap c d).push { cls := .type "tuple", data := .seq #[.ref s.heap.objs.size, .ref (s.heap.push (itOb t1 c)).objs.size] }).objs.size = some _ := Heap.get?_push_of_some _ (Heap.get?_push_size _ rfl)
  have o3 : (zzH5 t1 t2 s.heap c d).get? (zzH2 t1 t2 s.heap c d).objs.size = some _ := Heap.get?_push_of_some _ (Heap.get?_push_of_some _ (Heap.get?_push_size _ rfl))
  have up : ∀ g o, (zzH2 t1 t2 s.heap c d).get? g = some o → (zzH5 t1 t2 s.heap c d).get? g = some o := fun g o e => Heap.get?_push_of_some _ (Heap.get?_push_of_some _ (Heap.get?_push_of_some _ e))
  have o2 : KI t2 (zzH5 t1 t2 s.heap c d) (s.heap.push (itOb t1 c)).objs.size d 0 := by
    refine KI.at' (h := zzH2 t1 t2 s.heap c d) ?_ fun o e => up _ o e
    cases t2
    · exact ⟨_, Heap.get?_push_size _ rfl, rfl, rfl⟩
    · exact ⟨_, Heap.get?_push_size _ rfl, rfl, rfl⟩
  have o1 : KI t1 (zzH5 t1 t2 s.heap c d) s.heap.objs.size c 0 := by
    refine KI.at' (h := s.heap.push (itOb t1 c)) ?_ fun o e => up _ o (Heap.get?_push_of_some _ e)
    cases t1
    · exact ⟨_, Heap.get?_push_size _ rfl, rfl, rfl⟩
    · exact ⟨_, Heap.get?_push_size _ rfl, rfl, rfl⟩
  show _ ∧ _
  rw [n2, n3, n4] at o5
  rw [n1, n2] at o3
  rw [n3] at o4
  rw [n1] at o2
  rw [n4]
  exact ⟨⟨_, o5, rfl⟩, fin _ o5 o3 o4 o1 o2 fun g o e => up g o (Heap.get?_push_of_some _ (Heap.get?_push_of_some _ e))⟩
end
/-! at the level of the walk -/
def KV (t : Bool) (K : PySem.W.Frag) (H : Hp) (a : Addr) (xs : List V) : Prop := match t with
  | true => SqT K H a xs
  | false => SqL K H a xs
theorem KV.real {t : Bool} {X : Cx} {pins : List (Addr × Obj)} {σ : L2.St} {H : Hp} {s : Shared} {a : Addr} {xs : List V} (I : L2.Inv X pins σ H s) (q : KV t X.K H a xs) : ∃ its, Vals xs its ∧ KQ t s.heap a its.toArray ∧ a < s.heap.objs.size := by
  cases t
  · obtain ⟨its, rv, p, _⟩ := I.list q
    exact ⟨its, rv, p.isList, p.lt⟩
  · obtain ⟨its, rv, p, _⟩ := I.tuple q
    obtain ⟨o, ho, _⟩ := id p
    exact ⟨its, rv, p, Heap.lt_size ho⟩
theorem KV.inj {t : Bool} {X : Cx} {pins : List (Addr × Obj)} {σ : L2.St} {H : Hp} {s : Shared} {a : Addr} {xs ys : List V} (I : L2.Inv X pins σ H s) (p : KV t X.K H a xs) (q : KV t X.K H a ys) : xs = ys := by
  cases t
  · exact I.list_inj p q
  · exact I.tuple_inj p q
def Itk (t1 t2 : Bool) (K : PySem.W.Frag) (a b : Addr) : It :=
  ⟨fun i H => ∃ (xs ys : List V) (x y : V), KV t1 K H a xs ∧ KV t2 K H b ys ∧ xs[i]? = some x ∧ ys[i]? = some y,
    fun i H v H' => ∃ T x y, v = .ref T ∧ H T = none ∧ H' = upd H T (.tup [x, y]) ∧ (∀ xs, KV t1 K H a xs → xs[i]? = some x) ∧ ∀ ys, KV t2 K H b ys → ys[i]? = some y,
    fun i H => ∃ xs ys : List V, KV t1 K H a xs ∧ KV t2 K H b ys ∧ (xs.length ≤ i ∨ ys.length ≤ i)⟩
theorem five {p : Addr → Prop} {q u v m n : Addr} (h1 : p q) (h2 : p u) (h3 : p v) (h4 : p m) (h5 : p n) : ∀ g ∈ [q, u, v, m, n], p g := fun g hg => by
  have : g = q ∨ g = u ∨ g = v ∨ g = m ∨ g = n := by simpa using hg
  rcases this with rfl | rfl | rfl | rfl | rfl <;> assumption
theorem zz_turn {t1 t2 : Bool} {P : Program} {w : World} {K : PySem.W.Frag} {elts : List Expr} {kk : Nat} {tpos : Pos} {a b q u v m n : Addr} (ap : ZipApart q u v m n a b) :
    Turn P w K (.Tuple elts kk tpos) (Itk t1 t2 K a b) [q, u, v, m, n] q (fun i h => IsZip h q u v .none ∧ IsPair h u (.ref m) (.ref n) ∧ (∃ x y, IsPair h v x y) ∧ KI t1 h m a i ∧ KI t2 h n b i) where
  mem := by simp
  obj := fun i h st => by
    obtain ⟨oz, ou, ⟨x, y, ov⟩, im, jn⟩ := st
    exact five ⟨_, oz, fun _ z => nomatch z⟩ ⟨_, ou, fun _ z => nomatch z⟩ ⟨_, ov, fun _ z => nomatch z⟩ im.obj jn.obj
  keep := fun i h h' st k => by
    obtain ⟨oz, ou, ⟨x, y, ov⟩, im, jn⟩ := st
    exact ⟨k q (by simp) _ oz, k u (by simp) _ ou, ⟨x, y, k v (by simp) _ ov⟩, im.at' fun o e => k m (by simp) o e, jn.at' fun o e => k n (by simp) o e⟩
  item := by
    intro X hP hw hK hc i pins s σ H E I hf st hg; subst hP hw hK
    obtain ⟨oz, ou, ⟨x0, y0, ov⟩, im, jn⟩ := st
    obtain ⟨xs, ys, x, y, qx, qy, hx, hy⟩ := hg
    obtain ⟨its, rv, kx, _⟩ := qx.real I
    obtain ⟨its2, rv2, ky, _⟩ := qy.real I
    obtain ⟨r, hr, rr⟩ := rv.get hx
    obtain ⟨r2, hr2, rr2⟩ := rv2.get hy
    have below : q < s.heap.objs.size := Heap.lt_size oz
    refine zz_next ap oz ou ov im jn kx ky (x := r) (y := r2) (by simpa using hr) (by simpa using hr2) fun g z' v' m' n' pair size kept => ?_
    refine ⟨_, rfl, wpAny_letOwnedTupleGo_zip (s := { s with heap := g }) z' fun g2 z2 sb => ?_⟩
    have pair2 : g2.get? s.heap.objs.size = some { cls := .type "tuple", data := .seq #[r, r2] } := (sb.2 _ (Nat.ne_of_gt below)).trans pair
    have new : ObjOk X.prog X.w (upd H s.heap.objs.size (.tup [x, y])) g2 s.heap.objs.size (.tup [x, y]) := ⟨by show 2 ≤ sizeLine; decide, [r, r2], .cons rr (.cons rr2 .nil), ⟨_, pair2, rfl, _, rfl⟩⟩
    have I1 : L2.Inv X pins σ (upd H s.heap.objs.size (.tup [x, y])) { s with heap := g2 } :=
      I.turnedNew (t' := s.toks) (ch := [q, u, v, m, n]) (fun c o hb e => (sb.2 c (fun z => hb (by simp [z]))).trans (kept c o (fun z => hb (by simp [z])) (fun z => hb (by simp [z])) (fun z => hb (by simp [z])) (fun z => hb (by simp [z])) e)) hf (Nat.le_refl _) new
    refine ⟨.ref s.heap.objs.size, _, I1, rfl, ⟨_, x, y, rfl, I.hok.fresh (Nat.le_refl _), rfl, fun l hl => by rw [KV.inj I hl qx]; exact hx, fun l hl => by rw [KV.inj I hl qy]; exact hy⟩, ⟨z2, ?_, ⟨r, r2, ?_⟩, ?_, ?_⟩, fun c hcm => ?_⟩
    · exact (sb.2 _ ap.TIz).trans (kept _ _ ap.TIz ap.TITO ap.TIi1 ap.TIi2 ou)
    · exact (sb.2 _ ap.TOz).trans v'
    · exact m'.at' fun o e => (sb.2 _ ap.i1z).trans e
    · exact n'.at' fun o e => (sb.2 _ ap.i2z).trans e
    · have hlt : c < s.heap.objs.size := five (p := fun c => c < s.heap.objs.size) below (Heap.lt_size ou) (Heap.lt_size ov) im.lt jn.lt c hcm
      rw [upd_ne (Nat.ne_of_lt hlt)]; exact (hf c hcm).1
  done := by
    intro X hP hw hK hc i pins s σ H E I hf st hg; subst hP hw hK
    obtain ⟨oz, ou, ⟨x0, y0, ov⟩, im, jn⟩ := st
    obtain ⟨xs, ys, qx, qy, stop⟩ := hg
    obtain ⟨its, rv, kx, _⟩ := qx.real I
    obtain ⟨its2, rv2, ky, _⟩ := qy.real I
    have len1 := rv.length
    have len2 := rv2.length
    have out : its.toArray[i]? = none ∨ its2.toArray[i]? = none := by
      rcases stop with z | z
      · exact .inl (by simp; omega)
      · exact .inr (by simp; omega)
    exact zz_last (I.ok.hd hc) ap oz ou ov im jn kx ky out fun g kept => ⟨rfl, I.turnedL (t' := s.toks) (ch := [q, u, v, m, n]) (fun c o hb e =>
      kept c o (fun z => hb (by simp [z])) (fun z => hb (by simp [z])) (fun z => hb (by simp [z])) (fun z => hb (by simp [z])) e) hf⟩
  self := fun _ _ _ _ _ z k => wpAny_pyIter_zip z.1 k
def iZz (K : PySem.W.Frag) (ta : L2.TA) : L2.TI := fun σ H R => ta σ H fun vs H1 => ∃ (t1 t2 : Bool) (a b : Addr) (xs ys : List V), vs = [.ref a, .ref b] ∧ KV t1 K H1 a xs ∧ KV t2 K H1 b ys ∧ R (Itk t1 t2 K a b) H1
theorem pi_zz {X : Cx} {e e2 : Expr} {ta : L2.TA} {p pos tpos : Pos} {elts : List Expr} {kk : Nat} (hg : Gl X "zip") (hm : X.mg "zip" = none) (ha : PA X [e, e2] ta)
    (n1 : starEach [e, e2] X.env = (false, eval e X.env) :: starEach [e2] X.env := by rfl) (n2 : (backTo pos (starEach [e2] X.env)).any (·.1) = false := by rfl) :
    PI X (.Tuple elts kk tpos) (.Call (.Name "zip" p) [e, e2] [] pos) (iZz X.K ta) := by
  refine ⟨fun pins s σ H R I h => Call_ (ld_blt I hg hm PyProof.Rows.boot_zip (PyProof.Rows.callWith_type1 (thn (ha.run pos pins s σ H _ I h) fun us s1 ⟨vs, H1, I1, r1, q1⟩ => ?_) n1 n2))⟩
  obtain ⟨t1, t2, a, b, xs, ys, ex, qx, qy, fin⟩ := q1
  subst ex
  rcases r1 with _ | ⟨r, _ | ⟨r', rest⟩⟩
  cases rest
  cases r
  cases r'
  obtain ⟨its, _, kx, la⟩ := qx.real I1
  obtain ⟨its2, _, ky, lb⟩ := qy.real I1
  refine zz_call kx ky fun g oz ou ov im jn kept => wpAny_pyIter_zip oz ?_
  refine ⟨s1.heap.objs.size + 4, [s1.heap.objs.size + 4, s1.heap.objs.size + 2, s1.heap.objs.size + 3, s1.heap.objs.size, s1.heap.objs.size + 1], _, _, H1, rfl, I1.kept (t' := s1.toks) kept,
    zz_turn (PySem.W.ktu_apart s1.heap.objs.size a b la lb), ⟨oz, ou, ⟨_, _, ov⟩, im, jn⟩, ?_, fin⟩
  have new : ∀ c, s1.heap.objs.size ≤ c → FpOk X pins H1 c := fun c hc => I1.fpOk hc (I1.hok.fresh hc)
  exact five (new _ (by omega)) (new _ (by omega)) (new _ (by omega)) (new _ (Nat.le_refl _)) (new _ (by omega))
end PyI

end
section
set_option autoImplicit false
/-! PyI: while; what is walked; for; list comprehensions. -/
namespace PyI
open PySem PySem.Spec PyProof.Rows L2 RZ RT

section
variable {X : Cx} {G : Gc} {i ia ib ic il ih : I} {e a b c : Expr} {es : List Expr} {pos : Pos} {sts : List Stmt} {st : Stmt}
/-! ### while -/
theorem whileM_some {c : Nv → Out (Bool × Nv)} {b : Nv → Out (Fl × Nv)} {env : Nv} (h : whileM c b env ≠ .stuck) : ∃ n, whileN c b n env = some (whileM c b env) := by
  by_cases hx : ∃ n r, whileN c b n env = some r
  · obtain ⟨n, r, e⟩ := hx
    exact ⟨n, by rw [e, whileM_of e]⟩
  · exact absurd (by unfold whileM; rw [dif_neg hx]) h
theorem ss_while (hp : PassesOwn (model X.prog X.w) X.A X.env X.xe) (hc : SE X G c ic) (hb : PSs X sts (TS X.K G ib)) : PS X (.While c sts [] pos) (TS X.K G (.while_ ic ib)) := imp_ps (ps_while hp hc.pt hb) fun E σ H ⟨F, env, S, P⟩ => by
  rw [evS] at P
  refine ⟨fun n σ H => ∃ F env r, Sim X.K G.H0 F H σ env ∧ whileN (evT G.cx ic) (evS G.cx ib) n env = some r ∧ PostS X.K G (fun j => (I.while_ ic ib).hits j) σ F H env E r, ?_, ?_⟩
  · obtain ⟨n, hn⟩ := whileM_some (c := evT G.cx ic) (b := evS G.cx ib) (env := env) fun z => by rw [z] at P; exact P
    exact ⟨n, F, env, _, S, hn, P⟩
  rintro n σ H ⟨F, env, r, S, e, P⟩
  cases n with
  | zero => cases e
  | succ n =>
  unfold whileN at e
  refine ⟨F, env, S, ?_⟩
  cases e1 : evT G.cx ic env with
  | stuck => rw [e1] at e; cases e; exact P
  | exc x =>
    rw [e1] at e; cases e
    exact fun F' env' c d H' t q => P σ F' env' c d H' (t.s.weak fun j hj => or_l hj) q
  | ok t =>
    obtain ⟨t, env1⟩ := t
    intro F1 v H1 s1 q1
    cases q1
    rw [e1] at e
    cases t with
    | false =>
      cases e
      rw [if_neg Bool.false_ne_true]
      exact P σ F1 H1 (s1.s.weak fun j hj => or_l hj)
    | true =>
      rw [if_pos rfl]
      have P1 := P.shift (s1.s.weak fun j hj => or_l hj)
      refine ⟨fun σ' H' => ∃ F env r, Sim X.K G.H0 F H' σ' env ∧ whileN (evT G.cx ic) (evS G.cx ib) n env = some r ∧ PostS X.K G (fun j => (I.while_ ic ib).hits j) σ' F H' env E r, fun σ' H' z => ⟨n, Nat.lt_succ_self n, z⟩, F1, env1, s1.sim, ?_⟩
      cases e2 : evS G.cx ib env1 with
      | stuck => simp only [e2] at e; cases e; exact P1
      | exc x =>
        simp only [e2] at e; cases e
        exact fun σ' F' env' c d H' t q => P1 σ' F' env' c d H' (t.weak fun j hj => or_r hj) q
      | ok q =>
        obtain ⟨f, env2⟩ := q
        simp only [e2] at e
        cases f with
        | ret v =>
          cases e
          exact fun σ' F' H' v t q => P1 σ' F' H' v (t.weak fun j hj => or_r hj) q
        | next =>
          intro σ' F' H' t
          exact ⟨F', env2, r, t.sim, e, P1.shift (t.weak fun j hj => or_r hj)⟩

/-! ### what is walked -/
/-- d stands at a: as frozen data, or as the own cell of a slot of refs -/
def SrcAt (K : PySem.W.Frag) (refs : List Nat) (a : Addr) (d : D) (F : Addr → Prop) (H : Hp) (σ : L2.St) (env : Nv) : Prop :=
  Rep K F H (.ref a) d ∨ ∃ i ∈ refs, ∃ c, env[i]? = some (Slot.own c) ∧ c.d = d ∧ σ[i]? = some (some (V.ref a))
section
variable {K : PySem.W.Frag} {H0 : Bs} {h : Nat → Bool} {σ σ' : L2.St} {F F' : Addr → Prop} {H H' : Hp} {env env' : Nv} {v : V} {d : D} {r : Res} {refs refs' : List Nat} {aa : Addr}
theorem SrcAt.rv (q : SrcAt K refs aa d F H σ env) (S : Sim K H0 F H σ env) : RepV K F H (.ref aa) d := by
  rcases q with q | ⟨i, _, c, e, rfl, hs⟩
  · exact .inl q
  · obtain ⟨b, h1, h2, _⟩ := S.own i c e
    rw [hs] at h1; cases h1
    exact .inr ⟨aa, c, rfl, rfl, h2⟩
theorem SrcAt.stp (q : SrcAt K refs aa d F H σ env) (S : Sim K H0 F H σ env) (s : StpS K H0 h σ F H env σ' F' H' env') (n : ∀ i ∈ refs, h i = false) : SrcAt K refs aa d F' H' σ' env' := by
  rcases q with q | ⟨i, hi, c, e, ed, hs⟩
  · exact .inl (s.rep S q)
  · exact .inr ⟨i, hi, c, (s.off i (n i hi)).1.trans e, ed, (s.off i (n i hi)).2.trans hs⟩
theorem SrcAt.more (q : SrcAt K refs aa d F H σ env) (k : ∀ i ∈ refs, i ∈ refs') : SrcAt K refs' aa d F H σ env := by
  rcases q with q | ⟨i, hi, z⟩
  · exact .inl q
  · exact .inr ⟨i, k i hi, z⟩
/-- J walks ds, while S stands -/
structure Wk (K : PySem.W.Frag) (H0 : Bs) (J : It) (ds : List D) (refs : List Nat) (T : (Addr → Prop) → Hp → L2.St → Nv → Prop) : Prop where
  item : ∀ (F : Addr → Prop) (H : Hp) (σ : L2.St) (env : Nv) (i : Nat) (d : D), Sim K H0 F H σ env → T F H σ env → ds[i]? = some d → J.go i H ∧ ∀ x H', J.yld i H x H' → Go noO F H F H' ∧ Rep K F H' x d
  stop : ∀ (F : Addr → Prop) (H : Hp) (σ : L2.St) (env : Nv), Sim K H0 F H σ env → T F H σ env → J.stop ds.length H
  keep : ∀ (h : Nat → Bool) (σ : L2.St) (F : Addr → Prop) (H : Hp) (env : Nv) (σ' : L2.St) (F' : Addr → Prop) (H' : Hp) (env' : Nv), Sim K H0 F H σ env → T F H σ env → StpS K H0 h σ F H env σ' F' H' env' → (∀ i ∈ refs, h i = false) → T F' H' σ' env'
theorem wk_list {ds : List D} : Wk K H0 (Itl K aa) ds refs (SrcAt K refs aa (.lst ds)) := by
  refine ⟨fun F H σ env i d S q e => ?_, fun F H σ env S q => ?_, fun h σ F H env σ' F' H' env' S q s n => q.stp S s n⟩
  · obtain ⟨a, xs, ea, h1, h2⟩ := (q.rv S).lst
    cases ea
    obtain ⟨x, hx, _⟩ := h2.get' e
    refine ⟨⟨xs, x, h1, hx⟩, fun y H' hy => ?_⟩
    obtain ⟨rfl, hy⟩ := hy
    obtain ⟨d', hd, rd⟩ := h2.get (hy xs h1)
    rw [e] at hd; cases hd
    exact ⟨Go.refl, rd⟩
  · obtain ⟨a, xs, ea, h1, h2⟩ := (q.rv S).lst
    cases ea
    exact ⟨xs, h1, Nat.le_of_eq h2.length⟩
theorem wk_tup {ds : List D} : Wk K H0 (Itt K aa) ds refs (SrcAt K refs aa (.tup ds)) := by
  refine ⟨fun F H σ env i d S q e => ?_, fun F H σ env S q => ?_, fun h σ F H env σ' F' H' env' S q s n => q.stp S s n⟩
  · obtain ⟨a, xs, ea, h1, h2⟩ := (q.rv S).tup
    cases ea
    obtain ⟨x, hx, _⟩ := h2.get' e
    refine ⟨⟨xs, x, SqT.of h1, hx⟩, fun y H' hy => ?_⟩
    obtain ⟨rfl, hy⟩ := hy
    obtain ⟨d', hd, rd⟩ := h2.get (hy xs (SqT.of h1))
    rw [e] at hd; cases hd
    exact ⟨Go.refl, rd⟩
  · obtain ⟨a, xs, ea, h1, h2⟩ := (q.rv S).tup
    cases ea
    exact ⟨xs, SqT.of h1, Nat.le_of_eq h2.length⟩
theorem wk_str {x : Str} (ok : strOk x = true) : Wk K H0 (Its x) (x.cps.toList.map fun c => .str ⟨#[c]⟩) refs (fun _ _ _ _ => True) := by
  refine ⟨fun F H σ env i d S q e => ?_, fun F H σ env S q => ?_, fun h σ F H env σ' F' H' env' S q s n => trivial⟩
  · rw [List.getElem?_map] at e
    obtain ⟨c, hc, rfl⟩ := Option.map_eq_some_iff.mp e
    have hi : i < x.cps.size := by
      have := (List.getElem?_eq_some_iff.mp hc).1
      simpa using this
    refine ⟨hi, fun y H' hy => ?_⟩
    obtain ⟨rfl, c', hc', rfl⟩ := hy
    rw [← Array.getElem?_toList, hc] at hc'
    cases hc'
    refine ⟨Go.refl, .str ?_⟩
    rw [strOk_iff] at ok ⊢
    intro k hk
    have : k = c := by simpa using hk
    subst this
    exact ok _ (List.mem_of_getElem? hc)
  · show x.cps.size ≤ _
    simp
theorem wk_rng {lo : Int} {n : Nat} : Wk K H0 (Itr lo n) ((List.range n).map fun (k : Nat) => D.int (lo + (k : Int))) refs (fun _ _ _ _ => True) := by
  refine ⟨fun F H σ env i d S q e => ?_, fun F H σ env S q => ?_, fun h σ F H env σ' F' H' env' S q s n => trivial⟩
  · rw [List.getElem?_map] at e
    obtain ⟨c, hc, rfl⟩ := Option.map_eq_some_iff.mp e
    obtain ⟨hi, hc2⟩ := List.getElem?_eq_some_iff.mp hc
    rw [List.getElem_range] at hc2
    subst hc2
    have hi : i < n := by simpa using hi
    refine ⟨hi, fun y H' hy => ?_⟩
    obtain ⟨rfl, rfl⟩ := hy
    exact ⟨Go.refl, .int _⟩
  · show n ≤ _
    simp
theorem enum_get : ∀ {ds : List D} {k i : Nat} {d : D}, (enumD k ds)[i]? = some d → ∃ x, ds[i]? = some x ∧ d = .tup [.int ((k + i : Nat) : Int), x]
  | [], k, i, d, e => by cases e
  | x :: ds, k, 0, d, e => by cases e; exact ⟨x, rfl, rfl⟩
  | x :: ds, k, i + 1, d, e => by
    obtain ⟨y, h1, h2⟩ := enum_get (ds := ds) (k := k + 1) (i := i) e
    exact ⟨y, h1, by rw [h2]; congr 3; omega⟩
theorem enum_len : ∀ (ds : List D) (k : Nat), (enumD k ds).length = ds.length
  | [], _ => rfl
  | _ :: ds, k => by
    show (enumD (k + 1) ds).length + 1 = ds.length + 1
    rw [enum_len ds (k + 1)]
theorem zip_get : ∀ {ds es : List D} {i : Nat} {d : D}, (zipD ds es)[i]? = some d → ∃ x y, ds[i]? = some x ∧ es[i]? = some y ∧ d = .tup [x, y]
  | [], _, i, d, e => by simp [zipD] at e
  | _ :: _, [], i, d, e => by simp [zipD] at e
  | x :: ds, y :: es, 0, d, e => by cases e; exact ⟨x, y, rfl, rfl, rfl⟩
  | x :: ds, y :: es, i + 1, d, e => zip_get (ds := ds) (es := es) (i := i) e
theorem zip_len : ∀ (ds es : List D), (zipD ds es).length = min ds.length es.length
  | [], _ => by simp [zipD]
  | _ :: _, [] => by simp [zipD]
  | _ :: ds, _ :: es => by
    show (zipD ds es).length + 1 = _
    rw [zip_len ds es]
    simp only [List.length_cons]
    omega
theorem wk_enum {ds : List D} : Wk K H0 (Ite K aa) (enumD 0 ds) refs (SrcAt K refs aa (.lst ds)) := by
  refine ⟨fun F H σ env i d S q e => ?_, fun F H σ env S q => ?_, fun h σ F H env σ' F' H' env' S q s n => q.stp S s n⟩
  · obtain ⟨a, xs, ea, h1, h2⟩ := (q.rv S).lst
    cases ea
    obtain ⟨dx, e1, rfl⟩ := enum_get e
    obtain ⟨x, hx, _⟩ := h2.get' e1
    refine ⟨⟨xs, x, h1, hx⟩, fun y H' hy => ?_⟩
    obtain ⟨T, x', rfl, hT, rfl, hy⟩ := hy
    obtain ⟨d', hd, rd⟩ := h2.get (hy xs h1)
    rw [e1] at hd; cases hd
    refine ⟨Go.upd hT, new_tup hT (.cons ?_ (.cons rd .nil))⟩
    rw [Nat.zero_add]
    exact .int _
  · obtain ⟨a, xs, ea, h1, h2⟩ := (q.rv S).lst
    cases ea
    exact ⟨xs, h1, by rw [enum_len]; exact Nat.le_of_eq h2.length⟩
/-- the datum of a list or a tuple -/
def mkS (t : Bool) (ds : List D) : D := if t then .tup ds else .lst ds
theorem mkS_rep {t : Bool} {K : PySem.W.Frag} {F : Addr → Prop} {H : Hp} {v : V} {ds : List D} (h : RepV K F H v (mkS t ds)) : ∃ a xs, v = .ref a ∧ KV t K H a xs ∧ RepL K F H xs ds := by
  cases t
  · obtain ⟨a, xs, rfl, h1, h2⟩ := h.lst
    exact ⟨a, xs, rfl, h1, h2⟩
  · obtain ⟨a, xs, rfl, h1, h2⟩ := h.tup
    exact ⟨a, xs, rfl, SqT.of h1, h2⟩
theorem wk_zz {t1 t2 : Bool} {ds es : List D} {bb : Addr} : Wk K H0 (Itk t1 t2 K aa bb) (zipD ds es) refs (fun F H σ env => SrcAt K refs aa (mkS t1 ds) F H σ env ∧ SrcAt K refs bb (mkS t2 es) F H σ env) := by
  refine ⟨fun F H σ env i d S q e => ?_, fun F H σ env S q => ?_, fun h σ F H env σ' F' H' env' S q s n => ⟨q.1.stp S s n, q.2.stp S s n⟩⟩
  · obtain ⟨a, xs, ea, h1, h2⟩ := mkS_rep (q.1.rv S)
    cases ea
    obtain ⟨b, ys, eb, k1, k2⟩ := mkS_rep (q.2.rv S)
    cases eb
    obtain ⟨dx, dy, e1, e2, rfl⟩ := zip_get e
    obtain ⟨x, hx, _⟩ := h2.get' e1
    obtain ⟨y, hy, _⟩ := k2.get' e2
    refine ⟨⟨xs, ys, x, y, h1, k1, hx, hy⟩, fun z H' hz => ?_⟩
    obtain ⟨T, x', y', rfl, hT, rfl, hx', hy'⟩ := hz
    obtain ⟨d', hd, rd⟩ := h2.get (hx' xs h1)
    rw [e1] at hd; cases hd
    obtain ⟨d', hd, rd'⟩ := k2.get (hy' ys k1)
    rw [e2] at hd; cases hd
    exact ⟨Go.upd hT, new_tup hT (.cons rd (.cons rd' .nil))⟩
  · obtain ⟨a, xs, ea, h1, h2⟩ := mkS_rep (q.1.rv S)
    cases ea
    obtain ⟨b, ys, eb, k1, k2⟩ := mkS_rep (q.2.rv S)
    cases eb
    refine ⟨xs, ys, h1, k1, ?_⟩
    rw [zip_len, h2.length, k2.length]
    omega
theorem wk_revL {ds : List D} : Wk K H0 (Itv K aa ds.length) ds.reverse refs (SrcAt K refs aa (.lst ds)) := by
  refine ⟨fun F H σ env i d S q e => ?_, fun F H σ env S q => ?_, fun h σ F H env σ' F' H' env' S q s n => q.stp S s n⟩
  · obtain ⟨a, xs, ea, h1, h2⟩ := (q.rv S).lst
    cases ea
    have hi : i < ds.length := by simpa using (List.getElem?_eq_some_iff.mp e).1
    rw [List.getElem?_reverse hi] at e
    obtain ⟨x, hx, _⟩ := h2.get' e
    refine ⟨⟨hi, xs, x, h1, hx⟩, fun y H' hy => ?_⟩
    obtain ⟨rfl, hy⟩ := hy
    obtain ⟨d', hd, rd⟩ := h2.get (hy xs h1)
    rw [e] at hd; cases hd
    exact ⟨Go.refl, rd⟩
  · show ds.length ≤ _
    simp
theorem wk_revT {ds : List D} : Wk K H0 (ItvT K aa ds.length) ds.reverse refs (SrcAt K refs aa (.tup ds)) := by
  refine ⟨fun F H σ env i d S q e => ?_, fun F H σ env S q => ?_, fun h σ F H env σ' F' H' env' S q s n => q.stp S s n⟩
  · obtain ⟨a, xs, ea, h1, h2⟩ := (q.rv S).tup
    cases ea
    have hi : i < ds.length := by simpa using (List.getElem?_eq_some_iff.mp e).1
    rw [List.getElem?_reverse hi] at e
    obtain ⟨x, hx, _⟩ := h2.get' e
    refine ⟨⟨hi, xs, x, SqT.of h1, hx⟩, fun y H' hy => ?_⟩
    obtain ⟨rfl, hy⟩ := hy
    obtain ⟨d', hd, rd⟩ := h2.get (hy xs (SqT.of h1))
    rw [e] at hd; cases hd
    exact ⟨Go.refl, rd⟩
  · show ds.length ≤ _
    simp
end
abbrev relI (K : PySem.W.Frag) (H0 : Bs) (σ : L2.St) : Rl (List D × List Nat) It := fun F H env J r => ∃ T, Wk K H0 J r.1 r.2 T ∧ T F H σ env
def TI (K : PySem.W.Frag) (G : Gc) (i : I) : L2.TI := fun σ H R => ∃ F env, Sim K G.H0 F H σ env ∧ Post K G σ (fun j => i.hits j) F H env (relI K G.H0 σ) R (evIt G.cx i env)
structure SI (X : Cx) (G : Gc) (tg e : Expr) (i : I) : Prop where
  pi : PI X tg e (TI X.K G i)
  ns : ∀ x, foldedSetIterable e X.env x = pure x
theorem imp_pi {tg : Expr} {t t' : L2.TI} (h : PI X tg e t) (w : ∀ σ H R, t' σ H R → t σ H R) : PI X tg e t' := ⟨fun pins s σ H R I q => h.run pins s σ H R I (w σ H R q)⟩
theorem pi_or {tg : Expr} {t t' : L2.TI} (h : PI X tg e t) (h' : PI X tg e t') : PI X tg e (fun σ H R => t σ H R ∨ t' σ H R) := ⟨fun pins s σ H R I q => q.elim (h.run pins s σ H R I) (h'.run pins s σ H R I)⟩
/-- a result that is walked: where it stands -/
theorem src_of {K : PySem.W.Frag} {H0 : Bs} {σ : L2.St} {h : Nat → Bool} {F F1 : Addr → Prop} {H H1 : Hp} {env env1 : Nv} {v : V} {r : Res} {d : D} (S : Sim K H0 F H σ env) (s : Stp K H0 σ h F H env F1 H1 env1) (q : RepR K H F1 H1 σ env1 v r) (e : r.get env1 = some d) :
    ∃ F2, Stp K H0 σ h F H env F2 H1 env1 ∧ (∀ b, F1 b → F2 b) ∧ (Rep K F2 H1 v d ∨ ∃ i ∈ refsOf [r], ∃ c a, v = .ref a ∧ env1[i]? = some (Slot.own c) ∧ c.d = d ∧ σ[i]? = some (some (V.ref a))) := by
  cases r with
  | val d' =>
    cases e
    exact ⟨F1, s, fun _ z => z, .inl q⟩
  | new c =>
    cases e
    obtain ⟨F2, s2, up, r2⟩ := freeze (rs := [.new c]) S s (.cons q .nil) rfl
    cases r2 with
    | cons r _ => exact ⟨F2, s2, up, .inl r⟩
  | ref i =>
    obtain ⟨a, c, rfl, h1, h2⟩ := q
    have e3 : some c.d = some d := by
      have : Res.get env1 (.ref i) = some c.d := by simp [Res.get, h2]
      rw [← this]; exact e
    cases e3
    exact ⟨F1, s, fun _ z => z, .inr ⟨i, by simp [refsOf], c, a, rfl, h2, rfl, h1⟩⟩
def isSrc : I → Bool
  | .iRng _ => false
  | .iEnum _ => false
  | .iZip _ _ => false
  | .iEZ _ _ => false
  | .iRev _ => false
  | _ => true
theorem evIt_eq (cx : Cxt) (i : I) (h : isSrc i = true) (env : Nv) : evIt cx i env = (evE cx i env).bind fun r => (Out.of (r.1.get r.2)).bind fun d => (Out.of (itemsIt d)).bind fun ds => .ok ((ds, refsOf [r.1]), r.2) := by
  cases i <;> first | (cases h; done) | (rw [evIt]; all_goals first | rfl | (intros; rename_i z; cases z))
def notSet : Expr → Bool
  | .Set _ _ _ => false
  | _ => true
theorem ns_of {env : PySem.Env} (h : notSet e = true) : ∀ x, foldedSetIterable e env x = pure x := fun x => by
  cases e <;> first | rfl | cases h
theorem src_at {K : PySem.W.Frag} {F : Addr → Prop} {H : Hp} {σ : L2.St} {env : Nv} {v : V} {r : Res} {d : D} {refs : List Nat} (z : Rep K F H v d ∨ ∃ i ∈ refsOf [r], ∃ c a, v = .ref a ∧ env[i]? = some (Slot.own c) ∧ c.d = d ∧ σ[i]? = some (some (V.ref a)))
    (hr : ∀ i ∈ refsOf [r], i ∈ refs) {a : Addr} (ha : v = .ref a) : SrcAt K refs a d F H σ env := by
  subst ha
  rcases z with z | ⟨i, hi, c, a', e, h1, h2, h3⟩
  · exact .inl z
  · cases e; exact .inr ⟨i, hr i hi, c, h1, h2, h3⟩
theorem src_rv {K : PySem.W.Frag} {H0 : Bs} {F : Addr → Prop} {H : Hp} {σ : L2.St} {env : Nv} {v : V} {r : Res} {d : D} (S : Sim K H0 F H σ env) (z : Rep K F H v d ∨ ∃ i ∈ refsOf [r], ∃ c a, v = .ref a ∧ env[i]? = some (Slot.own c) ∧ c.d = d ∧ σ[i]? = some (some (V.ref a))) : RepV K F H v d := by
  rcases z with z | ⟨i, hi, c, a', rfl, h1, h2, h3⟩
  · exact .inl z
  · obtain ⟨b, g1, g2, _⟩ := S.own i c h1
    rw [h3] at g1; cases g1
    exact .inr ⟨a', c, rfl, h2, g2⟩
/-- a list, a tuple, a text -/
theorem si_src {tg : Expr} (h : isSrc i = true) (hn : notSet e = true) (ha : SE X G e i) : SI X G tg e i := by
  refine ⟨imp_pi (pi_or (pi_list ha.pe) (pi_or (pi_tup ha.pe) (pi_str ha.pe))) fun σ H R hh => ?_, ns_of hn⟩
  obtain ⟨F, env, S, P⟩ := hh
  rw [evIt_eq _ _ h] at P
  cases ev : evE G.cx i env with
  | stuck => rw [ev] at P; exact P.elim
  | exc x => rw [ev] at P; exact .inl ⟨F, env, S, by rw [ev]; exact P⟩
  | ok r =>
    obtain ⟨r, env1⟩ := r
    rw [ev] at P
    obtain ⟨d, hd, P⟩ := Post.of (show Post X.K G σ _ F H env _ R ((Out.of (r.get env1)).bind _) from P)
    cases d with
    | lst ds =>
      refine .inl ⟨F, env, S, ?_⟩
      rw [ev]
      intro F1 v H1 s1 q1
      obtain ⟨F2, s2, up, z⟩ := src_of S s1 q1 hd
      obtain ⟨a, xs, rfl, h1, h2⟩ := (src_rv s2.sim z).lst
      exact ⟨a, rfl, ⟨xs, h1⟩, P F2 _ H1 s2 ⟨_, wk_list, src_at z (fun _ q => q) rfl⟩⟩
    | tup ds =>
      refine .inr (.inl ⟨F, env, S, ?_⟩)
      rw [ev]
      intro F1 v H1 s1 q1
      obtain ⟨F2, s2, up, z⟩ := src_of S s1 q1 hd
      obtain ⟨a, xs, rfl, h1, h2⟩ := (src_rv s2.sim z).tup
      exact ⟨a, rfl, ⟨xs, SqT.of h1⟩, P F2 _ H1 s2 ⟨_, wk_tup, src_at z (fun _ q => q) rfl⟩⟩
    | str x =>
      refine .inr (.inr ⟨F, env, S, ?_⟩)
      rw [ev]
      intro F1 v H1 s1 q1
      obtain ⟨F2, s2, up, z⟩ := src_of S s1 q1 hd
      obtain ⟨rfl, ok⟩ := (src_rv s2.sim z).str
      exact ⟨x, rfl, P F2 _ H1 s2 ⟨_, wk_str ok, trivial⟩⟩
    | _ => exact P.elim
theorem rngOk_of {i : Int} (h : rngOk i = true) : -(2 ^ 62) ≤ i ∧ i < 2 ^ 62 := by
  have h : i.natAbs < 2 ^ 62 := of_decide_eq_true h
  omega
theorem ints1 {K : PySem.W.Frag} {F : Addr → Prop} {H : Hp} {vs : List V} {j : Int} (h : RepL K F H vs [.int j]) : vs = [.int j] := by
  cases h with | cons r t => cases r; cases t; rfl
theorem ints2 {K : PySem.W.Frag} {F : Addr → Prop} {H : Hp} {vs : List V} {i j : Int} (h : RepL K F H vs [.int i, .int j]) : vs = [.int i, .int j] := by
  cases h with | cons r t => cases r; rw [ints1 t]
theorem si_rng1 {tg : Expr} {p : Pos} (hg : Gl X "range") (hm : X.mg "range" = none) (ha : SA X G [a] (.cons ia .nil)) : SI X G tg (.Call (.Name "range" p) [a] [] pos) (.iRng (.cons ia .nil)) := by
  have ns := Bool.and_eq_true_iff.mp (show (notStar a && ([] : List Expr).all notStar) = true from ha.ns)
  refine ⟨imp_pi (pi_range1 hg hm ha.pa (starEach_cons ns.1)) fun σ H R hh => ?_, fun _ => rfl⟩
  obtain ⟨F, env, S, P⟩ := hh
  rw [evIt] at P
  refine ⟨F, env, S, P.seq0 (fun j hj => hj) fun rs env1 F1 vs H1 ev P1 s1 q1 => ?_⟩
  obtain ⟨ds, hds, P1⟩ := P1.of
  obtain ⟨is, his, P1⟩ := P1.of
  obtain ⟨F2, s2, up, r2⟩ := freeze S s1 q1 hds
  have hl : ds.length = 1 := by
    have h1 := r2.length
    have h2 : vs.length = 1 := by
      rw [evA] at ev
      cases e1 : evE G.cx ia env with
      | stuck => rw [e1] at ev; cases ev
      | exc _ => rw [e1] at ev; cases ev
      | ok ra =>
        rw [e1] at ev
        have ev : (evA G.cx .nil ra.2).bind (fun rb => Out.ok (ra.1 :: rb.1, rb.2)) = .ok (rs, env1) := ev
        rw [evA] at ev
        cases ev
        cases q1 with | cons _ t => cases t; rfl
    omega
  match ds, hl with
  | [d], _ =>
    cases d <;> first | (cases his; done) | skip
    rename_i j _
    have his : (if rngOk j = true then some (rngD 0 j) else none) = some is := his
    split at his
    · rename_i hj
      cases his
      obtain ⟨k1, k2⟩ := rngOk_of hj
      refine ⟨j, ints1 r2, k1, k2, P1 F2 _ H1 s2 ⟨fun _ _ _ _ => True, ?_, trivial⟩⟩
      have w := wk_rng (K := X.K) (H0 := G.H0) (refs := []) (lo := 0) (n := j.toNat)
      unfold rngD
      rw [Int.sub_zero]
      exact w
    · cases his
theorem evA_two {cx : Cxt} {env env1 : Nv} {rs : List Res} (ev : evA cx (.cons ia (.cons ib .nil)) env = .ok (rs, env1)) : rs.length = 2 := by
  rw [evA] at ev
  cases e1 : evE cx ia env with
  | stuck => rw [e1] at ev; cases ev
  | exc _ => rw [e1] at ev; cases ev
  | ok ra =>
    rw [e1] at ev
    have ev : (evA cx (.cons ib .nil) ra.2).bind (fun rb => Out.ok (ra.1 :: rb.1, rb.2)) = .ok (rs, env1) := ev
    rw [evA] at ev
    cases e2 : evE cx ib ra.2 with
    | stuck => rw [e2] at ev; cases ev
    | exc _ => rw [e2] at ev; cases ev
    | ok rb =>
      rw [e2] at ev
      have ev : ((evA cx .nil rb.2).bind (fun rc => Out.ok (rb.1 :: rc.1, rc.2))).bind (fun rb => Out.ok (ra.1 :: rb.1, rb.2)) = .ok (rs, env1) := ev
      rw [evA] at ev
      cases ev
      rfl
theorem RepRs.length {K : PySem.W.Frag} {Hs : Hp} {F : Addr → Prop} {H : Hp} {σ : L2.St} {env : Nv} : ∀ {vs : List V} {rs : List Res}, RepRs K Hs F H σ env vs rs → vs.length = rs.length
  | _, _, .nil => rfl
  | _, _, .cons _ t => by simp [RepRs.length t]
theorem si_rng2 {tg : Expr} {p : Pos} (hg : Gl X "range") (hm : X.mg "range" = none) (ha : SA X G [a, b] (.cons ia (.cons ib .nil))) : SI X G tg (.Call (.Name "range" p) [a, b] [] pos) (.iRng (.cons ia (.cons ib .nil))) := by
  have ns := Bool.and_eq_true_iff.mp (show (notStar a && ([b] : List Expr).all notStar) = true from ha.ns)
  have ns2 := Bool.and_eq_true_iff.mp (show (notStar b && ([] : List Expr).all notStar) = true from ns.2)
  refine ⟨imp_pi (pi_range2 hg hm ha.pa (by rw [starEach_cons ns.1, starEach_cons ns2.1]; rfl) (starEach_cons ns2.1)) fun σ H R hh => ?_, fun _ => rfl⟩
  obtain ⟨F, env, S, P⟩ := hh
  rw [evIt] at P
  refine ⟨F, env, S, P.seq0 (fun j hj => hj) fun rs env1 F1 vs H1 ev P1 s1 q1 => ?_⟩
  obtain ⟨ds, hds, P1⟩ := P1.of
  obtain ⟨is, his, P1⟩ := P1.of
  obtain ⟨F2, s2, up, r2⟩ := freeze S s1 q1 hds
  have hl : ds.length = 2 := by
    rw [← r2.length, q1.length]
    exact evA_two ev
  match ds, hl with
  | [d, d'], _ =>
    cases d <;> first | (cases his; done) | skip
    cases d' <;> first | (cases his; done) | skip
    rename_i i j _
    have his : (if (rngOk i && rngOk j) = true then some (rngD i j) else none) = some is := his
    split at his
    · rename_i hij
      cases his
      obtain ⟨hi, hj⟩ := Bool.and_eq_true_iff.mp hij
      obtain ⟨k1, k2⟩ := rngOk_of hi
      obtain ⟨k3, k4⟩ := rngOk_of hj
      exact ⟨i, j, ints2 r2, ⟨k1, k2, k3, k4⟩, P1 F2 _ H1 s2 ⟨fun _ _ _ _ => True, wk_rng, trivial⟩⟩
    · cases his
/-- one argument -/
theorem si_enum {elts : List Expr} {kk : Nat} {tpos p : Pos} (hg : Gl X "enumerate") (hm : X.mg "enumerate" = none) (ha : SE X G a ia) (hs : notStar a = true) : SI X G (.Tuple elts kk tpos) (.Call (.Name "enumerate" p) [a] [] pos) (.iEnum ia) := by
  refine ⟨imp_pi (pi_enum hg hm (pa_cons ha.pe pa_nil (starEach_cons hs)) (starEach_cons hs)) fun σ H R hh => ?_, fun _ => rfl⟩
  obtain ⟨F, env, S, P⟩ := hh
  rw [evIt] at P
  refine ⟨F, env, S, P.seq0 (fun j hj => hj) fun r env1 F1 v H1 _ P1 s1 q1 => ?_⟩
  obtain ⟨d, hd, P1⟩ := P1.of
  obtain ⟨ds, hds, P1⟩ := P1.of
  cases d <;> first | (cases hds; done) | skip
  cases hds
  obtain ⟨F2, s2, up, z⟩ := src_of S s1 q1 hd
  obtain ⟨a, xs, rfl, h1, h2⟩ := (src_rv s2.sim z).lst
  exact ⟨a, xs, rfl, h1, P1 F2 _ H1 s2 ⟨_, wk_enum, src_at z (fun _ q => q) rfl⟩⟩
theorem si_rev {tg : Expr} {p : Pos} (hg : Gl X "reversed") (hm : X.mg "reversed" = none) (ha : SE X G a ia) (hs : notStar a = true) : SI X G tg (.Call (.Name "reversed" p) [a] [] pos) (.iRev ia) := by
  refine ⟨imp_pi (pi_revA hg hm ha.pe (starEach_cons hs)) fun σ H R hh => ?_, fun _ => rfl⟩
  obtain ⟨F, env, S, P⟩ := hh
  rw [evIt] at P
  refine ⟨F, env, S, P.seq0 (fun j hj => hj) fun r env1 F1 v H1 _ P1 s1 q1 => ?_⟩
  obtain ⟨d, hd, P1⟩ := P1.of
  obtain ⟨ds, hds, P1⟩ := P1.of
  obtain ⟨F2, s2, up, z⟩ := src_of S s1 q1 hd
  cases d <;> first | (cases hds; done) | skip
  · cases hds
    obtain ⟨a, xs, rfl, h1, h2⟩ := (src_rv s2.sim z).tup
    refine ⟨a, xs, rfl, .inr ⟨SqT.of h1, ?_⟩⟩
    rw [h2.length]
    exact P1 F2 _ H1 s2 ⟨_, wk_revT, src_at z (fun _ q => q) rfl⟩
  · cases hds
    obtain ⟨a, xs, rfl, h1, h2⟩ := (src_rv s2.sim z).lst
    refine ⟨a, xs, rfl, .inl ⟨h1, ?_⟩⟩
    rw [h2.length]
    exact P1 F2 _ H1 s2 ⟨_, wk_revL, src_at z (fun _ q => q) rfl⟩
theorem refs2l {r1 r2 : Res} {i : Nat} (h : i ∈ refsOf [r1]) : i ∈ refsOf [r1, r2] := by
  cases r1 <;> cases r2 <;> simp [refsOf] at h ⊢ <;> first | exact h | exact .inl h
theorem refs2r {r1 r2 : Res} {i : Nat} (h : i ∈ refsOf [r2]) : i ∈ refsOf [r1, r2] := by
  cases r1 <;> cases r2 <;> simp [refsOf] at h ⊢ <;> first | exact h | exact .inr h
theorem si_zip {elts : List Expr} {kk : Nat} {tpos p : Pos} (hg : Gl X "zip") (hm : X.mg "zip" = none) (ha : SE X G a ia) (hb : SE X G b ib) (hsa : notStar a = true) (hsb : notStar b = true) : SI X G (.Tuple elts kk tpos) (.Call (.Name "zip" p) [a, b] [] pos) (.iZip ia ib) := by
  refine ⟨imp_pi (pi_zz hg hm (pa_cons ha.pe (pa_cons hb.pe pa_nil (starEach_cons hsb)) (starEach_cons hsa)) (starEach_cons hsa) (starEach_any (by simp [hsb]))) fun σ H R hh => ?_, fun _ => rfl⟩
  obtain ⟨F, env, S, P⟩ := hh
  rw [evIt] at P
  refine ⟨F, env, S, P.seq0 (fun j hj => or_l hj) fun ra env1 F1 v H1 e1 P1 s1 q1 => ?_⟩
  obtain ⟨Fa, sa, upa, q1'⟩ : ∃ F2, Stp X.K G.H0 σ (fun j => ia.hits j) F H env F2 H1 env1 ∧ (∀ b, F1 b → F2 b) ∧ ((∃ i, ra = .ref i ∧ RepR X.K H F2 H1 σ env1 v ra) ∨ ∃ d, (∀ env, ra.get env = some d) ∧ (∀ i, ra ≠ .ref i) ∧ Rep X.K F2 H1 v d) := by
    cases ra with
    | val d => exact ⟨F1, s1, fun _ z => z, .inr ⟨d, fun _ => rfl, fun _ z => (nomatch z), q1⟩⟩
    | new c =>
      obtain ⟨F2, s2, up, z⟩ := src_of S s1 q1 rfl
      rcases z with z | ⟨i, hi, _⟩
      · exact ⟨F2, s2, up, .inr ⟨c.d, fun _ => rfl, fun _ z => (nomatch z), z⟩⟩
      · simp [refsOf] at hi
    | ref i => exact ⟨F1, s1, fun _ z => z, .inl ⟨i, rfl, q1⟩⟩
  have P1 := Post.shift P1 (sa.weak fun j hj => or_l hj)
  refine ⟨Fa, env1, sa.sim, P1.seq0 (fun j hj => or_r hj) fun rb env2 F2 w H2 e2 P2 s2 q2 => ?_⟩
  obtain ⟨dx, hx, P2⟩ := P2.of
  obtain ⟨dy, hy, P2⟩ := P2.of
  obtain ⟨zz, hz, P2⟩ := P2.of
  obtain ⟨Fb, sb, upb, zb⟩ := src_of sa.sim s2 q2 hy
  have za : Rep X.K Fb H2 v dx ∨ ∃ i ∈ refsOf [ra], ∃ c a, v = .ref a ∧ env2[i]? = some (Slot.own c) ∧ c.d = dx ∧ σ[i]? = some (some (V.ref a)) := by
    rcases q1' with ⟨i, rfl, q⟩ | ⟨d, hd, hn, q⟩
    · obtain ⟨a, c, rfl, h1, h2⟩ := q.stp sb sa.sim
      refine .inr ⟨i, by simp [refsOf], c, a, rfl, h2, ?_, h1⟩
      have : Res.get env2 (.ref i) = some c.d := by simp [Res.get, h2]
      rw [this] at hx; cases hx; rfl
    · rw [hd] at hx; cases hx
      exact .inl (Rep.go sb.go sa.sim.ok q)
  have fin := fun J hJ => P2 Fb J H2 (sb.weak fun j hj => or_r hj) hJ
  have seq : ∀ {d : D} {ds : List D}, seqOf d = some ds → ∃ t, d = mkS t ds := fun {d ds} h => by
    cases d <;> first | (cases h; done) | skip
    · cases h; exact ⟨true, rfl⟩
    · cases h; exact ⟨false, rfl⟩
  unfold zipOf at hz
  cases hs1 : seqOf dx with
  | none => rw [hs1] at hz; cases hz
  | some ds =>
  cases hs2 : seqOf dy with
  | none => rw [hs1, hs2] at hz; cases hz
  | some es =>
  rw [hs1, hs2] at hz
  cases hz
  obtain ⟨t1, rfl⟩ := seq hs1
  obtain ⟨t2, rfl⟩ := seq hs2
  obtain ⟨a0, xs, rfl, h1, h2⟩ := mkS_rep (src_rv sb.sim za)
  obtain ⟨b0, ys, rfl, k1, k2⟩ := mkS_rep (src_rv sb.sim zb)
  exact ⟨t1, t2, a0, b0, xs, ys, rfl, h1, k1, fin _ ⟨_, wk_zz, src_at za (fun _ q => refs2l q) rfl, src_at zb (fun _ q => refs2r q) rfl⟩⟩
end
end PyI

end
section
set_option autoImplicit false
/-! PyJ: for; list comprehensions. -/
namespace PyI
open PySem PySem.Spec PyProof.Rows L2 RZ RT

section
variable {X : Cx} {G : Gc} {i ia ib ic il ih : I} {e a b c tg : Expr} {es : List Expr} {pos : Pos} {sts : List Stmt} {st : Stmt} {vs : List Nat}
theorem any_no {l : List Nat} {p : Nat → Bool} (h : l.any p = false) : ∀ i ∈ l, p i = false := fun i hi => by
  cases q : p i with
  | false => rfl
  | true => rw [List.any_eq_false] at h; exact absurd q (h i hi)
theorem bind_drop {ds : List D} {n : Nat} {d : D} (e : ds[n]? = some d) : ds.drop n = d :: ds.drop (n + 1) := by
  obtain ⟨h, e⟩ := List.getElem?_eq_some_iff.mp e
  rw [List.drop_eq_getElem_cons h, e]
theorem ss_for (hp : PassesOwn (model X.prog X.w) X.A X.env X.xe) (hcalm : X.calm = true) (hN : X.N.Nodup) (ht : Tgt X tg vs) (hs : SI X G tg e i) (hb : PSs X sts (TS X.K G ib)) (hpin : ∀ i ∈ vs, G.H0.pin i = false) : PS X (.For tg e sts [] pos) (TS X.K G (.for_ vs i ib)) := by
  refine imp_ps (ps_for hp hcalm hs.pi (pg_tgt hcalm hN ht) hb hs.ns) fun E σ H hh => ?_
  obtain ⟨F, env, S, P⟩ := hh
  rw [evS] at P
  refine ⟨F, env, S, P.ex0 (fun j hj => or_r (or_l hj)) fun r env1 F1 J H1 _ P1 s1 q1 => ?_⟩
  obtain ⟨ds, refs⟩ := r
  obtain ⟨T, wk, hT⟩ := q1
  cases hany : (refs.any fun i => ib.hits i || vs.contains i) with
  | true => simp only [hany, if_true] at P1; exact P1.elim
  | false =>
  simp only [hany, Bool.false_eq_true, if_false] at P1
  have nh := any_no hany
  have P1 := P1.shift (s1.s.weak fun j hj => or_r (or_l hj))
  have hne : vs ≠ [] := by cases ht with
    | one _ _ _ => simp
    | tup _ h2 => intro z; subst z; simp at h2
  refine ⟨fun n m σ H => m = ds.length - n ∧ n ≤ ds.length ∧ ∃ F env, Sim X.K G.H0 F H σ env ∧ T F H σ env ∧ PostS X.K G (fun j => (I.for_ vs i ib).hits j) σ F H env E (forM (bindV vs) (evS G.cx ib) (ds.drop n) env), ⟨ds.length, rfl, Nat.zero_le _, F1, env1, s1.sim, hT, P1⟩, ?_⟩
  rintro n m σ2 H2 ⟨rfl, hn, F2, env2, S2, T2, P2⟩
  by_cases hlt : n < ds.length
  · obtain ⟨d, hd⟩ : ∃ d, ds[n]? = some d := ⟨ds[n], by simp [hlt]⟩
    obtain ⟨hgo, hy⟩ := wk.item F2 H2 σ2 env2 n d S2 T2 hd
    refine .inr ⟨hgo, fun σ' H' => n + 1 ≤ ds.length ∧ ∃ F env, Sim X.K G.H0 F H' σ' env ∧ T F H' σ' env ∧ PostS X.K G (fun j => (I.for_ vs i ib).hits j) σ' F H' env E (forM (bindV vs) (evS G.cx ib) (ds.drop (n + 1)) env), fun σ' H' z => ⟨ds.length - (n + 1), by omega, rfl, z⟩, fun x H3 hx => ?_⟩
    obtain ⟨g, rx⟩ := hy x H3 hx
    have s3 : Stp X.K G.H0 σ2 (fun _ => false) F2 H2 env2 F2 H3 env2 := S2.stp g
    rw [bind_drop hd] at P2
    have P3 := P2.shift (s3.s.weak fun j hj => rfl)
    obtain ⟨e1, he1, P3⟩ := PostS.of (show PostS X.K G _ σ2 F2 H3 env2 E ((Out.of (bindV vs d env2)).bind _) from P3)
    refine g_tgt (h := fun j => vs.contains j) hne (fun j hj => List.contains_iff_mem.mpr hj) hpin rx s3.sim he1 fun σ4 s4 => ?_
    have P4 := P3.shift (s4.weak fun j hj => or_l (or_l hj))
    refine ⟨F2, e1, s4.sim, PostS.seq (E' := { E with nx := _, ct := _, bk := E.nx }) P4 (fun j hj => or_r hj) (fun _ _ z => z) fun env5 σ5 F5 H5 _ P5 s5 => ?_⟩
    refine ⟨hlt, F5, env5, s5.sim, ?_, P5⟩
    have t3 := wk.keep _ _ _ _ _ _ _ _ _ S2 T2 s3.s (fun _ _ => rfl)
    have t4 := wk.keep _ _ _ _ _ _ _ _ _ s3.sim t3 s4 (fun j hj => or_r (nh j hj))
    exact wk.keep _ _ _ _ _ _ _ _ _ s4.sim t4 s5 (fun j hj => or_l (nh j hj))
  · have hn' : n = ds.length := by omega
    subst hn'
    refine .inl ⟨wk.stop F2 H2 σ2 env2 S2 T2, ?_⟩
    rw [List.drop_length] at P2
    exact P2 σ2 F2 H2 (StpS.refl S2)
end

/-! ### list comprehensions -/
theorem wipeS_len (env : Nv) : ∀ vs : List Nat, (wipeS env vs).length = env.length
  | [] => rfl
  | v :: vs => by unfold wipeS; rw [List.length_set, wipeS_len env vs]
theorem wipeS_get (env : Nv) (j : Nat) : ∀ vs : List Nat, (wipeS env vs)[j]? = if j ∈ vs ∧ j < env.length then some .emp else env[j]?
  | [] => by simp [wipeS]
  | v :: vs => by
    unfold wipeS
    rw [get_set, wipeS_len, wipeS_get env j vs]
    by_cases h1 : v = j
    · subst h1
      by_cases h2 : v < env.length <;> simp [h2]
    · have h1' : ¬ j = v := fun z => h1 z.symm
      simp [h1, h1', List.mem_cons]
theorem wipe_get (σ : L2.St) (j : Nat) : ∀ vs : List Nat, (wipe σ vs)[j]? = if j ∈ vs ∧ j < σ.length then some none else σ[j]?
  | [] => by simp [wipe]
  | v :: vs => by
    unfold wipe
    rw [get_set, wipe_length, wipe_get σ j vs]
    by_cases h1 : v = j
    · subst h1
      by_cases h2 : v < σ.length <;> simp [h2]
    · have h1' : ¬ j = v := fun z => h1 z.symm
      simp [h1, h1', List.mem_cons]
theorem backS_len (env env' : Nv) : ∀ vs : List Nat, (backS env env' vs).length = env'.length
  | [] => rfl
  | v :: vs => by unfold backS; rw [List.length_set, backS_len env env' vs]
theorem backS_get (env env' : Nv) (hl : env.length = env'.length) (j : Nat) : ∀ vs : List Nat, (backS env env' vs)[j]? = if j ∈ vs then env[j]? else env'[j]?
  | [] => by simp [backS]
  | v :: vs => by
    unfold backS
    rw [get_set, backS_len, backS_get env env' hl j vs]
    by_cases h1 : v = j
    · subst h1
      by_cases h2 : v < env'.length
      · have h3 : v < env.length := by omega
        simp [h2, h3]
      · have h3 : env.length ≤ v := by omega
        have h4 : env'.length ≤ v := by omega
        simp [h2, h3, h4]
    · have h1' : ¬ j = v := fun z => h1 z.symm
      simp [h1, h1', List.mem_cons]
theorem wipe_wipe {σ σ2 : L2.St} {vs : List Nat} (hl : σ2.length = σ.length) (h : ∀ j, j ∉ vs → σ2[j]? = (wipe σ vs)[j]?) : wipe σ2 vs = wipe σ vs := by
  apply List.ext_getElem?
  intro j
  rw [wipe_get, wipe_get, hl]
  by_cases hj : j ∈ vs
  · simp only [hj, true_and]
    by_cases h2 : j < σ.length
    · simp [h2]
    · simp only [h2, if_false]
      rw [List.getElem?_eq_none (by omega), List.getElem?_eq_none (by omega)]
  · simp only [hj, false_and, if_false]
    rw [h j hj, wipe_get]
    simp [hj]
section
variable {K : PySem.W.Frag} {H0 : Bs} {σ σ' : L2.St} {F F' : Addr → Prop} {H H' : Hp} {env env' : Nv} {vs : List Nat} {h h' : Nat → Bool} {aa : Addr}
theorem wipeS_some {j : Nat} {s : Slot} (e : (wipeS env vs)[j]? = some s) (hs : s ≠ .emp) : env[j]? = some s ∧ j ∉ vs := by
  rw [wipeS_get] at e
  split at e
  · cases e; exact absurd rfl hs
  · rename_i hn
    refine ⟨e, fun z => hn ⟨z, ?_⟩⟩
    exact (List.getElem?_eq_some_iff.mp e).1
theorem wipe_off {j : Nat} (h : j ∉ vs) : (wipe σ vs)[j]? = σ[j]? := by rw [wipe_get]; simp [h]
theorem Own.wipe {b : Addr} (z : Own (L2.wipe σ vs) (wipeS env vs) b) : ∃ (j : Nat) (c : Cell), j ∉ vs ∧ env[j]? = some (Slot.own c) ∧ σ[j]? = some (some (V.ref b)) := by
  obtain ⟨j, c, e1, e2⟩ := z
  obtain ⟨e1, hj⟩ := wipeS_some e1 (fun z => nomatch z)
  exact ⟨j, c, hj, e1, by rw [wipe_off hj] at e2; exact e2⟩
theorem Sim.wipe (S : Sim K H0 F H σ env) : Sim K H0 F H (L2.wipe σ vs) (wipeS env vs) := by
  refine ⟨by rw [wipe_length, wipeS_len]; exact S.len, fun j d e => ?_, fun j c e => ?_, fun j k c c' a e1 e2 e3 e4 => ?_, S.old, S.fro⟩
  · obtain ⟨e, hj⟩ := wipeS_some e (fun z => nomatch z)
    rw [wipe_off hj]
    exact S.val j d e
  · obtain ⟨e, hj⟩ := wipeS_some e (fun z => nomatch z)
    rw [wipe_off hj]
    exact S.own j c e
  · obtain ⟨e1, hj⟩ := wipeS_some e1 (fun z => nomatch z)
    obtain ⟨e2, hk⟩ := wipeS_some e2 (fun z => nomatch z)
    rw [wipe_off hj] at e3
    rw [wipe_off hk] at e4
    exact S.sep j k c c' a e1 e2 e3 e4
theorem Sim.stpW (S : Sim K H0 F H σ env) (hp : ∀ i ∈ vs, H0.pin i = false) : StpS K H0 (fun j => vs.contains j) σ F H env (L2.wipe σ vs) F H (wipeS env vs) := by
  refine ⟨S.wipe, fun _ _ e _ => e, fun _ z => z, fun _ z => z, fun _ z => .inl z, fun b z => .inl ?_, fun j hj => ?_, fun j hj => wipe_off fun z => pin_ne (hp j z) hj rfl⟩
  · obtain ⟨j, c, _, e1, e2⟩ := Own.wipe z
    exact ⟨j, c, e1, e2⟩
  · have hj : j ∉ vs := fun z => by rw [List.contains_iff_mem.mpr z] at hj; cases hj
    rw [wipeS_get, wipe_get]
    simp [hj]
/-- a cell beside the slots is written -/
theorem Sim.beside {o : HO} (S : Sim K H0 F H σ env) (nF : ¬ F aa) (nO : ¬ Own σ env aa) (hc : IsCell H aa) : Sim K H0 F (upd H aa o) σ env := by
  have ok : OwnOk (fun b => b = aa) F H := fun b z => by subst z; exact ⟨nF, hc⟩
  refine ⟨S.len, fun j d e => ?_, fun j c e => ?_, S.sep, fun b z => ?_, fun b z => (upd_go (o := o)).fro S.fro b z⟩
  · obtain ⟨v, h1, h2⟩ := S.val j d e
    exact ⟨v, h1, h2.go upd_go ok⟩
  · obtain ⟨a, h1, h2, h3, h4⟩ := S.own j c e
    exact ⟨a, h1, h2.go upd_go ok fun z => nO (z ▸ ⟨j, c, e, h1⟩), h3, h4⟩
  · by_cases hb : b = aa
    · subst hb; rw [upd_same] at z; cases z
    · rw [upd_ne hb] at z; exact S.old b z
theorem Go.updNew {O : Addr → Prop} {o : HO} (g : Go O F H F' H') (hn : H aa = none) : Go O F H F' (L2.upd H' aa o) := by
  have ne : ∀ b, H b ≠ none → b ≠ aa := fun b z e => by subst e; exact z hn
  refine ⟨fun b x e n => ?_, fun b z => ?_, g.up, g.new, fun k b z y => ?_⟩
  · rw [upd_ne (ne b (by rw [e]; exact fun z => nomatch z))]; exact g.keep b x e n
  · rw [upd_ne (ne b z)]; exact g.stay b z
  · by_cases hb : b = aa
    · subst hb; rw [upd_same] at y; cases y
    · rw [upd_ne hb] at y; exact g.fro k b z y
/-- behind the block: its own names as they were -/
theorem Stp.back (S : Sim K H0 F H σ env) (s : Stp K H0 (L2.wipe σ vs) h F H (wipeS env vs) F' H' env') (e : ∀ j, h' j = false → h j = false ∧ j ∉ vs) : Stp K H0 σ h' F H env F' H' (backS env env' vs) := by
  have hl : env.length = env'.length := by
    have h1 := s.sim.len
    rw [wipe_length, S.len] at h1
    exact h1
  have Osub : ∀ b, Own (L2.wipe σ vs) (wipeS env vs) b → Own σ env b := fun b z => by
    obtain ⟨j, c, _, e1, e2⟩ := Own.wipe z
    exact ⟨j, c, e1, e2⟩
  have Sw : Sim K H0 F H (L2.wipe σ vs) (wipeS env vs) := S.wipe
  have out : ∀ {j : Nat} {c : Cell}, j ∉ vs → env'[j]? = some (Slot.own c) → ∃ c', env[j]? = some (Slot.own c') := fun {j c} hj z => by
    obtain ⟨c', e'⟩ := (s.owns j).mp ⟨c, z⟩
    exact ⟨c', (wipeS_some e' (fun z => nomatch z)).1⟩
  refine ⟨⟨by rw [backS_len, ← hl]; exact S.len, fun j d z => ?_, fun j c z => ?_, fun j k c c' a z1 z2 z3 z4 => ?_, s.sim.old, s.sim.fro⟩, s.go.mono Osub, fun j => ?_, fun j hj => ?_⟩
  · rw [backS_get env env' hl] at z
    split at z
    · obtain ⟨v, h1, h2⟩ := S.val j d z
      exact ⟨v, h1, h2.go s.go Sw.ok⟩
    · rename_i hj
      obtain ⟨v, h1, h2⟩ := s.sim.val j d z
      rw [wipe_off hj] at h1
      exact ⟨v, h1, h2⟩
  · rw [backS_get env env' hl] at z
    split at z
    · rename_i hj
      obtain ⟨a, h1, h2, h3, h4⟩ := S.own j c z
      refine ⟨a, h1, h2.go s.go Sw.ok fun w => ?_, fun w => ?_, h4⟩
      · obtain ⟨k, c', hk, e1, e2⟩ := Own.wipe w
        have := S.sep j k c c' a z e1 h1 e2
        subst this
        exact hk hj
      · rcases s.go.new a w with w | w
        · exact h3 w
        · exact h2.there w
    · rename_i hj
      obtain ⟨a, h1, h2, h3, h4⟩ := s.sim.own j c z
      rw [wipe_off hj] at h1
      exact ⟨a, h1, h2, h3, h4⟩
  · rw [backS_get env env' hl] at z1 z2
    split at z1
    · rename_i hj
      split at z2
      · exact S.sep j k c c' a z1 z2 z3 z4
      · rename_i hk
        obtain ⟨c2, e2⟩ := out hk z2
        exact S.sep j k c c2 a z1 e2 z3 z4
    · rename_i hj
      obtain ⟨c1, e1⟩ := out hj z1
      split at z2
      · exact S.sep j k c1 c' a e1 z2 z3 z4
      · rename_i hk
        obtain ⟨c2, e2⟩ := out hk z2
        exact S.sep j k c1 c2 a e1 e2 z3 z4
  · rw [backS_get env env' hl]
    split
    · exact Iff.rfl
    · rename_i hj
      rw [s.owns j]
      constructor
      · rintro ⟨c, z⟩; exact ⟨c, (wipeS_some z (fun z => nomatch z)).1⟩
      · rintro ⟨c, z⟩
        refine ⟨c, ?_⟩
        rw [wipeS_get]
        simp [hj, z]
  · obtain ⟨h1, h2⟩ := e j hj
    rw [backS_get env env' hl, if_neg h2, s.off j h1, wipeS_get]
    simp [h2]
end
end PyI

end
section
set_option autoImplicit false
/-! PyK: list comprehensions: the block. -/
namespace PyI
open PySem PySem.Spec PyProof.Rows L2 RZ RT

theorem bindV_len {vs : List Nat} {d : D} {env e1 : Nv} (hn : vs ≠ []) (e : bindV vs d env = some e1) : e1.length = env.length := by
  have fold : ∀ (ps : List (Nat × D)) (env : Nv), (ps.foldl (fun e p => e.set p.1 (Slot.val p.2)) env).length = env.length := fun ps => by
    induction ps with
    | nil => intro env; rfl
    | cons p ps ih => intro env; rw [List.foldl_cons, ih, List.length_set]
  by_cases h2 : 2 ≤ vs.length
  · obtain ⟨ds, _, _, rfl⟩ := bindV_many h2 e
    exact fold _ _
  · match vs, hn, h2 with
    | [i], _, _ =>
      have e' : some (env.set i (.val d)) = some e1 := e
      cases e'
      rw [List.length_set]
    | _ :: _ :: _, _, h2 => exact absurd (by simp) h2
section
variable {K : PySem.W.Frag} {H0 : Bs} {σ σ' : L2.St} {F F' : Addr → Prop} {H H' : Hp} {env env' e1 : Nv} {vs : List Nat} {h h' : Nat → Bool}
/-- a block's turn: the names bound, a step, the names forgotten -/
theorem Stp.block (s4 : StpS K H0 (fun j => vs.contains j) σ F H env σ' F H e1) (s : Stp K H0 σ' h F H e1 F' H' env') (hw : wipe σ' vs = σ) (hno : ∀ (j : Nat) (c : Cell), j ∈ vs → env[j]? ≠ some (Slot.own c)) (e : ∀ j, h' j = false → h j = false ∧ j ∉ vs) :
    Stp K H0 σ h' F H env F' H' (wipeS env' vs) := by
  have c0 : ∀ {j : Nat}, j ∉ vs → (fun j => vs.contains j) j = false := fun {j} hj => by
    show vs.contains j = false
    cases q : vs.contains j with
    | false => rfl
    | true => exact absurd (List.contains_iff_mem.mp q) hj
  have S' := s.sim.wipe (vs := vs)
  rw [hw] at S'
  refine ⟨S', s.go.mono fun b z => ?_, fun j => ?_, fun j hj => ?_⟩
  · rcases s4.own b z with w | w
    · exact w
    · rcases (s4.sim.ok b z).2 with ⟨_, q⟩ | ⟨_, q⟩ | ⟨_, q⟩ <;> rw [w] at q <;> cases q
  · constructor
    · rintro ⟨c, z⟩
      obtain ⟨z, hj⟩ := wipeS_some z (fun z => nomatch z)
      obtain ⟨c', z⟩ := (s.owns j).mp ⟨c, z⟩
      rw [(s4.off j (c0 hj)).1] at z
      exact ⟨c', z⟩
    · rintro ⟨c, z⟩
      have hj : j ∉ vs := fun w => hno j c w z
      rw [← (s4.off j (c0 hj)).1] at z
      obtain ⟨c', z⟩ := (s.owns j).mpr ⟨c, z⟩
      refine ⟨c', ?_⟩
      rw [wipeS_get]
      simp [hj, z]
  · obtain ⟨h1, h2⟩ := e j hj
    rw [wipeS_get]
    simp only [h2, false_and, if_false]
    exact (s.off j h1).trans (s4.off j (c0 h2)).1
end
def Gc.no (G : Gc) : Gc := { G with W := fun _ _ _ _ => False }
def TTs (K : PySem.W.Frag) (G : Gc) (i : I) : L2.TT := fun σ H Q => ∃ F env, Sim K G.H0 F H σ env ∧ Post K G σ (fun j => i.hits j) F H env relE Q (evTs G.cx i env)
section
variable {X : Cx} {K : PySem.W.Frag} {G : Gc} {i ia ib ic il ih ie it is : I} {e a b c tg : Expr} {es : List Expr} {pos : Pos} {sts : List Stmt} {st : Stmt} {vs : List Nat}
theorem lc_step {bd : D → Nv → Option Nv} {tt : Nv → Out (Bool × Nv)} {el : Nv → Out (D × Nv)} {d : D} {ds : List D} {env : Nv} {r : List D × Nv} (h : lcM bd tt el vs (d :: ds) env = .ok r) :
    ∃ e1, bd d env = some e1 ∧ ∃ t e2, tt e1 = .ok (t, e2) ∧ match t with
      | false => lcM bd tt el vs ds (wipeS e2 vs) = .ok r
      | true => ∃ x e3, el e2 = .ok (x, e3) ∧ ∃ rest, lcM bd tt el vs ds (wipeS e3 vs) = .ok (rest, r.2) ∧ r.1 = x :: rest := by
  unfold lcM at h
  cases h1 : bd d env with
  | none => rw [h1] at h; cases h
  | some e1 =>
    rw [h1] at h
    simp only [Out.of_some, Out.bd_ok] at h
    refine ⟨e1, rfl, ?_⟩
    cases h2 : tt e1 with
    | stuck => rw [h2] at h; cases h
    | exc _ => rw [h2] at h; cases h
    | ok t =>
      obtain ⟨t, e2⟩ := t
      rw [h2] at h
      simp only [Out.bd_ok] at h
      refine ⟨t, e2, rfl, ?_⟩
      cases t with
      | false => exact h
      | true =>
        simp only at h
        cases h3 : el e2 with
        | stuck => rw [h3] at h; cases h
        | exc _ => rw [h3] at h; cases h
        | ok x =>
          obtain ⟨x, e3⟩ := x
          rw [h3] at h
          simp only [Out.bd_ok] at h
          refine ⟨x, e3, rfl, ?_⟩
          cases h4 : lcM bd tt el vs ds (wipeS e3 vs) with
          | stuck => rw [h4] at h; cases h
          | exc _ => rw [h4] at h; cases h
          | ok q =>
            rw [h4] at h
            cases h
            exact ⟨q.1, rfl, rfl⟩
theorem no_own {H0 : Bs} {σ : L2.St} {F F' : Addr → Prop} {H H' : Hp} {env env' : Nv} {h : Nat → Bool} (s : Stp K H0 σ h F H (wipeS env vs) F' H' env') : ∀ (j : Nat) (c : Cell), j ∈ vs → env'[j]? ≠ some (Slot.own c) := fun j c hj z => by
  obtain ⟨c', z⟩ := (s.owns j).mp ⟨c, z⟩
  exact (wipeS_some z (fun z => nomatch z)).2 hj
theorem te_lc (hne : vs ≠ []) (hpin : ∀ i ∈ vs, G.H0.pin i = false) {σ : L2.St} {H : Hp} {Q : VK} (h : TE K G (.lc ie vs is it) σ H Q) : tLc (TI K G is) (gTgt K vs) (TTs K G.no it) (TE K G.no ie) vs σ H Q := by
  obtain ⟨F, env, S, P⟩ := h
  rw [evE] at P
  refine ⟨F, env, S, P.seq0 (fun j hj => or_r (or_l hj)) fun r env1 F1 J H1 _ P1 s1 q1 => ?_⟩
  obtain ⟨ds, refs⟩ := r
  obtain ⟨T, wk, hT⟩ := q1
  cases hany : (refs.any (fun i => ie.hits i || it.hits i || vs.contains i) || decide (16777216 < ds.length)) with
  | true => simp only [hany, if_true] at P1; exact P1.elim
  | false =>
  simp only [hany, Bool.false_eq_true, if_false] at P1
  have nh := any_no (or_l hany)
  have hlen : ds.length ≤ 16777216 := by have := of_decide_eq_false (or_r hany); omega
  cases hq : lcM (bindV vs) (evTs G.cx it) (fun en => (evE G.cx ie en).bind fun x => (Out.of (noRef [x.1])).bind fun d => .ok (d.headD .non, x.2)) vs ds (wipeS env1 vs) with
  | stuck => rw [hq] at P1; exact P1.elim
  | exc x => rw [hq] at P1; exact P1.elim
  | ok all =>
  rw [hq] at P1
  obtain ⟨all, envE⟩ := all
  simp only [noExc_ok, Out.bd_ok] at P1
  intro Dd hD
  have hhh : ∀ j, (ie.hits j || it.hits j || vs.contains j) = false → j ∉ vs := fun j hj z => by
    have := or_r hj
    rw [List.contains_iff_mem.mpr z] at this; cases this
  refine ⟨fun n m H2 => m = ds.length - n ∧ n ≤ ds.length ∧ ∃ F2 env2 done rest, Stp K G.H0 (wipe σ vs) (fun j => ie.hits j || it.hits j || vs.contains j) F1 H1 (wipeS env1 vs) F2 H2 env2 ∧
      lcM (bindV vs) (evTs G.cx it) (fun en => (evE G.cx ie en).bind fun x => (Out.of (noRef [x.1])).bind fun d => .ok (d.headD .non, x.2)) vs (ds.drop n) env2 = .ok (rest, envE) ∧
      done ++ rest = all ∧ done.length ≤ n ∧ CellAt K F2 H2 Dd (.lst done) ∧ ¬ F2 Dd ∧ ¬ Own (wipe σ vs) env2 Dd,
    ⟨ds.length, rfl, Nat.zero_le _, F1, wipeS env1 vs, [], all, (s1.sim.wipe).stp (Go.upd hD), hq, rfl, Nat.le_refl _, ⟨[], upd_same, .nil⟩, fun z => s1.sim.fro Dd z hD, (s1.sim.wipe).new hD⟩, ?_⟩
  rintro n m H2 ⟨rfl, hn, F2, env2, done, rest, L, hl, hall, hdone, hc, nF, nO⟩
  have T2 : T F2 H2 (wipe σ vs) env2 := wk.keep _ _ _ _ _ _ _ _ _ s1.sim.wipe (wk.keep _ _ _ _ _ _ _ _ _ s1.sim hT (s1.sim.stpW hpin) fun j hj => or_r (nh j hj)) L.s fun j hj => nh j hj
  by_cases hlt : n < ds.length
  · obtain ⟨d, hd⟩ : ∃ d, ds[n]? = some d := ⟨ds[n], by simp [hlt]⟩
    obtain ⟨hgo, hy⟩ := wk.item F2 H2 _ env2 n d L.sim T2 hd
    refine .inr ⟨hgo, fun H' => n + 1 ≤ ds.length ∧ ∃ F2 env2 done rest, Stp K G.H0 (wipe σ vs) (fun j => ie.hits j || it.hits j || vs.contains j) F1 H1 (wipeS env1 vs) F2 H' env2 ∧
      lcM (bindV vs) (evTs G.cx it) (fun en => (evE G.cx ie en).bind fun x => (Out.of (noRef [x.1])).bind fun d => .ok (d.headD .non, x.2)) vs (ds.drop (n + 1)) env2 = .ok (rest, envE) ∧
      done ++ rest = all ∧ done.length ≤ n + 1 ∧ CellAt K F2 H' Dd (.lst done) ∧ ¬ F2 Dd ∧ ¬ Own (wipe σ vs) env2 Dd, fun H' z => ⟨ds.length - (n + 1), by omega, rfl, z⟩, fun x H3 hx => ?_⟩
    obtain ⟨g, rx⟩ := hy x H3 hx
    have s3 : Stp K G.H0 (wipe σ vs) (fun _ => false) F2 H2 env2 F2 H3 env2 := L.sim.stp g
    have L3 : Stp K G.H0 (wipe σ vs) (fun j => ie.hits j || it.hits j || vs.contains j) F1 H1 (wipeS env1 vs) F2 H3 env2 := L.trans s3 (fun _ z => z) (fun _ _ => rfl)
    have hc3 : CellAt K F2 H3 Dd (.lst done) := hc.go g noO_ok (fun z => z)
    rw [bind_drop hd] at hl
    obtain ⟨e1, he1, t, e5, ht, hrest⟩ := lc_step hl
    refine g_tgt (h := fun j => vs.contains j) hne (fun j hj => List.contains_iff_mem.mpr hj) hpin rx s3.sim he1 fun σ4 s4 => ?_
    have hw : wipe σ4 vs = wipe σ vs := wipe_wipe (by
      have h1 := s4.sim.len
      rw [bindV_len hne he1, ← s3.sim.len, wipe_length] at h1
      exact h1) fun j hj => (s4.off j (by
        show vs.contains j = false
        cases q : vs.contains j with
        | false => rfl
        | true => exact absurd (List.contains_iff_mem.mp q) hj)).2
    have hno := no_own L3
    refine ⟨hw, F2, e1, s4.sim, ?_⟩
    show Post K G.no σ4 _ F2 H3 e1 relE _ (evTs G.cx it e1)
    rw [ht]
    intro F5 t' H5 s5 q5
    cases q5
    cases t with
    | false =>
      rw [if_neg Bool.false_ne_true]
      have B : Stp K G.H0 (wipe σ vs) (fun j => ie.hits j || it.hits j || vs.contains j) F2 H3 env2 F5 H5 (wipeS e5 vs) := Stp.block s4 s5 hw hno fun j hj => ⟨or_r (or_l hj), hhh j hj⟩
      have nH : H3 Dd ≠ none := hc3.there
      refine ⟨hlt, F5, wipeS e5 vs, done, rest, L3.trans B (fun _ z => z) fun _ z => z, hrest, hall, by omega, hc3.go B.go L3.sim.ok nO, fun z => (B.go.new Dd z).elim nF nH, fun z => nO ((B.ownEq Dd).mp z)⟩
    | true =>
      rw [if_pos rfl]
      obtain ⟨dx, e6, he6, rest', hrest', hr⟩ := hrest
      refine ⟨F5, e5, s5.sim, ?_⟩
      show Post K G.no σ4 _ F5 H5 e5 _ _ (evE G.cx ie e5)
      cases ev : evE G.cx ie e5 with
      | stuck => rw [ev] at he6; cases he6
      | exc x => rw [ev] at he6; cases he6
      | ok r6 =>
      obtain ⟨r6, e6'⟩ := r6
      rw [ev] at he6
      simp only [Out.bd_ok] at he6
      cases hnr : noRef [r6] with
      | none => rw [hnr] at he6; cases he6
      | some dd =>
      obtain ⟨d0, rfl⟩ := noRef_one hnr
      rw [hnr] at he6
      have hz : d0 = dx ∧ e6' = e6 := by
        have h1 := Out.ok.inj (show Out.ok (d0, e6') = Out.ok (dx, e6) from he6)
        exact ⟨congrArg Prod.fst h1, congrArg Prod.snd h1⟩
      obtain ⟨hz1, hz2⟩ := hz
      subst hz1 hz2
      intro F6 y H6 s6 q6
      obtain ⟨F7, s7, up, r7⟩ := freeze s5.sim s6 (.cons q6 .nil) hnr
      have r7 : Rep K F7 H6 y d0 := by cases r7 with | cons r _ => exact r
      have B : Stp K G.H0 (wipe σ vs) (fun j => ie.hits j || it.hits j || vs.contains j) F2 H3 env2 F7 H6 (wipeS e6' vs) :=
        Stp.block (h := fun j => ie.hits j || it.hits j) s4 (s5.trans s7 (fun j hj => or_r hj) fun j hj => or_l hj) hw hno fun j hj => ⟨or_l hj, hhh j hj⟩
      have nH : H3 Dd ≠ none := hc3.there
      have hc7 : CellAt K F7 H6 Dd (.lst done) := hc3.go B.go L3.sim.ok nO
      have nF7 : ¬ F7 Dd := fun z => (B.go.new Dd z).elim nF nH
      have nO7 : ¬ Own (wipe σ vs) (wipeS e6' vs) Dd := fun z => nO ((B.ownEq Dd).mp z)
      have L7 : Stp K G.H0 (wipe σ vs) (fun j => ie.hits j || it.hits j || vs.contains j) F1 H1 (wipeS env1 vs) F7 H6 (wipeS e6' vs) := L3.trans B (fun _ z => z) fun _ z => z
      obtain ⟨acc, ha, hacc⟩ := id hc7
      refine ⟨acc, ha, by rw [hacc.length, sizeLine_16]; omega, hlt, F7, wipeS e6' vs, done ++ [d0], rest', ⟨L7.sim.beside nF7 nO7 (.inl ⟨_, ha⟩), L7.go.updNew hD, L7.owns, L7.off⟩, hrest', ?_, ?_, ?_, nF7, nO7⟩
      · rw [← hall]
        show (done ++ [d0]) ++ rest' = done ++ rest
        have hr : rest = d0 :: rest' := hr
        rw [hr, List.append_assoc]; rfl
      · rw [List.length_append]; simp only [List.length_cons, List.length_nil]; omega
      · have ok : OwnOk (fun b => b = Dd) F7 H6 := fun b z => by subst z; exact ⟨nF7, .inl ⟨_, ha⟩⟩
        exact ⟨_, upd_same, (hacc.append (.cons r7 .nil)).go upd_go ok⟩
  · have hn' : n = ds.length := by omega
    subst hn'
    refine .inl ⟨wk.stop F2 H2 _ env2 L.sim T2, ?_⟩
    rw [List.drop_length] at hl
    cases hl
    rw [List.append_nil] at hall
    subst hall
    have B : Stp K G.H0 σ (fun j => (I.lc ie vs is it).hits j) F1 H1 env1 F2 H2 (backS env1 envE vs) := Stp.back s1.sim L fun j hj => by
      have h1 : ie.hits j = false := or_l (or_l (or_l hj))
      have h2 : vs.contains j = false := or_r (or_l (or_l hj))
      have h3 : it.hits j = false := or_r hj
      exact ⟨by show (ie.hits j || it.hits j || vs.contains j) = false; rw [h1, h2, h3]; rfl, fun z => by rw [List.contains_iff_mem.mpr z] at h2; cases h2⟩
    refine P1 F2 _ H2 (s1.trans B (fun j hj => or_r (or_l hj)) fun _ z => z) ⟨Dd, rfl, hc, nF, fun z => ?_, s1.go.back hD⟩
    obtain ⟨j, c, g1, g2⟩ := (B.ownEq Dd).mp z
    obtain ⟨a, k1, k2, _⟩ := s1.sim.own j c g1
    rw [g2] at k1; cases k1
    exact k2.there hD
end
end PyI

end
section
set_option autoImplicit false
/-! PyL: in, a if c else b, methods. -/
namespace PyI
open PySem PySem.Spec PyProof.Rows L2 RZ RT

/-! ### in -/
theorem find_py {d : D} (hd : d.plain = true) : ∀ {ds : List D}, D.plainL ds = true → (findD d ds).isSome = (D.pyL ds).any fun z => PyData.eqv z d.py
  | [], _ => rfl
  | x :: xs, h => by
    obtain ⟨h1, h2⟩ := Bool.and_eq_true_iff.mp (show (x.plain && D.plainL xs) = true from h)
    show (if D.eqv x d = true then some 0 else (findD d xs).map (· + 1)).isSome = (PyData.eqv x.py d.py || (D.pyL xs).any fun z => PyData.eqv z d.py)
    rw [eqv_py _ _ h1 hd, ← find_py hd h2]
    cases D.eqv x d <;> simp
theorem inOk_of {d : D} {ds : List D} (h : inOk d ds = true) : d.plain = true ∧ D.plainL ds = true ∧ min (D.depthL ds) d.depth ≤ 64 := by
  obtain ⟨h1, h3⟩ := Bool.and_eq_true_iff.mp h
  obtain ⟨h1, h2⟩ := Bool.and_eq_true_iff.mp h1
  refine ⟨h1, h2, ?_⟩
  rcases Bool.or_eq_true_iff.mp h3 with h | h
  · have := of_decide_eq_true h; omega
  · have := of_decide_eq_true h; omega
section
variable {X : Cx}
theorem opIn_cases {x y : D} {r : Bool} (e : opIn x y = .ok r) :
    (∃ a b, x = .str a ∧ y = .str b ∧ r = strIn a b) ∨ (∃ ds, (y = .lst ds ∨ y = .tup ds) ∧ inOk x ds = true ∧ r = inD x ds) ∨ ∃ o, y.dget x = some o ∧ r = o.isSome := by
  unfold opIn at e
  split at e
  · cases e; exact .inl ⟨_, _, rfl, rfl, rfl⟩
  · split at e
    · cases e; exact .inr (.inl ⟨_, .inl rfl, by assumption, rfl⟩)
    · cases e
  · split at e
    · cases e; exact .inr (.inl ⟨_, .inr rfl, by assumption, rfl⟩)
    · cases e
  · cases h : y.dget x with
    | none => rw [h] at e; cases e
    | some o => rw [h] at e; cases e; exact .inr (.inr ⟨o, rfl, rfl⟩)
theorem dp_list {K : PySem.W.Frag} {F : Addr → Prop} {H : Hp} {v : V} {ds : List D} {y : D} (hy : y = .lst ds ∨ y = .tup ds) (h : RepV K F H v y) (p : D.plainL ds = true) :
    PyData.canLayAll0 (D.pyL ds) = true ∧ Dp K H v y.py := by
  rcases hy with rfl | rfl
  · obtain ⟨h1, h2⟩ := h.dp (show D.plainL ds = true from p)
    exact ⟨h2, h1⟩
  · obtain ⟨h1, h2⟩ := h.dp (show D.plainL ds = true from p)
    exact ⟨h2, h1⟩
theorem opr_in (hu : X.A.units + 66 < cLine) : OpR X (compareOp .In) (rB2 X.K (opCmp .isIn)) := by
  intro pins s σ H x y v u Q I rx ry h
  obtain ⟨F, dx, dy, r, fo, hx, hy, e, q⟩ := h
  have q := q H Go.refl
  rcases opIn_cases (show opIn dx dy = .ok r by cases dx <;> cases dy <;> exact e) with ⟨a, b, rfl, rfl, rfl⟩ | ⟨ds, hds, hok, rfl⟩ | ⟨o, ho, rfl⟩
  · obtain ⟨rfl, _⟩ := hx.str
    obtain ⟨rfl, _⟩ := hy.str
    exact op_in_str pins s σ H _ _ v u Q I rx ry ⟨a, b, rfl, rfl, q⟩
  · obtain ⟨p1, p2, p3⟩ := inOk_of hok
    obtain ⟨d1, c1⟩ := hx.dp p1
    obtain ⟨c2, d2⟩ := dp_list hds hy p2
    obtain ⟨as, r1⟩ := Dp.reads I _ x v d1 rx
    obtain ⟨bs, r2⟩ := Dp.reads I _ y u d2 ry
    have hq : Q (.bl ((D.pyL ds).any fun z => PyData.eqv z dx.py)) H := by rw [← find_py p1 p2]; exact q
    have hroom : X.A.units + 1 + min (PyData.depthAll (D.pyL ds)) dx.py.depth < cLine := by rw [depthL_py _ p2, depth_py _ p1]; omega
    rcases hds with rfl | rfl
    · exact SeqAt.in_list_reads r2 r1 c2 c1 hroom ⟨.bl _, H, I, rfl, hq⟩
    · exact SeqAt.in_tuple_reads r2 r1 c2 c1 hroom ⟨.bl _, H, I, rfl, hq⟩
  · obtain ⟨a, w, rfl, g, hs, _⟩ := dget_rep hy hx ho
    cases ry
    refine d_in (by omega) I g rx fun s' I' => ⟨.bl _, H, I', rfl, ?_⟩
    rw [hs]; exact q
theorem opr_notIn (hu : X.A.units + 66 < cLine) : OpR X (compareOp .NotIn) (rB2 X.K (opCmp .notIn)) := by
  intro pins s σ H x y v u Q I rx ry h
  obtain ⟨F, dx, dy, r0, fo, hx, hy, e, q⟩ := h
  have q := q H Go.refl
  have e' : (opIn dx dy).bind (fun r => .ok (!r)) = .ok r0 := by cases dx <;> cases dy <;> exact e
  cases e2 : opIn dx dy with
  | stuck => rw [e2] at e'; cases e'
  | exc _ => rw [e2] at e'; cases e'
  | ok r =>
  rw [e2] at e'
  cases e'
  rcases opIn_cases e2 with ⟨a, b, rfl, rfl, rfl⟩ | ⟨ds, hds, hok, rfl⟩ | ⟨o, ho, rfl⟩
  · obtain ⟨rfl, _⟩ := hx.str
    obtain ⟨rfl, _⟩ := hy.str
    exact op_notIn_str pins s σ H _ _ v u Q I rx ry ⟨a, b, rfl, rfl, q⟩
  · obtain ⟨p1, p2, p3⟩ := inOk_of hok
    obtain ⟨d1, c1⟩ := hx.dp p1
    obtain ⟨c2, d2⟩ := dp_list hds hy p2
    obtain ⟨as, r1⟩ := Dp.reads I _ x v d1 rx
    obtain ⟨bs, r2⟩ := Dp.reads I _ y u d2 ry
    have hq : Q (.bl (!(D.pyL ds).any fun z => PyData.eqv z dx.py)) H := by rw [← find_py p1 p2]; exact q
    have hroom : X.A.units + 1 + min (PyData.depthAll (D.pyL ds)) dx.py.depth < cLine := by rw [depthL_py _ p2, depth_py _ p1]; omega
    rcases hds with rfl | rfl
    · exact SeqAt.notIn_list_reads r2 r1 c2 c1 hroom ⟨.bl _, H, I, rfl, hq⟩
    · exact SeqAt.notIn_tuple_reads r2 r1 c2 c1 hroom ⟨.bl _, H, I, rfl, hq⟩
  · obtain ⟨a, w, rfl, g, hs, _⟩ := dget_rep hy hx ho
    cases ry
    refine d_notIn (by omega) I g rx fun s' I' => ⟨.bl _, H, I', rfl, ?_⟩
    rw [hs]; exact q
end

/-! ### methods that change nothing -/
section
variable {X : Cx} {G : Gc} {i ia ib ic io : I} {e a b c o : Expr} {es : List Expr} {pos apos cpos : Pos}
def rMe (K : PySem.W.Frag) (m : Me) : V → List V → Hp → VK → Prop := fun x vs H Q => ∃ F dx ds r, FOk F H ∧ RepV K F H x dx ∧ RepVs K F H vs ds ∧ opMe m dx ds = .ok r ∧ ∀ v H', Go noO F H F H' → RepN K H F H' v r → Q v H'
def Me.ty : Me → String
  | .join => "str" | .startswith => "str" | .split => "str" | .partition => "str" | .index => "list" | .sidx => "str" | .get => "dict" | .getOr => "dict"
theorem fits_ty {K : PySem.W.Frag} {F : Addr → Prop} {H : Hp} {x : V} {d : D} {m : Me} (h : RepV K F H x d) (f : m.fits d = true) : tyV K m.ty x H := by
  cases m <;> cases d <;> first | (cases f; done) | skip
  case join.str => obtain ⟨rfl, _⟩ := h.str; rfl
  case startswith.str => obtain ⟨rfl, _⟩ := h.str; rfl
  case split.str => obtain ⟨rfl, _⟩ := h.str; rfl
  case partition.str => obtain ⟨rfl, _⟩ := h.str; rfl
  case sidx.str => obtain ⟨rfl, _⟩ := h.str; rfl
  case index.lst => obtain ⟨a, xs, rfl, h1, _⟩ := h.lst; exact .inl ⟨rfl, xs, h1⟩
  case get.dK => obtain ⟨a, kvs, rfl, h1, _⟩ := h.dK; exact .inr (.inr (.inl ⟨rfl, .inl ⟨kvs, h1⟩⟩))
  case get.dT => obtain ⟨a, kvs, rfl, h1, _⟩ := h.dT; exact .inr (.inr (.inl ⟨rfl, .inr ⟨kvs, h1⟩⟩))
  case getOr.dK => obtain ⟨a, kvs, rfl, h1, _⟩ := h.dK; exact .inr (.inr (.inl ⟨rfl, .inl ⟨kvs, h1⟩⟩))
  case getOr.dT => obtain ⟨a, kvs, rfl, h1, _⟩ := h.dT; exact .inr (.inr (.inl ⟨rfl, .inr ⟨kvs, h1⟩⟩))
theorem opMe_nox (m : Me) (x : D) (ds : List D) : NoX (opMe m x ds) := by
  unfold opMe
  split
  · exact (NoX.of _).bind fun _ => NoX.ite trivial trivial
  · exact (NoX.of _).bind fun _ => trivial
  · exact (NoX.of _).bind fun _ => NoX.ite trivial trivial
  · trivial
  · exact NoX.ite trivial trivial
  · exact NoX.ite trivial trivial
  · exact NoX.ite ((NoX.of _).bind fun _ => trivial) trivial
  · exact (NoX.of _).bind fun _ => trivial
  · trivial
theorem te_me {m : Me} {σ : L2.St} {H : Hp} {Q : VK} (h : TE X.K G (.me m io ia) σ H Q) : tBM X.K m.ty (rMe X.K m) (TE X.K G io) (TA X.K G ia) σ H Q := by
  obtain ⟨F, env, S, P⟩ := h
  rw [evE] at P
  refine ⟨F, env, S, P.seq (fun j hj => or_l hj) fun r env1 F1 x H1 _ P1 s1 q1 => ?_⟩
  obtain ⟨d0, h0, P1⟩ := P1.of
  obtain ⟨hf, P1⟩ := P1.ite
  refine ⟨fits_ty (q1.get s1.sim h0) hf, F1, env1, s1.sim, P1.seq (fun j hj => or_r hj) fun rs env2 F2 vs H2 _ P2 s2 q2 => ?_⟩
  obtain ⟨dx, hx, P2⟩ := P2.of
  obtain ⟨ds, hds, P2⟩ := P2.of
  cases e : opMe m dx ds with
  | stuck => rw [e] at P2; exact P2.elim
  | exc _ => exact ((opMe_nox _ _ _).no e).elim
  | ok r =>
    rw [e] at P2
    exact ⟨F2, dx, ds, r, s2.sim.fro, (q1.stp s2 s1.sim).get s2.sim hx, RepRs.get s2.sim q2 hds, e, fun v H' g q => P2 F2 v H' (s2.sim.stp g) (q.r s2.sim fun b z => s1.go.back (s2.go.back z))⟩
def isCall0 : Expr → Bool
  | .Call _ [] [] _ => true
  | _ => false
theorem base_of {name : Str} {env : PySem.Env} (h : isCall0 o = false) : attributeBase o name env (eval o env) = eval o env := by
  cases o <;> try rfl
  rename_i f as ks p
  cases as with
  | nil =>
    cases ks with
    | nil => cases h
    | cons k ks => cases f <;> rfl
  | cons a as => cases f <;> rfl
theorem few_of {env : PySem.Env} (ns : (e :: es).all notStar = true) (hl : (e :: es).length < 30) :
    ((backTo cpos (starEach (e :: es) env)).all (fun x => !x.1) && (backToKw cpos (keywordEach [] env)).all (fun x => x.1.isSome)
      && decide ((e :: es).length + ([] : List Keyword).length + (if ([] : List Keyword).isEmpty then 0 else 1) < 30)) = true := by
  have h1 : ∀ {es : List Expr}, es.all notStar = true → (backTo cpos (starEach es env)).all (fun x => !x.1) = true := fun {es} h => by
    have := starEach_any (pos := cpos) (env := env) h
    rw [List.any_eq_false] at this
    exact List.all_eq_true.mpr fun x hx => by
      cases q : x.1 with
      | false => rfl
      | true => exact absurd q (this x hx)
  rw [h1 ns]
  show ((true && true) && decide ((e :: es).length + 0 + 0 < 30)) = true
  rw [decide_eq_true (by omega)]
  rfl
theorem se_me {m : Me} {name : Str} {id : String} (pa : PlainAttrs m.ty) (slot : PySem.Slot m.ty name id) (hty : typeOf (.builtin id) = pure (.type "method_descriptor")) (hm : MtR X id (rMe X.K m)) (ho : SE X G o io) (hb : isCall0 o = false) (ha : SA X G (a :: es) ia) (hl : (a :: es).length < 30)
    (hline : (apos.endLine == cpos.line) = true) : SE X G (.Call (.Attribute o name apos) (a :: es) [] cpos) (.me m io ia) := by
  have ns := Bool.and_eq_true_iff.mp (show (notStar a && es.all notStar) = true from ha.ns)
  exact SE.of_pe (imp_pe (pe_bm pa slot hty hm ho.pe ha.pa (base_of hb) (few_of ha.ns hl) hline (starEach_cons ns.1) (starEach_any ns.2)) fun σ H Q h => te_me h) (fun _ => rfl) (fun _ _ _ z => nomatch z)
/-! #### each method -/
theorem strs_rep {K : PySem.W.Frag} {F : Addr → Prop} {H : Hp} : ∀ {xs : List V} {ds : List D} {ss : List Str}, RepL K F H xs ds → strsOf ds = some ss → xs = ss.map V.str ∧ ∀ z ∈ ss, strOk z = true
  | _, _, ss, .nil, e => by cases e; exact ⟨rfl, fun _ z => by cases z⟩
  | _, d :: ds, ss, .cons r t, e => by
    cases d with
    | str b =>
      obtain ⟨ss', h1, h2⟩ := Option.map_eq_some_iff.mp (show (strsOf ds).map (b :: ·) = some ss from e)
      subst h2
      cases r with
      | str hb =>
        obtain ⟨h3, h4⟩ := strs_rep t h1
        rw [h3]
        refine ⟨rfl, fun z hz => ?_⟩
        rcases List.mem_cons.mp hz with rfl | hz
        · exact hb
        · exact h4 z hz
    | _ => cases e
theorem strOk_join {s : Str} (hs : strOk s = true) : ∀ {xs : List Str}, (∀ z ∈ xs, strOk z = true) → strOk (Txt.join s xs) = true := fun {xs} h => by
  rw [TL.join_eq]
  induction xs with
  | nil => exact strOk_iff.mpr fun c hc => by cases hc
  | cons x r ih =>
    cases r with
    | nil => exact h x List.mem_cons_self
    | cons y r =>
      show strOk (x ++ s ++ Str.join s (y :: r)) = true
      exact strOk_append (strOk_append (h x List.mem_cons_self) hs) (ih fun z hz => h z (List.mem_cons_of_mem _ hz))
theorem mt_join' : MtR X "str.join" (rMe X.K .join) := by
  intro pins s σ H x xs v us Q I rx rs h
  obtain ⟨F, dx, ds, r, fo, hx, hds, e, q⟩ := h
  unfold opMe at e
  split at e <;> first | (cases e; done) | skip
  all_goals rename_i eq1
  all_goals first | (cases eq1; done) | skip
  rename_i z es
  obtain ⟨y, rfl, hy⟩ := RepVs.one hds
  cases e2 : strsOf es with
  | none => rw [e2] at e; cases e
  | some ss =>
    rw [e2] at e
    have e : (if (ss.map (·.length)).sum + ss.length * z.length ≤ 16777216 then Out.ok (Res.val (.str (Txt.join z ss))) else .stuck) = .ok r := e
    split at e
    · rename_i hz
      cases e
      obtain ⟨rfl, oz⟩ := hx.str
      obtain ⟨p, ys, rfl, h1, h2⟩ := hy.lst
      obtain ⟨rfl, oss⟩ := strs_rep h2 e2
      exact mt_join pins s σ H _ _ v us Q I rx rs ⟨z, p, ss, rfl, rfl, .inl h1, hz, q _ _ Go.refl (.str (strOk_join oz oss))⟩
    · cases e
theorem mt_startswith' : MtR X "str.startswith" (rMe X.K .startswith) := by
  intro pins s σ H x xs v us Q I rx rs h
  obtain ⟨F, dx, ds, r, fo, hx, hds, e, q⟩ := h
  unfold opMe at e
  split at e <;> first | (cases e; done) | skip
  all_goals rename_i eq1
  all_goals first | (cases eq1; done) | skip
  obtain ⟨y, rfl, hy⟩ := RepVs.one hds
  cases e
  obtain ⟨rfl, _⟩ := hx.str
  obtain ⟨rfl, _⟩ := hy.str
  exact mt_startswith pins s σ H _ _ v us Q I rx rs ⟨_, _, rfl, rfl, q _ _ Go.refl (.bl _)⟩
theorem strs_repL {K : PySem.W.Frag} {F : Addr → Prop} {H : Hp} : ∀ {ss : List Str}, (∀ z ∈ ss, strOk z = true) → RepL K F H (ss.map V.str) (ss.map D.str)
  | [], _ => .nil
  | z :: ss, h => .cons (.str (h z List.mem_cons_self)) (strs_repL fun y hy => h y (List.mem_cons_of_mem _ hy))
theorem mt_split' : MtR X "str.split" (rMe X.K .split) := by
  intro pins s σ H x xs v us Q I rx rs h
  obtain ⟨F, dx, ds, r, fo, hx, hds, e, q⟩ := h
  unfold opMe at e
  split at e <;> first | (cases e; done) | skip
  all_goals rename_i eq1
  all_goals first | (cases eq1; done) | skip
  obtain ⟨y, rfl, hy⟩ := RepVs.one hds
  split at e
  · rename_i hz
    cases e
    obtain ⟨h1, h2, h3⟩ := hz
    obtain ⟨rfl, _⟩ := hx.str
    obtain ⟨rfl, _⟩ := hy.str
    exact mt_split pins s σ H _ _ v us Q I rx rs ⟨_, _, rfl, rfl, h1, by rw [sizeLine_16]; exact h2, fun p hp => q _ _ (Go.upd hp) (new_lst fo hp (strs_repL fun z hz => List.all_eq_true.mp h3 z hz))⟩
  · cases e
theorem mt_partition' : MtR X "str.partition" (rMe X.K .partition) := by
  intro pins s σ H x xs v us Q I rx rs h
  obtain ⟨F, dx, ds, r, fo, hx, hds, e, q⟩ := h
  unfold opMe at e
  split at e <;> first | (cases e; done) | skip
  all_goals rename_i eq1
  all_goals first | (cases eq1; done) | skip
  obtain ⟨y, rfl, hy⟩ := RepVs.one hds
  split at e
  · rename_i hz
    cases e
    obtain ⟨h1, h2, h3, h4, h5⟩ := hz
    obtain ⟨rfl, _⟩ := hx.str
    obtain ⟨rfl, _⟩ := hy.str
    exact mt_partition pins s σ H _ _ v us Q I rx rs ⟨_, _, rfl, rfl, h1, by rw [sizeLine_16]; exact h2, fun p hp => q _ _ (Go.upd hp) (new_tup hp (.cons (.str h3) (.cons (.str h4) (.cons (.str h5) .nil))))⟩
  · cases e
theorem find_some {d : D} (hd : d.plain = true) : ∀ {ds : List D} {j : Nat}, D.plainL ds = true → findD d ds = some j → ∃ z, (D.pyL ds)[j]? = some z ∧ PyData.eqv z d.py = true ∧ ∀ (m : Nat) (z' : PyData), m < j → (D.pyL ds)[m]? = some z' → PyData.eqv z' d.py = false
  | [], j, _, e => by cases e
  | x :: xs, j, h, e => by
    obtain ⟨h1, h2⟩ := Bool.and_eq_true_iff.mp (show (x.plain && D.plainL xs) = true from h)
    have e : (if D.eqv x d = true then some 0 else (findD d xs).map (· + 1)) = some j := e
    split at e
    · rename_i hq
      cases e
      exact ⟨x.py, rfl, by rw [eqv_py _ _ h1 hd]; exact hq, fun m _ hm => absurd hm (Nat.not_lt_zero _)⟩
    · rename_i hq
      obtain ⟨j', e1, rfl⟩ := Option.map_eq_some_iff.mp e
      obtain ⟨z, k1, k2, k3⟩ := find_some hd h2 e1
      refine ⟨z, k1, k2, fun m z' hm hz => ?_⟩
      cases m with
      | zero =>
        cases hz
        rw [eqv_py _ _ h1 hd]
        simpa using hq
      | succ m => exact k3 m z' (by omega) hz
theorem mt_index' (hu : X.A.units + 66 < cLine) : MtR X "list.index" (rMe X.K .index) := by
  intro pins s σ H x xs v us Q I rx rs h
  obtain ⟨F, dx, ds, r, fo, hx, hds, e, q⟩ := h
  unfold opMe at e
  split at e <;> first | (cases e; done) | skip
  all_goals rename_i eq1
  all_goals first | (cases eq1; done) | skip
  rename_i es d
  obtain ⟨y, rfl, hy⟩ := RepVs.one hds
  split at e
  · rename_i hz
    obtain ⟨h1, hd2⟩ := Bool.and_eq_true_iff.mp hz
    obtain ⟨h1, hd1⟩ := Bool.and_eq_true_iff.mp h1
    obtain ⟨p1, p2⟩ := Bool.and_eq_true_iff.mp h1
    have hd1 := of_decide_eq_true hd1
    have hd2 := of_decide_eq_true hd2
    cases e2 : findD d es with
    | none => rw [e2] at e; cases e
    | some j =>
      rw [e2] at e
      cases e
      obtain ⟨z, k1, k2, k3⟩ := find_some p1 p2 e2
      obtain ⟨d1, c1⟩ := hy.dp p1
      obtain ⟨c2, d2⟩ := dp_list (.inl rfl) hx p2
      obtain ⟨a, ys, rfl, g1, g2⟩ := hx.lst
      have s1 : SeqAt.shaped (D.py (.lst es)) = true := by
        refine Bool.and_eq_true_iff.mpr ⟨c2, decide_eq_true ?_⟩
        show PyData.depthAll (D.pyL es) + 1 ≤ 64
        rw [depthL_py _ p2]; omega
      have s2 : SeqAt.shaped d.py = true := Bool.and_eq_true_iff.mpr ⟨c1, decide_eq_true (by rw [depth_py _ p1]; exact hd1)⟩
      exact mt_indexD (by omega) pins s σ H _ _ v us Q I rx rs ⟨a, y, d.py, D.pyL es, j, z, rfl, rfl, d2, d1, s1, s2, k1, k2, k3, q _ _ Go.refl (.int _)⟩
  · cases e
theorem mt_sidx' : MtR X "str.index" (rMe X.K .sidx) := by
  intro pins s σ H x xs v us Q I rx rs h
  obtain ⟨F, dx, ds, r, fo, hx, hds, e, q⟩ := h
  unfold opMe at e
  split at e <;> first | (cases e; done) | skip
  all_goals rename_i eq1
  all_goals first | (cases eq1; done) | skip
  rename_i a b
  obtain ⟨y, rfl, hy⟩ := RepVs.one hds
  obtain ⟨rfl, _⟩ := hx.str
  obtain ⟨rfl, _⟩ := hy.str
  cases e2 : Builtin.Str.occurrences a b 0 a.length 1 with
  | nil => rw [e2] at e; cases e
  | cons i rest =>
    rw [e2] at e
    cases e
    exact mt_sindex pins s σ H _ _ v us Q I rx rs ⟨a, b, i, rest, rfl, rfl, e2, q _ _ Go.refl (.int _)⟩
theorem mt_get1 (hu : X.A.units + 1 < cLine) : MtR X "dict.get" (rMe X.K .get) := by
  intro pins s σ H x xs v us Q I rx rs h
  obtain ⟨F, dx, ds, r, fo, hx, hds, e, q⟩ := h
  unfold opMe at e
  split at e <;> first | (cases e; done) | skip
  all_goals rename_i eq1
  all_goals first | (cases eq1; done) | skip
  rename_i d0 _ _ _ k
  obtain ⟨y, rfl, hy⟩ := RepVs.one hds
  cases e2 : d0.dget k with
  | none => rw [e2] at e; cases e
  | some o =>
    rw [e2] at e
    cases e
    obtain ⟨a, w, rfl, g, hs, hw⟩ := dget_rep hx hy e2
    cases rx
    obtain ⟨u, rfl, ru⟩ := vals1 rs
    refine d_get1 hu I g ru fun w' s' I' rw' => ⟨_, H, I', rw', q _ _ Go.refl ?_⟩
    cases o with
    | none => cases w <;> first | exact .non | cases hs
    | some d' => obtain ⟨w', rfl, hr⟩ := hw d' rfl; exact hr
end
end PyI

end
section
set_option autoImplicit false
/-! PyM: methods that change the own list; a if c else b; which assignments exchange their stores. -/
namespace PyI
open PySem PySem.Spec PyProof.Rows L2 RZ RT

section
variable {X : Cx} {G : Gc} {i ia ib ic io : I} {e a b c o : Expr} {es : List Expr} {pos apos cpos : Pos}
def rMu (K : PySem.W.Frag) (m : Mu) : V → List V → Hp → VK → Prop := fun x vs H Q => ∃ F a c ds d c', x = .ref a ∧ CellAt K F H a c ∧ OwnOk (fun b => b = a) F H ∧ RepL K F H vs ds ∧ opMu m c ds = .ok (d, c') ∧
  ∀ v o', CellAt K F (upd H a o') a c' → Rep K F (upd H a o') v d → Q v (upd H a o')
def Mu.ty : Mu → String
  | .setdefault => "dict"
  | _ => "list"
theorem muFits_ty {K : PySem.W.Frag} {F : Addr → Prop} {H : Hp} {a : Addr} {c : Cell} {m : Mu} (h : CellAt K F H a c) (f : m.fits c = true) : tyV K m.ty (.ref a) H := by
  cases c with
  | lst ds =>
    obtain ⟨xs, e, _⟩ := h
    cases m <;> first | (cases f; done) | exact .inl ⟨rfl, xs, .inl (.inl e)⟩
  | dK kvs =>
    obtain ⟨xs, e, _⟩ := h
    cases m <;> first | (cases f; done) | exact .inr (.inr (.inl ⟨rfl, .inl ⟨xs, e⟩⟩))
  | dT kvs =>
    obtain ⟨xs, e, _⟩ := h
    cases m <;> first | (cases f; done) | exact .inr (.inr (.inl ⟨rfl, .inr ⟨xs, e⟩⟩))
theorem opMu_nox (m : Mu) (c : Cell) (ds : List D) : NoX (opMu m c ds) := by
  unfold opMu
  split
  · exact NoX.ite trivial trivial
  · exact NoX.ite trivial trivial
  · split <;> trivial
  · split
    · split <;> trivial
    · trivial
  · exact NoX.ite trivial trivial
  · trivial
  · trivial
  · refine (NoX.of _).bind fun _ => ?_
    split
    · exact NoX.ite trivial trivial
    · exact NoX.ite trivial trivial
  · trivial
theorem te_mu {m : Mu} {k : Nat} {σ : L2.St} {H : Hp} {Q : VK} (h : TE X.K G (.mu m k ia) σ H Q) : tBM X.K m.ty (rMu X.K m) (TE X.K G (.var k)) (TA X.K G ia) σ H Q := by
  obtain ⟨F, env, S, P⟩ := h
  rw [evE] at P
  cases he : env[k]? with
  | none => simp only [he] at P; exact P.elim
  | some sl =>
  cases sl with
  | emp => simp only [he] at P; exact P.elim
  | val _ => simp only [he] at P; exact P.elim
  | own c0 =>
  simp only [he] at P
  obtain ⟨hf, P⟩ := Post.ite P
  refine te_var S he fun a0 F' H' hs s0 => ?_
  have S0 := s0.sim
  obtain ⟨b0, g1, g2, g3, g4⟩ := S0.own k c0 he
  rw [hs] at g1; cases g1
  refine ⟨muFits_ty g2 hf, F', env, S0, ?_⟩
  have P := P.shift (s0.weak fun j hj => rfl)
  refine P.seq0 (fun j hj => or_r hj) fun rs env1 F1 vs H1 _ P1 s1 q1 => ?_
  obtain ⟨ds, hds, P1⟩ := P1.of
  obtain ⟨F2, s2, up, r2⟩ := freeze S0 s1 q1 hds
  cases he1 : env1[k]? with
  | none => simp only [he1] at P1; exact P1.elim
  | some sl =>
  cases sl with
  | emp => simp only [he1] at P1; exact P1.elim
  | val _ => simp only [he1] at P1; exact P1.elim
  | own c =>
  simp only [he1] at P1
  cases e : opMu m c ds with
  | stuck => rw [e] at P1; exact P1.elim
  | exc _ => exact ((opMu_nox _ _ _).no e).elim
  | ok q =>
    obtain ⟨d, c'⟩ := q
    rw [e] at P1
    obtain ⟨b0, g1, g2, g3, g4⟩ := s2.sim.own k c he1
    rw [hs] at g1; cases g1
    refine ⟨F2, a0, c, ds, d, c', rfl, g2, fun b z => by subst z; exact ⟨g3, g2.is⟩, r2, e, fun v o' ho' hv => ?_⟩
    exact P1 F2 v _ (s2.trans (s2.sim.write (h := fun j => (I.mu m k ia).hits j) he1 hs ho' (by simp [I.hits])) (fun j hj => or_r hj) fun _ z => z) hv
theorem se_mu {m : Mu} {k : Nat} {name : Str} {id : String} (pa : PlainAttrs m.ty) (slot : PySem.Slot m.ty name id) (hty : typeOf (.builtin id) = pure (.type "method_descriptor")) (hm : MtR X id (rMu X.K m)) (ho : SE X G o (.var k)) (hb : isCall0 o = false) (ha : SA X G (a :: es) ia) (hl : (a :: es).length < 30)
    (hline : (apos.endLine == cpos.line) = true) : SE X G (.Call (.Attribute o name apos) (a :: es) [] cpos) (.mu m k ia) := by
  have ns := Bool.and_eq_true_iff.mp (show (notStar a && es.all notStar) = true from ha.ns)
  exact SE.of_pe (imp_pe (pe_bm pa slot hty hm ho.pe ha.pa (base_of hb) (few_of ha.ns hl) hline (starEach_cons ns.1) (starEach_any ns.2)) fun σ H Q h => te_mu h) (fun _ => rfl) (fun _ _ _ z => nomatch z)
theorem TE.mono {K : PySem.W.Frag} {ii : I} {σ : L2.St} {H : Hp} {Q Q' : VK} (h : TE K G ii σ H Q) (w : ∀ v H, Q v H → Q' v H) : TE K G ii σ H Q' := by
  obtain ⟨F, env, S, P⟩ := h
  refine ⟨F, env, S, ?_⟩
  cases e : evE G.cx ii env with
  | stuck => rw [e] at P; exact P
  | ok r => rw [e] at P; exact fun F' v H' s q => w _ _ (P F' v H' s q)
  | exc x => rw [e] at P; exact P
theorem ta_nil {K : PySem.W.Frag} {σ : L2.St} {H : Hp} {Q : List V → Hp → Prop} (h : TA K G .nil σ H Q) : Q [] H := by
  obtain ⟨F, env, S, P⟩ := h
  rw [evA] at P
  exact P F [] H (Stp.refl S) .nil
theorem se_mu0 {m : Mu} {k : Nat} {name : Str} {id : String} (pa : PlainAttrs m.ty) (slot : PySem.Slot m.ty name id) (hty : typeOf (.builtin id) = pure (.type "method_descriptor")) (hm : MtR X id (rMu X.K m)) (ho : SE X G o (.var k)) (hb : isCall0 o = false)
    (hline : (apos.endLine == cpos.line) = true) : SE X G (.Call (.Attribute o name apos) [] [] cpos) (.mu m k .nil) := by
  refine SE.of_pe (imp_pe (pe_bm0 pa slot hty hm ho.pe (base_of hb) hline) fun σ H Q h => ?_) (fun _ => rfl) (fun _ _ _ z => nomatch z)
  exact TE.mono (te_mu h) fun x H1 q => ⟨q.1, ta_nil q.2⟩
/-! #### each -/
theorem mt_append' : MtR X "list.append" (rMu X.K .append) := by
  intro pins s σ H x xs v us Q I rx rs h
  obtain ⟨F, a, c, ds, d, c', rfl, hc, ok, hds, e, q⟩ := h
  unfold opMu at e
  split at e <;> first | (cases e; done) | skip
  all_goals rename_i eq1
  all_goals first | (cases eq1; done) | skip
  split at e
  · rename_i hz
    cases e
    obtain ⟨ys, ha, hy⟩ := hc
    cases hds with
    | cons r t =>
      cases t
      exact mt_append pins s σ H _ _ v us Q I rx rs ⟨a, ys, _, rfl, rfl, ha, by rw [hy.length, sizeLine_16]; exact hz, q _ _ ⟨_, upd_same, (hy.append (.cons r .nil)).go upd_go ok⟩ .non⟩
  · cases e
theorem mt_clear' : MtR X "list.clear" (rMu X.K .clear) := by
  intro pins s σ H x xs v us Q I rx rs h
  obtain ⟨F, a, c, ds, d, c', rfl, hc, ok, hds, e, q⟩ := h
  unfold opMu at e
  split at e <;> first | (cases e; done) | skip
  all_goals rename_i eq1
  all_goals first | (cases eq1; done) | skip
  cases e
  obtain ⟨ys, ha, hy⟩ := hc
  cases hds
  exact mt_clear pins s σ H _ _ v us Q I rx rs ⟨a, ys, rfl, rfl, ha, q _ _ ⟨_, upd_same, .nil⟩ .non⟩
theorem mt_reverse' : MtR X "list.reverse" (rMu X.K .reverse) := by
  intro pins s σ H x xs v us Q I rx rs h
  obtain ⟨F, a, c, ds, d, c', rfl, hc, ok, hds, e, q⟩ := h
  unfold opMu at e
  split at e <;> first | (cases e; done) | skip
  all_goals rename_i eq1
  all_goals first | (cases eq1; done) | skip
  cases e
  obtain ⟨ys, ha, hy⟩ := hc
  cases hds
  exact mt_reverse pins s σ H _ _ v us Q I rx rs ⟨a, ys, rfl, rfl, ha, q _ _ ⟨_, upd_same, hy.reverse.go upd_go ok⟩ .non⟩
theorem getLast_get {ds : List D} {d : D} (e : ds.getLast? = some d) : ds[ds.length - 1]? = some d := by rw [← List.getLast?_eq_getElem?]; exact e
theorem mt_pop' : MtR X "list.pop" (rMu X.K .pop) := by
  intro pins s σ H x xs v us Q I rx rs h
  obtain ⟨F, a, c, ds, d, c', rfl, hc, ok, hds, e, q⟩ := h
  unfold opMu at e
  split at e <;> first | (cases e; done) | skip
  all_goals rename_i eq1
  all_goals first | (cases eq1; done) | skip
  obtain ⟨ys, ha, hy⟩ := hc
  cases hds
  split at e
  · rename_i d0 he
    cases e
    obtain ⟨y, h1, h2⟩ := hy.get' (getLast_get he)
    exact mt_pop pins s σ H _ _ v us Q I rx rs ⟨a, ys, y, rfl, rfl, ha, by rw [hy.length]; exact h1, q _ _ ⟨_, upd_same, hy.dropLast.go upd_go ok⟩ (h2.go upd_go ok)⟩
  · cases e
theorem RepL.erase {K : PySem.W.Frag} {F : Addr → Prop} {H : Hp} : ∀ {xs : List V} {ds : List D} (n : Nat), RepL K F H xs ds → RepL K F H (xs.eraseIdx n) (ds.eraseIdx n)
  | _, _, _, .nil => .nil
  | _, _, 0, .cons _ t => t
  | _, _, n + 1, .cons r t => .cons r (RepL.erase n t)
theorem mt_popAt' : MtR X "list.pop" (rMu X.K .popAt) := by
  intro pins s σ H x xs v us Q I rx rs h
  obtain ⟨F, a, c, ds, d, c', rfl, hc, ok, hds, e, q⟩ := h
  unfold opMu at e
  split at e <;> first | (cases e; done) | skip
  all_goals rename_i eq1
  all_goals first | (cases eq1; done) | skip
  rename_i ds0 i
  obtain ⟨ys, ha, hy⟩ := hc
  split at e
  · rename_i hi
    split at e
    · rename_i d0 he
      cases e
      obtain ⟨y, h1, h2⟩ := hy.get' he
      have hlt : i.toNat < ys.length := (List.getElem?_eq_some_iff.mp h1).1
      cases ints1 hds
      have hk : seqIndex? i ys.length = some i.toNat := seqIndex_of hi.1 (by omega)
      exact mt_popAt pins s σ H _ _ v us Q I rx rs ⟨a, ys, i, i.toNat, y, rfl, rfl, ha, by omega, by omega, hk, h1, q _ _ ⟨_, upd_same, (hy.erase _).go upd_go ok⟩ (h2.go upd_go ok)⟩
    · cases e
  · cases e
theorem mt_insert' : MtR X "list.insert" (rMu X.K .insert) := by
  intro pins s σ H x xs v us Q I rx rs h
  obtain ⟨F, a, c, ds, d, c', rfl, hc, ok, hds, e, q⟩ := h
  unfold opMu at e
  split at e <;> first | (cases e; done) | skip
  all_goals rename_i eq1
  all_goals first | (cases eq1; done) | skip
  obtain ⟨ys, ha, hy⟩ := hc
  split at e
  · rename_i hi
    cases e
    cases hds with
    | cons r t =>
      cases r
      cases t with
      | cons r2 t2 =>
        cases t2
        refine mt_insert pins s σ H _ _ v us Q I rx rs ⟨a, ys, _, _, rfl, rfl, ha, by rw [hy.length, sizeLine_16]; exact hi.2.2, hi.1, by have := hi.2.1; have := hi.2.2; omega, q _ _ ⟨_, upd_same, ?_⟩ .non⟩
        rw [List.append_assoc]
        exact ((hy.take _).append ((RepL.cons r2 .nil).append (hy.drop _))).go upd_go ok
  · cases e
theorem list_extendW (l : Addr) (items : Array Value) (n : Nat) (b : Addr) (items2 : Array Value) (n2 : Nat) (dd2 : Option Addr) (sl2 : Array (Option Value)) (hc0 : ¬(!items.isEmpty && Builtin.List.listTooLong (items.size + items2.size)) = true) (hc1 : items.size ≤ sizeLine) (hs2 : items.size + items2.size ≤ sizeLine + 1) :
    Meets (Builtin.«list.extend» ⟨[.ref l, .ref b], []⟩) (fun _ R s => s.heap.get? l = some { cls := .type "list", dict := none, data := .seq items n, slots := #[] } ∧ s.heap.get? b = some { cls := .type "list", dict := dd2, data := .seq items2 n2, slots := sl2 } ∧ R (.ok (.ret Value.none)) { s with heap := s.heap.update l (Obj.mapSeq fun x => x ++ items2), toks := s.toks }) :=
  .of_wp fun prog w A R s h => by
    obtain ⟨hp, g, d, tk, os⟩ := s; obtain ⟨hl, hb, h⟩ := h; have f1 := AutoSeq1.idx_int; have f2 := AutoSeq1.sub_tuple_tuple; have f3 := AutoSeq1.sub_list_list; have f4 := AutoSeq1.sub_tuple_list; have f5 := AutoSeq1.sub_list_tuple;
    have hz' : (items ++ items2).size ≤ sizeLine + 1 := by rw [Array.size_append]; exact hs2
    wp_walk using (wpAny_updateSeq hl rfl (hz := hc1) (_hz' := hz')), AutoSeq1.wpAny_loadPart' hl, AutoSeq1.wpAny_loadPart' hb; exact ⟨_, rfl, h⟩
theorem mt_extend' : MtR X "list.extend" (rMu X.K .extend) := by
  intro pins s σ H x xs v us Q I rx rs h
  obtain ⟨F, a, c, ds, d, c', rfl, hc, ok, hds, e, q⟩ := h
  unfold opMu at e
  split at e <;> first | (cases e; done) | skip
  all_goals rename_i eq1
  all_goals first | (cases eq1; done) | skip
  obtain ⟨ys, ha, hy⟩ := hc
  split at e
  · rename_i hz
    cases e
    cases hds with
    | cons r t =>
      cases t
      obtain ⟨b, zs, rfl, hq, hzs⟩ := RepV.lst (.inl r)
      cases rx
      obtain ⟨u, rfl, ru⟩ := rs.one
      cases ru
      obtain ⟨z, its, n, r1, hl, e1⟩ := I.lstM ha
      obtain ⟨its2, r2, pl2, _⟩ := I.list hq
      obtain ⟨⟨cls2, dd2, data2, sl2⟩, ho2, hc2, n2, hd2⟩ := id pl2.isList
      simp only at hc2 hd2
      subst hc2 hd2
      have l1 := r1.length
      have l2 := r2.length
      have hs := sizeLine_16
      have hzl : ys.length + zs.length ≤ sizeLine := by rw [hy.length, hzs.length, hs]; exact hz
      have hsz : its.toArray.size + its2.toArray.size ≤ sizeLine := by rw [List.size_toArray, List.size_toArray]; omega
      have hlong : ¬ (!its.toArray.isEmpty && Builtin.List.listTooLong (its.toArray.size + its2.toArray.size)) = true := by
        rw [notLongL hsz, Bool.and_false]
        exact Bool.false_ne_true
      refine call_meets PySem.F.slot_list_extend ⟨_, e1, rfl⟩ PySem.F.entry_list_extend (PySem.F.args_list_extend_2 _ _)
        (list_extendW a its.toArray n b its2.toArray n2 dd2 sl2 hlong (by rw [List.size_toArray]; omega) (by omega)) ⟨e1, ho2, ?_⟩
      refine ⟨.non, _, I.lset (its' := its ++ its2) ha e1 (by simp) (r1.append r2) ?_, rfl, q _ _ ⟨_, upd_same, (hy.append hzs).go upd_go ok⟩ .non⟩
      rw [List.length_append]
      omega
  · cases e

/-! ### a if c else b -/
theorem evT_ite (cx : Cxt) (ic ia ib : I) (env : Nv) : evT cx (.ite ic ia ib) env = (evT cx ic env).bind fun t => match t.1 with | true => evT cx ia t.2 | false => evT cx ib t.2 := by
  unfold evT
  rw [evE]
  cases evE cx ic env with
  | stuck => rfl
  | exc _ => rfl
  | ok r =>
    obtain ⟨r, env'⟩ := r
    cases h : r.bool with
    | none => simp [h]
    | some b =>
      have := bool_bl h
      subst this
      cases b <;> rfl

/-! ### which assignments exchange their stores -/
def notComp : Expr → Bool
  | .ListComp _ _ _ _ => false
  | .SetComp _ _ _ _ => false
  | .DictComp _ _ _ _ _ => false
  | _ => true
theorem sw_no {t : Option Expr} {n : Nat} {env : PySem.Env} (h : notComp e = true) : swapsWith e t n env = pure false := by
  cases e <;> first | rfl | cases h
theorem sw_tup {es : List Expr} {k n : Nat} {p : Pos} {env : PySem.Env} : swapsWith e (some (.Tuple es k p)) n env = pure false := by
  cases e <;> rfl
theorem sw_sub {o i : Expr} {n : Nat} {p : Pos} {env : PySem.Env} : swapsWith e (some (.Subscript o i p)) n env = pure false := by
  cases e <;> rfl
def swaps (sc : Scope) (scope : Scope) (t : Str) (l1 l2 : Nat) : Bool := (sc.kind == .function) && sc.names.lookup t == some .local && l1 == l2 && !(scope.names.any fun (n, k) => n == t && (k == .local || k == .cell))
theorem sw_lc {elt : Expr} {gs : List Comprehension} {scope : Scope} {p pt : Pos} {t : Str} {n : Nat} {env : PySem.Env} (hk : env.scope.kind = .function) : swapsWith (.ListComp elt gs scope p) (some (.Name t pt)) n env = pure (swaps env.scope scope t pt.line p.line) := by
  have h1 : env.blockKind = .function := by unfold PySem.Env.blockKind; rw [hk]; rfl
  show (pure (env.blockKind == .function && env.kindOf t == some .local && pt.line == p.line && _) : Sem Bool) = _
  unfold swaps
  rw [h1, hk]
  rfl
end
end PyI

end
section
set_option autoImplicit false
/-! PyL2: list(reversed(a list)). -/
namespace PyI
open PySem PySem.Spec PyProof.Rows L2 RZ RT

section
variable {prog : Program} {w : World} {A : Around} {E : Value → Shared → Prop} {s : Shared}
theorem ext_rev {R : Result → Shared → Prop} {it l : Addr} {zs : Array Value} (hh : A.handled = none) (hit : s.heap.IsRevIter it l ((zs.size : Int) - 1)) (hl : s.heap.IsList l zs) (hne : l ≠ it) (hn : zs.size ≤ sizeLine) (S : Addr) (hSi : S ≠ it) (hSl : S ≠ l) (res : Value) (c0 : Nat) (hS : s.heap.get? S = some { cls := .type "list", data := .seq #[] c0 })
    (hR : ∀ h' tk acc' c', (∀ b o, b ≠ S → b ≠ it → s.heap.get? b = some o → h'.get? b = some o) → h'.get? S = some { cls := .type "list", dict := none, data := .seq acc' c', slots := #[] } → ItemsOf (fun i v => zs[zs.size - 1 - i]? = some v) acc' zs.size → R (.ok (.ret res)) { s with heap := h', toks := tk }) :
    wpAny (model prog w) A.in1 (Builtin.List.listExtendWith (.ref S) (.ref it) res) (fun fin s' => match fin with | .done f => R (.ok f) s' | .again c' => c'.quiet = true ∧ codeAny (model prog w) A c' R s') (fun e s' => R (.error e) s') s := by
  have W := (Walks.listRev (prog := prog) (w := w) (A := A.in1) hh it l hne zs).toS
  have nm : S ∉ [it, l] := fun z => by
    rcases List.mem_cons.mp z with z | z
    · exact hSi z
    · exact hSl (List.mem_singleton.mp z)
  have ty : s.TypeIs (.ref it) "list_reverseiterator" := hit.typeIs
  have sr : Builtin.List.listSameRef (.ref S) (.ref it) = false := by simp [Builtin.List.listSameRef, hSi]
  have z0 : ((zs.size : Nat) : Int) - 1 - ((0 : Nat) : Int) = (zs.size : Int) - 1 := by omega
  unfold Builtin.List.listExtendWith
  refine wpAny_bind (wpAny_typeOf ty ?_)
  rw [if_neg (show ¬ _ by rw [sr]; decide)]
  refine wpAny_bind (wpAny_pyIter_revIter hit (wpAny_bind (wpAny_holding ?_)))
  unfold Builtin.List.listLengthHint
  refine wpAny_bind (wpAny_specialOf ty nolen_lri ?_)
  show wpAny _ _ (specialOf (.ref it) (Str.ofString "__length_hint__") >>= _) _ _ _
  refine wpAny_bind (wpAny_specialOf ty hint_lri ?_)
  generalize hq : ("list_reverseiterator.__length_hint__" : String) = q
  wp_delta
  rw [show splitId q = some ("list_reverseiterator", "__length_hint__") by subst hq; decide +kernel]
  subst hq
  refine wpAny_bind (wpAny_isInstance (b := true) ty (by rw [isSubtype_type]; kernel_rfl) (wpAny_pure ?_))
  rw [if_neg (show ¬ _ by decide)]
  refine wpAny_pure ⟨plainId_quiet F.plain_extend_loop _, codeAny_extend_loopS W hn _ nm _ zs.size 0 _ _ _ rfl (Nat.zero_le _) ⟨Nat.zero_le _, by rw [z0]; exact hit, hl⟩ hS (ItemsOf.nil _) fun s' acc' c' hm hS' ha => ?_⟩
  rw [Moved.eq_with hm]
  refine hR s'.heap s'.toks acc' c' (fun b o h1 h2 e => hm.heap b o (fun z => ?_) e) hS' ha
  rcases List.mem_cons.mp z with z | z
  · exact h1 z
  · exact h2 (List.mem_singleton.mp z)
theorem init_rev {R : Result → Shared → Prop} {it l : Addr} {zs : Array Value} (hh : A.handled = none) (hit : s.heap.IsRevIter it l ((zs.size : Int) - 1)) (hl : s.heap.IsList l zs) (hne : l ≠ it) (hn : zs.size ≤ sizeLine) (S : Addr) (hSi : S ≠ it) (hSl : S ≠ l) (hS : s.heap.get? S = some { cls := .type "list", data := .seq #[] })
    (hR : ∀ h' tk acc' c', (∀ b o, b ≠ S → b ≠ it → s.heap.get? b = some o → h'.get? b = some o) → h'.get? S = some { cls := .type "list", dict := none, data := .seq acc' c', slots := #[] } → ItemsOf (fun i v => zs[zs.size - 1 - i]? = some v) acc' zs.size → R (.ok (.ret .none)) { s with heap := h', toks := tk }) :
    wpAny (model prog w) A.in1 (Builtin.«list.__init__» ⟨[.ref S, .ref it], []⟩) (fun fin s' => match fin with | .done f => R (.ok f) s' | .again c' => c'.quiet = true ∧ codeAny (model prog w) A c' R s') (fun e s' => R (.error e) s') s := by
  show wpAny _ _ (do let o ← Builtin.List.listItems (.ref S); Builtin.List.listUpdate (.ref S) (fun _ => #[]); letGo o.toList.reverse; Builtin.List.listExtendWith (.ref S) (.ref it) .none) _ _ s
  refine wpAny_bind ?_
  unfold Builtin.List.listItems
  refine wpAny_bind (wpAny_seqItems hS rfl (wpAny_pure ?_))
  show wpAny _ _ (updateSeq S (fun _ => #[]) >>= fun _ => letGo (#[] : Array Value).toList.reverse >>= fun _ => Builtin.List.listExtendWith (.ref S) (.ref it) .none) _ _ _
  refine wpAny_bind (wpAny_updateSeq hS rfl (wpAny_bind (wpAny_letGo ?_)))
  have hS2 := Heap.get?_update_self (Obj.mapSeq (fun _ => (#[] : Array Value))) hS rfl
  have keep : ∀ b o, b ≠ S → s.heap.get? b = some o → (s.heap.update S (Obj.mapSeq (fun _ => (#[] : Array Value)))).get? b = some o := fun b o h e => (Heap.get?_update_other _ _ (Ne.symm h)).trans e
  refine ext_rev (s := { s with heap := s.heap.update S (Obj.mapSeq (fun _ => (#[] : Array Value))) }) hh (hit.at fun o e => keep it o (Ne.symm hSi) e) (hl.at fun o e => keep l o (Ne.symm hSl) e) hne hn S hSi hSl .none _ hS2 fun h' tk acc' c' k1 k2 k3 => ?_
  exact hR h' tk acc' c' (fun b o h1 h2 e => k1 b o h1 h2 (keep b o h1 e)) k2 k3
theorem call_list_rev {it l : Addr} {zs : Array Value} {Q : Value → Shared → Prop} (hh : A.handled = none) (hit : s.heap.IsRevIter it l ((zs.size : Int) - 1)) (hl : s.heap.IsList l zs) (hne : l ≠ it) (hn : zs.size ≤ sizeLine)
    (hQ : ∀ h' tk acc' c', (∀ b o, b ≠ it → s.heap.get? b = some o → h'.get? b = some o) → h'.get? s.heap.objs.size = some { cls := .type "list", dict := none, data := .seq acc' c', slots := #[] } → ItemsOf (fun i v => zs[zs.size - 1 - i]? = some v) acc' zs.size → Q (.ref s.heap.objs.size) { s with heap := h', toks := tk }) :
    wpAny (model prog w) A (call (.type "list") [.ref it]) Q E s := by
  refine callType_codes (Q₁ := fun ob s1 => ob = .ref s.heap.objs.size ∧ s1 = { s with heap := s.heap.push { cls := .type "list", data := .seq #[] } }) F.called_list (F.typeCall_list_1 _) F.entry_list_init (code_list_new _ ⟨rfl, rfl⟩) fun ob s1 h1 => ?_
  obtain ⟨e1, e2⟩ := h1
  subst e1 e2
  have hS : (s.heap.push { cls := .type "list", data := .seq #[] }).get? s.heap.objs.size = some { cls := .type "list", data := .seq #[] } := Heap.get?_push_size _ rfl
  obtain ⟨oi, hoi, _⟩ := id hit
  obtain ⟨ol, hol, _⟩ := id hl
  refine ⟨⟨_, hS, rfl⟩, F.args_list_init_2 _ _, init_rev (A := A.in1) (s := { s with heap := s.heap.push { cls := .type "list", data := .seq #[] } }) hh (hit.at fun o e => Heap.get?_push_of_some _ e) (hl.push _) hne hn _ (Nat.ne_of_gt (Heap.lt_size hoi)) (Nat.ne_of_gt (Heap.lt_size hol)) hS fun h' tk acc' c' k1 k2 k3 => ?_⟩
  exact ⟨rfl, hQ h' tk acc' c' (fun b o h e => k1 b o (Nat.ne_of_lt (Heap.lt_size e)) h (Heap.get?_push_of_some _ e)) k2 k3⟩
end
section
variable {X : Cx} {G : Gc} {ia : I} {a : Expr}
def tLstRev (K : PySem.W.Frag) (te : L2.TE) : L2.TE := fun σ H Q => te σ H fun v H1 => ∃ (b : Addr) (xs : List V), v = .ref b ∧ SqL K H1 b xs ∧ ∀ q, H1 q = none → Q (.ref q) (upd H1 q (.lst xs.reverse))
theorem pe_lstRev {te : L2.TE} {p p2 pos pos2 : Pos} (hc : X.calm = true) (hg : Gl X "list") (hm : X.mg "list" = none) (hg2 : Gl X "reversed") (hm2 : X.mg "reversed" = none) (he : PE X a te) (hs : notStar a = true) :
    PE X (.Call (.Name "list" p) [.Call (.Name "reversed" p2) [a] [] pos2] [] pos) (tLstRev X.K te) := by
  refine ⟨fun pins s σ H Q I h => ?_⟩
  have s1 : starEach [a] X.env = (false, eval a X.env) :: starEach [] X.env := starEach_cons hs
  have s2 : starEach [.Call (.Name "reversed" p2) [a] [] pos2] X.env = (false, eval (.Call (.Name "reversed" p2) [a] [] pos2) X.env) :: starEach [] X.env := rfl
  refine Call_ (ld_blt I hg hm PyProof.Rows.boot_list (PyProof.Rows.callWith_type1 (args_cons (Call_ (ld_blt I hg2 hm2 PyProof.Rows.boot_reversed (PyProof.Rows.callWith_type1 (args_cons (thn (he.run pins s σ H _ I h) fun u t1 ⟨v, H1, I1, r1, q1⟩ => args_nil ?_) s1) s1 rfl))) s2) s2 rfl))
  obtain ⟨b, xs, ev, hq, q⟩ := q1
  subst ev
  obtain rfl : u = Value.ref b := r1
  obtain ⟨its, rv, pl, hz⟩ := I1.list hq
  refine call_reversed_list pl.isList (args_nil ?_)
  have k0 : ∀ c o, t1.heap.get? c = some o → (t1.heap.push (revObj b ((its.toArray.size : Int) - 1))).get? c = some o := fun c o e => Heap.get?_push_of_some _ e
  have I2 : Inv X pins σ H1 { t1 with heap := t1.heap.push (revObj b ((its.toArray.size : Int) - 1)) } := I1.kept (t' := t1.toks) k0
  obtain ⟨f0, f1, f2, f3, f4, f5⟩ := I1.fpOk (H' := H1) (b := t1.heap.objs.size) (Nat.le_refl _) (I1.hok.fresh (Nat.le_refl _))
  have hl := pl.isList
  obtain ⟨ol, hol, _⟩ := id hl
  have nb : b ≠ t1.heap.objs.size := Nat.ne_of_lt (Heap.lt_size hol)
  have hn : its.toArray.size ≤ sizeLine := by rw [List.size_toArray, ← rv.length]; exact hz
  refine call_list_rev (s := { t1 with heap := t1.heap.push (revObj b ((its.toArray.size : Int) - 1)) }) (I1.ok.hd hc) ⟨_, Heap.get?_push_size _ rfl, rfl, rfl⟩ (hl.push _) nb hn fun h' tk acc c hk hL hi => ?_
  have hk2 : ∀ d o, t1.heap.get? d = some o → h'.get? d = some o := fun d o e => hk d o (Nat.ne_of_lt (Heap.lt_size e)) (k0 d o e)
  have le : t1.heap.objs.size ≤ (t1.heap.push (revObj b ((its.toArray.size : Int) - 1))).objs.size := by rw [Heap.size_push]; exact Nat.le_succ _
  refine ⟨.ref (t1.heap.push (revObj b ((its.toArray.size : Int) - 1))).objs.size, upd H1 (t1.heap.push (revObj b ((its.toArray.size : Int) - 1))).objs.size (.lst xs.reverse), ?_, rfl, q _ (I1.hok.fresh le)⟩
  exact I1.laid (t' := tk) hk2 le (show ObjOk X.prog X.w _ h' _ (.lst xs.reverse) from ⟨by rw [List.length_reverse]; exact hz, acc.toList, c, vals_rev rv hi, by rw [Array.toArray_toList]; exact hL⟩)
theorem se_lstRev {p p2 pos pos2 : Pos} (hc : X.calm = true) (hg : Gl X "list") (hm : X.mg "list" = none) (hg2 : Gl X "reversed") (hm2 : X.mg "reversed" = none) (he : SE X G a ia) (hs : notStar a = true) :
    SE X G (.Call (.Name "list" p) [.Call (.Name "reversed" p2) [a] [] pos2] [] pos) (.bi .listRev (.cons ia .nil)) := by
  refine SE.of_pe (imp_pe (pe_lstRev hc hg hm hg2 hm2 he.pe hs) fun σ H Q h => ?_) (fun _ => rfl) (fun _ _ _ z => nomatch z)
  obtain ⟨F, env, S, P⟩ := h
  have ev : evE G.cx (.bi .listRev (.cons ia .nil)) env = (evE G.cx ia env).bind fun r => (Out.of (r.1.get r.2)).bind fun d => (opBi .listRev [d]).bind fun v => .ok (v, r.2) := by
    rw [evE, evA]
    cases evE G.cx ia env with
    | stuck => rfl
    | exc _ => rfl
    | ok r =>
      obtain ⟨r, env1⟩ := r
      show ((evA G.cx .nil env1).bind fun rb => Out.ok (r :: rb.1, rb.2)).bind _ = _
      rw [evA]
      show (Out.of (deref env1 [r])).bind _ = _
      cases h : r.get env1 with
      | none => simp [deref, h]
      | some d => simp [deref, h]
  rw [ev] at P
  refine ⟨F, env, S, P.seq (fun j hj => or_l hj) fun r env1 F1 x H1 _ P1 s1 q1 => ?_⟩
  obtain ⟨d, hd, P1⟩ := P1.of
  cases d with
  | lst ds =>
    obtain ⟨b, xs, rfl, h1, h2⟩ := (q1.get s1.sim hd).lst
    refine ⟨b, xs, rfl, h1, fun q hq => ?_⟩
    have P1 : Post X.K G σ _ F1 H1 env1 _ Q (Out.ok (Res.new (.lst ds.reverse), env1)) := P1
    exact P1 F1 _ _ (s1.sim.stp (Go.upd hq)) (RepN.r s1.sim (fun b z => s1.go.back z) (new_lst s1.sim.fro hq h2.reverse))
  | _ => exact P1.elim
end
end PyI

end
section
set_option autoImplicit false
/-! PyL3: len(set(a list of numbers and texts)). -/
namespace PyI
open PySem PySem.Spec PyProof.Rows L2 RZ RT

theorem kset_snoc (ks : List Key) (k : Key) : kset (ks ++ [k]) = kstep (kset ks) k := by simp [kset, List.foldl_append]
theorem hasK_iff (m : List Key) (k : Key) : hasK m k = true ↔ k ∈ m := by
  unfold hasK
  rw [List.any_eq_true]
  exact ⟨fun ⟨j, h1, h2⟩ => of_decide_eq_true h2 ▸ h1, fun h => ⟨k, h, decide_eq_true rfl⟩⟩
theorem kstep_mem (m : List Key) (k x : Key) : (hasK m x || decide (x = k)) = hasK (kstep m k) x := by
  unfold kstep
  by_cases h : hasK m k = true
  · rw [if_pos h, Bool.eq_iff_iff, Bool.or_eq_true, decide_eq_true_eq]
    exact ⟨fun z => z.elim id fun e => e ▸ h, .inl⟩
  · rw [if_neg h, Bool.eq_iff_iff, Bool.or_eq_true, decide_eq_true_eq, hasK_iff, hasK_iff, List.mem_append, List.mem_singleton]
theorem kstep_len (m : List Key) (k : Key) : (if hasK m k = true then m.length else m.length + 1) = (kstep m k).length := by
  unfold kstep
  by_cases h : hasK m k = true
  · rw [if_pos h, if_pos h]
  · rw [if_neg h, if_neg h]; simp
theorem set_is {prog : Program} {w : World} {h : Heap} {a : Addr} {f g : Key → Bool} {n m : Nat} (hS : h.SetOf (mixKind prog w) a f n) (e : ∀ k, f k = g k) (en : n = m) : h.SetOf (mixKind prog w) a g m := by
  have e : f = g := funext e
  subst e; subst en
  exact hS
theorem kset_le (ks : List Key) : ∀ n, (kset (ks.take n)).length ≤ n
  | 0 => by simp [kset]
  | n + 1 => by
    have ih := kset_le ks n
    by_cases h : n < ks.length
    · have e : ks.take (n + 1) = ks.take n ++ [ks[n]] := by rw [List.take_append_getElem]
      rw [e, kset_snoc, ← kstep_len]
      split <;> omega
    · rw [List.take_of_length_le (by omega)]
      rw [List.take_of_length_le (by omega)] at ih
      omega

section
variable {prog : Program} {w : World} {A : Around} {E : Value → Shared → Prop} {s : Shared}
theorem set_from_keys {R : Result → Shared → Prop} {it : Addr} {foot moved : List Addr} {gg : Array GenState → Array GenState → Prop} {n : Nat} {Pv : Nat → Value → Prop} {St : Nat → Shared → Prop}
    (walk : WalksS prog w A.in1 it foot moved gg n Pv St) (sa : Addr) (notIn : sa ∉ foot) (ks : List Key) (hval : ∀ i v, Pv i v → ∃ k, ks[i]? = some k ∧ RelV (kV k) v) (few : n + 1 < scanBound) :
    ∀ (left i : Nat) (s : Shared), n - i = left → i ≤ n → St i s → s.heap.SetOf (mixKind prog w) sa (fun x => hasK (kset (ks.take i)) x) (kset (ks.take i)).length →
      (∀ t, Moved (sa :: moved) gg s t → t.heap.SetOf (mixKind prog w) sa (fun x => hasK (kset (ks.take n)) x) (kset (ks.take n)).length → R (.ok (.ret .none)) t) →
      codeAny (model prog w) A (.builtin "set.update.loop" ⟨[.ref sa, .ref it], []⟩) R s := by
  have away : sa ∉ moved := fun z => notIn (walk.sub _ z)
  have wider : ∀ b ∈ moved, b ∈ sa :: moved := fun b hb => List.mem_cons_of_mem _ hb
  have stays : ∀ {s t : Shared} {f : Key → Bool} {m : Nat}, Moved moved gg s t → s.heap.SetOf (mixKind prog w) sa f m → t.heap.SetOf (mixKind prog w) sa f m := fun hm hS => by
    obtain ⟨o, es, ep, tb, ho, more⟩ := hS
    exact ⟨o, es, ep, tb, hm.heap sa _ away ho, more⟩
  intro left
  induction left with
  | zero =>
    intro i s hl hi st hS hR
    have e : i = n := by omega
    subst e
    refine codeAny_builtin F.entry_set_update_loop ?_
    rw [Around.under_plainId F.plain_set_update_loop _]
    show wpAny _ A.in1 (pyNext (.ref it) >>= _) _ _ s
    refine wpAny_bind (walk.done s _ _ st fun t hm => ?_)
    show wpAny _ A.in1 (ret Value.none) _ _ t
    exact wpAny_pure (hR t (hm.mono wider) (stays hm hS))
  | succ left ih =>
    intro i s hl hi st hS hR
    have lt : i < n := by omega
    refine codeAny_builtin F.entry_set_update_loop ?_
    rw [Around.under_plainId F.plain_set_update_loop _]
    show wpAny _ A.in1 (pyNext (.ref it) >>= _) _ _ s
    refine wpAny_bind (walk.item i s _ _ lt st fun v t hv st2 hm => ?_)
    obtain ⟨k, hk, rv⟩ := hval i v hv
    have hS2 := stays hm hS
    show wpAny _ A.in1 (holding [v] (setAdd sa v) >>= _) _ _ t
    refine wpAny_bind (wpAny_holding ?_)
    unfold setAdd
    refine wpAny_holding ?_
    refine wpAny_bind ((mixKind prog w).pyHash (k := k) (kV_is rv) ?_)
    have room : (kset (ks.take i)).length + 1 < scanBound := by have := kset_le ks i; omega
    refine wpAny_setAddHashed_of (knd := mixKind prog w) (s := { t with toks := t.toks + 1 }) (kV_is rv) (key_scan rv) hS2 room fun h2 same new => ?_
    have hi2 : i < ks.length := (List.getElem?_eq_some_iff.mp hk).1
    have et : ks.take (i + 1) = ks.take i ++ [k] := by
      rw [← List.take_append_getElem hi2]
      congr 2
      rw [List.getElem?_eq_getElem hi2] at hk
      exact Option.some.inj hk
    have new2 : h2.SetOf (mixKind prog w) sa (fun x => hasK (kset (ks.take (i + 1))) x) (kset (ks.take (i + 1))).length :=
      set_is new (fun x => by rw [et, kset_snoc, kstep_mem]) (by rw [et, kset_snoc, kstep_len])
    refine wpAny_pure ⟨plainId_quiet F.plain_set_update_loop _, ih (i + 1) _ (by omega) lt (walk.frame _ t _ _ st2 (Nat.le_succ _) fun b hb o e => ?_) new2 fun u hm2 hS3 => ?_⟩
    · exact (same.2 b (fun z : b = sa => notIn (z ▸ hb))).trans e
    · refine hR u (Moved.trans walk.gtrans ((hm.mono wider).then_heap (Nat.le_succ _) fun b o hb e => ?_) hm2) hS3
      exact (same.2 b (fun z : b = sa => hb (by rw [z]; exact List.mem_cons_self))).trans e

theorem call_set_keys {l : Addr} {vals : Array Value} {ks : List Key} {Q : Value → Shared → Prop}
    (hh : A.handled = none) (hl : s.heap.IsList l vals) (hk : ∀ (i : Nat) (v : Value), vals[i]? = some v → ∃ k : Key, ks[i]? = some k ∧ RelV (kV k) v) (hsz : vals.size = ks.length) (few : vals.size + 1 < scanBound)
    (hQ : ∀ (h2 : Heap) (tk : Nat), h2.SetOf (mixKind prog w) s.heap.objs.size (fun x => hasK (kset ks) x) (kset ks).length →
      (∀ b o, b < s.heap.objs.size → s.heap.get? b = some o → h2.get? b = some o) → Q (.ref s.heap.objs.size) { s with heap := h2, toks := tk }) :
    wpAny (model prog w) A (call (.type "set") [.ref l]) Q E s := by
  obtain ⟨c0, tl, mro⟩ := F.called_set.mro
  have made := F.called_set.made
  have sub0 := F.called_set.sub
  refine wpAny_call (codeAny_of_tree ?_)
  show wpAny _ _ (callAny (.type "set") _) _ _ _
  refine wpAny_pure ⟨Code.quiet_builtin _ (by decide +kernel), codeAny_builtin F.entry_type_call ?_⟩
  rw [Around.under_plain (weight_type_call_type "set" [.ref l] []) rfl]
  have a1 := F.called_set.notType
  have a2 := F.called_set.canCreate
  have a3 := F.typeCall_set_1 (.ref l)
  repeat any_goals first | assumption | wp_step
  refine codeAny_mono (code_set_new_1 (.ref l) (E := E) (Q₁ := fun ob t => ∃ led : Bool, ob = .ref s.heap.objs.size ∧ t = { s with heap := s.heap.push { cls := .type "set", dict := none, data := .set #[] 0 (.fresh 0 0 led) } }) fun led => ⟨led, rfl, rfl⟩) fun r t hr => ?_
  cases r with
  | error e => exact hr
  | ok fl =>
    cases fl with
    | ret ob =>
      obtain ⟨led, rfl, rfl⟩ := hr
      have at1 : (s.heap.push { cls := .type "set", dict := none, data := .set #[] 0 (.fresh 0 0 led) }).get? s.heap.objs.size = some { cls := .type "set", dict := none, data := .set #[] 0 (.fresh 0 0 led) } := Heap.get?_push_size _ rfl
      have ty1 : Shared.TypeIs { s with heap := s.heap.push { cls := .type "set", dict := none, data := .set #[] 0 (.fresh 0 0 led) } } (.ref s.heap.objs.size) "set" := ⟨_, at1, rfl⟩
      have b1 := F.called_set.init.lookup
      have b2 := F.called_set.init.bind (.ref s.heap.objs.size)
      repeat any_goals first | assumption | wp_step
      refine codeAny_mono (codeAny_call_builtin (R := wants (fun r t => r = .none ∧ ∃ h2 tk, t = { s with heap := h2, toks := tk } ∧
          h2.SetOf (mixKind prog w) s.heap.objs.size (fun x => hasK (kset ks) x) (kset ks).length ∧
          (∀ b o, b < s.heap.objs.size → s.heap.get? b = some o → h2.get? b = some o)) E) F.called_set.init.plain F.entry_set_init (check_set_init_1 ty1 ?_)) fun r2 t2 hr2 => ?_
      · obtain ⟨ol, hol, hcl, nl, hdl⟩ := hl
        obtain ⟨oc, od, odata, os⟩ := ol
        simp only at hcl hdl
        subst hcl; subst hdl
        have at2 : (s.heap.push { cls := .type "set", dict := none, data := .set #[] 0 (.fresh 0 0 led) }).get? l = some { cls := .type "list", dict := od, data := .seq vals nl, slots := os } := Heap.get?_push_of_some _ hol
        have n1 := F.sub_list_set
        have n2 := F.sub_list_frozenset
        have n3 : (Value.type "list" == Value.type "dict") = false := by decide
        have hl2 : (s.heap.push { cls := .type "set", dict := none, data := .set #[] 0 (.fresh 0 0 led) }).IsList l vals := ⟨_, at2, rfl, nl, rfl⟩
        unfold Builtin.«set.__init__» noKeywords Builtin.Frozenset.updateFrom
        generalize hP : pyIter = PI
        wp_walk
        subst hP
        refine wpAny_pyIter_list hl2 ?_
        refine wpAny_bind (wpAny_runValue ?_)
        have ls : l < s.heap.objs.size := Heap.lt_size hol
        have h3 : A.in1.in1.in1.handled = none := by simp [hh]
        have ne1 : l ≠ (s.heap.push { cls := .type "set", dict := none, data := .set #[] 0 (.fresh 0 0 led) }).objs.size := by
          rw [Heap.size_push]; exact Nat.ne_of_lt (Nat.lt_succ_of_lt ls)
        have ne2 : s.heap.objs.size ∉ [(s.heap.push { cls := .type "set", dict := none, data := .set #[] 0 (.fresh 0 0 led) }).objs.size, l] := by
          rw [Heap.size_push]
          intro z
          rcases List.mem_cons.mp z with z | z
          · exact absurd z (Nat.ne_of_lt (Nat.lt_succ_self _))
          · exact absurd (List.mem_singleton.mp z) (Nat.ne_of_gt ls)
        refine set_from_keys ((Walks.list h3 _ l ne1 vals).toS) s.heap.objs.size ne2 ks hk few (vals.size - 0) 0 _ (by omega) (Nat.zero_le _) ⟨⟨_, Heap.get?_push_size _ rfl, rfl, rfl⟩, (hl2.push _)⟩ ?s0 ?r0
        case s0 =>
          have at3 : ((s.heap.push { cls := .type "set", dict := none, data := .set #[] 0 (.fresh 0 0 led) }).push { cls := .type "list_iterator", data := .fields #[.ref l, .int 0 0] }).get? s.heap.objs.size
              = some { cls := .type "set", dict := none, data := .set #[] 0 (.fresh 0 0 led) } := Heap.get?_push_of_some _ at1
          refine ⟨_, #[], 0, _, at3, ⟨rfl, rfl, rfl⟩, rfl, ?_, ?_, ?_, rfl, rfl⟩
          · intro e he; simp at he
          · intro x; simp [hasK, kset]
          · decide
        case r0 =>
          intro t hm hS
          obtain ⟨h2, g2, d2, tk, os2⟩ := t
          have eg : g2 = s.gens := hm.gens
          have ed : d2 = s.drawn := hm.drawn
          have eo : os2 = s.os := hm.os
          subst eg; subst ed; subst eo
          show wpAny _ _ _ _ _ _
          refine wpAny_pure ?_
          show wpAny _ _ (ret Value.none) _ _ _
          have ee : ks.take vals.size = ks := List.take_of_length_le (by omega)
          rw [ee] at hS
          refine wpAny_pure ⟨rfl, h2, tk, rfl, hS, fun b o hb e => ?_⟩
          refine hm.heap b o (fun z => ?_) (Heap.get?_push_of_some _ (Heap.get?_push_of_some _ e))
          rw [Heap.size_push] at z
          rcases List.mem_cons.mp z with z | z
          · exact absurd z (Nat.ne_of_lt hb)
          · exact absurd (List.mem_singleton.mp z) (Nat.ne_of_lt (Nat.lt_succ_of_lt hb))
      · cases r2 with
        | error e => exact hr2
        | ok fl2 =>
          cases fl2 with
          | ret r =>
            obtain ⟨rfl, h2, tk, rfl, hS, keep⟩ := hr2
            repeat any_goals first | assumption | wp_step
            exact hQ _ _ hS keep
          | _ => exact hr2.elim
    | _ => exact hr.elim
end
section
variable {X : Cx} {G : Gc} {ia : I} {a : Expr}
def rSetKs (K : PySem.W.Frag) (P : Program) (w : World) : List V → Hp → VK → Prop := fun xs H Q => ∃ (b : Addr) (ks : List Key), xs = [V.ref b] ∧ SqL K H b (ks.map kV) ∧ ks.length + 1 < scanBound ∧
  ∀ a, H a = none → Q (.ref a) (upd H a (SetK P w a (fun x => hasK (kset ks) x) (kset ks).length))
theorem cr_setKs (hc : X.calm = true) : CallR X (.type "set") (rSetKs X.K X.prog X.w) := by
  intro pins s σ H xs us Q I r h
  obtain ⟨b, ks, rfl, hq, few, q⟩ := h
  rw [Vals.ref1 r]
  obtain ⟨its, rv, pl, hz⟩ := I.list hq
  have lenE : its.length = ks.length := by rw [← rv.length, List.length_map]
  have vals : ∀ (ks : List Key) (its : List Value), Vals (ks.map kV) its → ∀ (i : Nat) (v : Value), its[i]? = some v → ∃ k : Key, ks[i]? = some k ∧ RelV (kV k) v := fun ks => by
    induction ks with
    | nil => intro its hv i v e; cases hv; simp at e
    | cons k ks ih =>
      intro its hv i v e
      cases hv with
      | cons r t =>
        cases i with
        | zero => simp at e; subst e; exact ⟨k, rfl, r⟩
        | succ i => simpa using ih _ t i v (by simpa using e)
  have sz : its.toArray.size = ks.length := by rw [List.size_toArray]; exact lenE
  refine call_set_keys (prog := X.prog) (w := X.w) (vals := its.toArray) (ks := ks) (I.ok.hd hc) pl.isList (fun i v e => vals ks its rv i v (by simpa using e)) sz (by rw [sz]; exact few) fun h2 tk hS keep => ?_
  exact ⟨.ref s.heap.objs.size, upd H s.heap.objs.size (SetK X.prog X.w s.heap.objs.size (fun x => hasK (kset ks) x) (kset ks).length), I.laid (t' := tk) (fun c o e => keep c o (Heap.lt_size e) e) (Nat.le_refl _) (setK_new hS), rfl, q _ (I.hok.fresh (Nat.le_refl _))⟩
def rLenK (P : Program) (w : World) : List V → Hp → VK → Prop := fun xs H Q => ∃ (a : Addr) (f : Key → Bool) (n : Nat), xs = [V.ref a] ∧ H a = some (SetK P w a f n) ∧ Q (.int n) H
theorem cr_lenK : CallR X (.builtin "len") (rLenK X.prog X.w) := by
  intro pins s σ H xs us Q I r h
  obtain ⟨a, f, n, rfl, ha, q⟩ := h
  rw [Vals.ref1 r]
  obtain ⟨o, es, ep, tb, ho, ex, hd, _, _, few, fits, hn⟩ := setK_get I ha
  subst hn
  refine call_len_set ho ex hd fits (by unfold scanBound at few; omega) ?_
  exact ⟨.int es.size, H, I.tok (s.toks + 1 + 1), ⟨_, rfl⟩, q⟩
def tLenSet (X : Cx) (te : L2.TE) : L2.TE := tCB (rLenK X.prog X.w) (tCons (tCB (rSetKs X.K X.prog X.w) (tCons te tNil)) tNil)
theorem pe_lenSet {te : L2.TE} {p p2 pos pos2 : Pos} (hc : X.calm = true) (hg : Gl X "len") (hm : X.mg "len" = none) (hg2 : Gl X "set") (hm2 : X.mg "set" = none) (he : PE X a te) (hs : notStar a = true) :
    PE X (.Call (.Name "len" p) [.Call (.Name "set" p2) [a] [] pos2] [] pos) (tLenSet X te) :=
  pe_callB cr_lenK hg hm boot_len (pa_cons (pe_callTy (cr_setKs hc) hg2 hm2 Pv.boot_set (pa_cons he pa_nil (starEach_cons hs)) (by decide) (by decide) (starEach_cons hs) rfl) pa_nil)
/-- how many unlike ones a list of numbers and texts has -/
theorem se_lenSet {p p2 pos pos2 : Pos} (hc : X.calm = true) (hg : Gl X "len") (hm : X.mg "len" = none) (hg2 : Gl X "set") (hm2 : X.mg "set" = none) (he : SE X G a ia) (hs : notStar a = true) :
    SE X G (.Call (.Name "len" p) [.Call (.Name "set" p2) [a] [] pos2] [] pos) (.bi .lenSet (.cons ia .nil)) := by
  refine SE.of_pe (imp_pe (pe_lenSet hc hg hm hg2 hm2 he.pe hs) fun σ H Q h => ?_) (fun _ => rfl) (fun _ _ _ z => nomatch z)
  obtain ⟨F, env, S, P⟩ := h
  have ev : evE G.cx (.bi .lenSet (.cons ia .nil)) env = (evE G.cx ia env).bind fun r => (Out.of (r.1.get r.2)).bind fun d => (opBi .lenSet [d]).bind fun v => .ok (v, r.2) := by
    rw [evE, evA]
    cases evE G.cx ia env with
    | stuck => rfl
    | exc _ => rfl
    | ok r =>
      obtain ⟨r, env1⟩ := r
      show ((evA G.cx .nil env1).bind fun rb => Out.ok (r :: rb.1, rb.2)).bind _ = _
      rw [evA]
      show (Out.of (deref env1 [r])).bind _ = _
      cases h : r.get env1 with
      | none => simp [deref, h]
      | some d => simp [deref, h]
  rw [ev] at P
  refine ⟨F, env, S, P.seq (fun j hj => or_l hj) fun r env1 F1 x H1 _ P1 s1 q1 => ?_⟩
  obtain ⟨d, hd, P1⟩ := P1.of
  cases d with
  | lst ds =>
    obtain ⟨b, xs, rfl, h1, h2⟩ := (q1.get s1.sim hd).lst
    have P1 : Post X.K G σ _ F1 H1 env1 _ Q ((opBi .lenSet [.lst ds]).bind fun v => .ok (v, env1)) := P1
    have eb : opBi .lenSet [.lst ds] = (Out.of (D.keyL ds)).bind fun ks => if ks.length + 1 < 4096 then .ok (.val (.int (kset ks).length)) else .stuck := rfl
    rw [eb] at P1
    cases hk : D.keyL ds with
    | none => rw [hk] at P1; exact P1.elim
    | some ks =>
      rw [hk] at P1
      have P1 : Post X.K G σ _ F1 H1 env1 _ Q ((if ks.length + 1 < 4096 then Out.ok (Res.val (.int (kset ks).length)) else .stuck).bind fun v => .ok (v, env1)) := P1
      by_cases hl : ks.length + 1 < 4096
      · rw [if_pos hl] at P1
        rw [keyL_rep h2 hk] at h1
        refine ⟨b, ks, rfl, h1, by unfold scanBound; exact hl, fun q hq => ⟨q, _, _, rfl, upd_same, ?_⟩⟩
        have P1 : Post X.K G σ _ F1 H1 env1 _ Q (Out.ok (Res.val (.int (kset ks).length), env1)) := P1
        exact P1 F1 _ _ (s1.sim.stp (Go.upd hq)) (show Rep X.K _ _ _ _ from .int _)
      · rw [if_neg hl] at P1; exact P1.elim
  | _ => exact P1.elim
end
end PyI

end
section
set_option autoImplicit false
/-! PyL4: list(range(..)); a module's tuple of texts. -/
namespace PyI
open PySem PySem.Spec PyProof.Rows L2 RZ RT

section
variable {X : Cx} {G : Gc} {ia ib : I} {a b : Expr}
theorem rg_rep {K : PySem.W.Frag} {F : Addr → Prop} {H : Hp} (i j : Int) : RepL K F H (rgV i j) (rngD i j) := by
  unfold rgV rngD
  generalize List.range (j - i).toNat = l
  induction l with
  | nil => exact .nil
  | cons n l ih => exact .cons (.int _) ih
theorem se_lstRg1 {p p2 pos pos2 : Pos} (hc : X.calm = true) (hg : Gl X "list") (hm : X.mg "list" = none) (hg2 : Gl X "range") (hm2 : X.mg "range" = none) (he : SE X G a ia) (hs : notStar a = true) :
    SE X G (.Call (.Name "list" p) [.Call (.Name "range" p2) [a] [] pos2] [] pos) (.bi .listRng (.cons ia .nil)) := by
  refine SE.of_pe (imp_pe (pe_listRg hc hg hm (prg_1 hg2 hm2 he.pe (starEach_cons hs))) fun σ H Q h => ?_) (fun _ => rfl) (fun _ _ _ z => nomatch z)
  obtain ⟨F, env, S, P⟩ := h
  have ev : evE G.cx (.bi .listRng (.cons ia .nil)) env = (evE G.cx ia env).bind fun r => (Out.of (r.1.get r.2)).bind fun d => (opBi .listRng [d]).bind fun v => .ok (v, r.2) := by
    rw [evE, evA]
    cases evE G.cx ia env with
    | stuck => rfl
    | exc _ => rfl
    | ok r =>
      obtain ⟨r, env1⟩ := r
      show ((evA G.cx .nil env1).bind fun rb => Out.ok (r :: rb.1, rb.2)).bind _ = _
      rw [evA]
      show (Out.of (deref env1 [r])).bind _ = _
      cases h : r.get env1 with
      | none => simp [deref, h]
      | some d => simp [deref, h]
  rw [ev] at P
  refine ⟨F, env, S, P.seq (fun j hj => or_l hj) fun r env1 F1 x H1 _ P1 s1 q1 => ?_⟩
  obtain ⟨d, hd, P1⟩ := P1.of
  cases d with
  | int j =>
    cases (q1.get s1.sim hd).int
    have P1 : Post X.K G σ _ F1 H1 env1 _ Q ((if 0 ≤ j ∧ j.toNat ≤ 16777216 then Out.ok (Res.new (.lst (rngD 0 j))) else .stuck).bind fun v => .ok (v, env1)) := P1
    by_cases hj : 0 ≤ j ∧ j.toNat ≤ 16777216
    · rw [if_pos hj] at P1
      refine ⟨j, rfl, RgOk.of_le (by omega) (by omega) (by omega) hj.1, fun q hq => ?_⟩
      have P1 : Post X.K G σ _ F1 H1 env1 _ Q (Out.ok (Res.new (.lst (rngD 0 j)), env1)) := P1
      exact P1 F1 _ _ (s1.sim.stp (Go.upd hq)) (RepN.r s1.sim (fun b z => s1.go.back z) (new_lst s1.sim.fro hq (rg_rep 0 j)))
    · rw [if_neg hj] at P1; exact P1.elim
  | _ => exact P1.elim
theorem se_lstRg2 {p p2 pos pos2 : Pos} (hc : X.calm = true) (hg : Gl X "list") (hm : X.mg "list" = none) (hg2 : Gl X "range") (hm2 : X.mg "range" = none) (he : SE X G a ia) (hs : notStar a = true) (he2 : SE X G b ib) (hs2 : notStar b = true) :
    SE X G (.Call (.Name "list" p) [.Call (.Name "range" p2) [a, b] [] pos2] [] pos) (.bi .listRng (.cons ia (.cons ib .nil))) := by
  refine SE.of_pe (imp_pe (pe_listRg hc hg hm (prg_2 hg2 hm2 he.pe he2.pe (starEach_cons hs) (starEach_cons hs2) (starEach_any (es := [b]) (by simp [hs2])))) fun σ H Q h => ?_) (fun _ => rfl) (fun _ _ _ z => nomatch z)
  obtain ⟨F, env, S, P⟩ := h
  have ev : evE G.cx (.bi .listRng (.cons ia (.cons ib .nil))) env = (evE G.cx ia env).bind fun r => (evE G.cx ib r.2).bind fun r2 => (Out.of (r.1.get r2.2)).bind fun d => (Out.of (r2.1.get r2.2)).bind fun d2 => (opBi .listRng [d, d2]).bind fun v => .ok (v, r2.2) := by
    rw [evE, evA]
    cases evE G.cx ia env with
    | stuck => rfl
    | exc _ => rfl
    | ok r =>
      obtain ⟨r, env1⟩ := r
      show ((evA G.cx (.cons ib .nil) env1).bind fun rb => Out.ok (r :: rb.1, rb.2)).bind _ = (evE G.cx ib env1).bind _
      rw [evA]
      cases evE G.cx ib env1 with
      | stuck => rfl
      | exc _ => rfl
      | ok r2 =>
        obtain ⟨r2, env2⟩ := r2
        show (((evA G.cx .nil env2).bind fun rb => Out.ok (r2 :: rb.1, rb.2)).bind fun rb => Out.ok (r :: rb.1, rb.2)).bind _ = _
        rw [evA]
        show (Out.of (deref env2 [r, r2])).bind _ = _
        cases h : r.get env2 with
        | none => simp [deref, h]
        | some d => cases h2 : r2.get env2 with
          | none => simp [deref, h, h2]
          | some d2 => simp [deref, h, h2]
  rw [ev] at P
  refine ⟨F, env, S, P.seq (fun j hj => or_l hj) fun r env1 F1 x H1 _ P1 s1 q1 => ⟨F1, env1, s1.sim, P1.seq (fun j hj => or_l (or_r hj)) fun r2 env2 F2 y H2 _ P2 s2 q2 => ?_⟩⟩
  obtain ⟨d, hd, P2⟩ := P2.of
  obtain ⟨d2, hd2, P2⟩ := P2.of
  have v1 := (q1.stp s2 s1.sim).get s2.sim hd
  have v2 := q2.get s2.sim hd2
  by_cases hj : ∃ i j, d = .int i ∧ d2 = .int j ∧ (0 ≤ i ∧ i.toNat ≤ 16777216) ∧ 0 ≤ j ∧ j.toNat ≤ 16777216
  · obtain ⟨i, j, rfl, rfl, hj⟩ := hj
    cases v1.int
    cases v2.int
    have P2 : Post X.K G σ _ F2 H2 env2 _ Q ((if (0 ≤ i ∧ i.toNat ≤ 16777216) ∧ 0 ≤ j ∧ j.toNat ≤ 16777216 then Out.ok (Res.new (.lst (rngD i j))) else .stuck).bind fun v => .ok (v, env2)) := P2
    rw [if_pos hj] at P2
    refine ⟨i, j, rfl, rfl, RgOk.of_le hj.1.1 (by omega) (by omega) hj.2.1, fun q hq => ?_⟩
    have P2 : Post X.K G σ _ F2 H2 env2 _ Q (Out.ok (Res.new (.lst (rngD i j)), env2)) := P2
    exact P2 F2 _ _ (s2.sim.stp (Go.upd hq)) (RepN.r s2.sim (fun b z => s1.go.back (s2.go.back z)) (new_lst s2.sim.fro hq (rg_rep i j)))
  · exfalso
    cases d with
    | int i => cases d2 with
      | int j =>
        have P2 : Post X.K G σ _ F2 H2 env2 _ Q ((if (0 ≤ i ∧ i.toNat ≤ 16777216) ∧ 0 ≤ j ∧ j.toNat ≤ 16777216 then Out.ok (Res.new (.lst (rngD i j))) else .stuck).bind fun v => .ok (v, env2)) := P2
        rw [if_neg (fun z => hj ⟨i, j, rfl, rfl, z⟩)] at P2
        exact P2
      | _ => exact P2
    | _ => cases d2 <;> exact P2
/-! ### a module's tuple of texts -/
theorem idxS_at {z : Str} : ∀ {ys : List Str} {j : Nat}, idxS z ys = some j → ys[j]? = some z ∧ ∀ m, m < j → ys[m]? ≠ some z
  | [], _, h => by cases h
  | y :: r, j, h => by
    unfold idxS at h
    split at h
    · rename_i e
      cases h
      exact ⟨by rw [e]; rfl, fun m hm => absurd hm (Nat.not_lt_zero _)⟩
    · rename_i e
      obtain ⟨j', h1, rfl⟩ := Option.map_eq_some_iff.mp h
      obtain ⟨h2, h3⟩ := idxS_at h1
      refine ⟨by simpa using h2, fun m hm => ?_⟩
      cases m with
      | zero => simpa using e
      | succ m => simpa using h3 m (by omega)
/-- a tuple of texts in what the head found -/
structure TupAt (K : PySem.W.Frag) (a : Addr) (ys : List Str) : Prop where
  txt : ∀ z ∈ ys, strOk z = true
  sq : ∀ H : Hp, SqT K H a (ys.map V.str)
  obj : ∃ o, K.lookup a = some o ∧ o.cls = .type "tuple" ∧ o.dict = none
theorem se_gIx {n : Nat} {x : Str} {ad : Addr} {ys : List Str} {p apos : Pos} {cpos : Pos} (hg : Gl X x) (hm : X.mg x = some (.ref ad)) (hd : (x == ("__debug__" : Str)) = false) (ht : G.cx.tups n = some ys) (hT : TupAt X.K ad ys)
    (he : SE X G a ia) (hs : notStar a = true) (hline : (apos.endLine == cpos.line) = true) : SE X G (.Call (.Attribute (.Name x p) "index" apos) [a] [] cpos) (.gIx n ia) := by
  refine SE.of_pe (imp_pe (pe_bm PySem.F.plainAttrs_tuple PySem.F.slot_tuple_index PySem.F.type_tuple_index mt_tup_index (pe_glob (v := .ref ad) hg hm rfl hd) (pa_cons he.pe pa_nil (starEach_cons hs)) rfl (few_of (by simp [hs]) (by simp)) hline (starEach_cons hs) rfl) fun σ H Q h => ?_) (fun _ => rfl) (fun _ _ _ z => nomatch z)
  obtain ⟨F, env, S, P⟩ := h
  rw [evE] at P
  refine ⟨.inr (.inl ⟨rfl, hT.obj⟩), F, env, S, P.seq (fun j hj => hj) fun r env1 F1 v H1 _ P1 s1 q1 => ?_⟩
  obtain ⟨z, hz, P1⟩ := P1.of
  rw [ht] at P1
  obtain ⟨ys', hy, P1⟩ := P1.of
  cases hy
  obtain ⟨j, hj, P1⟩ := P1.of
  cases r with
  | val d => cases d with
    | str z0 =>
      cases hz
      have ev : v = .str z := by
        cases (show Rep X.K F1 H1 v (.str z) from q1)
        rfl
      subst ev
      obtain ⟨i1, i2⟩ := idxS_at hj
      exact ⟨ad, ys, z, j, rfl, rfl, hT.sq _, i1, i2, P1 F1 _ H1 (Stp.refl s1.sim) (show Rep X.K _ _ _ _ from .int _)⟩
    | _ => cases hz
  | _ => cases hz
theorem se_gAt {n : Nat} {x : Str} {ad : Addr} {ys : List Str} {p pos : Pos} (hg : Gl X x) (hm : X.mg x = some (.ref ad)) (hd : (x == ("__debug__" : Str)) = false) (ht : G.cx.tups n = some ys) (hT : TupAt X.K ad ys)
    (he : SE X G b ib) (hs : notSlice b = true) : SE X G (.Subscript (.Name x p) b pos) (.gAt n ib) := by
  refine SE.of_pe (imp_pe (pe_ix ix_tup (pe_glob (v := .ref ad) hg hm rfl hd) he.pe (plainIx_of hs)) fun σ H Q h => ?_) (fun _ => rfl) (fun _ _ _ z => nomatch z)
  obtain ⟨F, env, S, P⟩ := h
  rw [evE] at P
  refine ⟨F, env, S, P.seq (fun j hj => hj) fun r env1 F1 v H1 _ P1 s1 q1 => ?_⟩
  obtain ⟨i, hi, P1⟩ := P1.of
  rw [ht] at P1
  obtain ⟨ys', hy, P1⟩ := P1.of
  cases hy
  obtain ⟨z, hz, P1⟩ := P1.of
  cases r with
  | val d => cases d with
    | int i0 =>
      cases hi
      have ev : v = .int i := by
        cases (show Rep X.K F1 H1 v (.int i) from q1)
        rfl
      subst ev
      unfold nthS at hz
      split at hz
      · rename_i h0
        have hl : i.toNat < ys.length := (List.getElem?_eq_some_iff.mp hz).1
        refine ⟨ad, ys.map V.str, i, .str z, rfl, rfl, hT.sq _, ?_, P1 F1 _ H1 (Stp.refl s1.sim) (show Rep X.K _ _ _ _ from .str (hT.txt z (List.mem_of_getElem? hz)))⟩
        unfold atI ixN
        rw [if_pos h0, if_pos (by rw [List.length_map]; omega)]
        show (ys.map V.str)[i.toNat]? = _
        rw [List.getElem?_map, hz]; rfl
      · cases hz
    | _ => cases hi
  | _ => cases hi
end
/-! ### the head's facts, and the tuples -/
def hookM (n : Nat) (fa : List He.Fa) (fn : List He.DefD) (ex : PySem.W.Frag → Bool) : PySem.W.Hook where
  α := He.AlD × Bool
  obs := fun s => (He.obsDG n fa fn s.heap.get?, ex (He.frG s.heap.get? (He.asD s.heap.get? n)))
  val := fun _ => (He.valD fn, true)
  says := fun _ h => ∃ K : PySem.W.Frag, K.In h ∧ He.SaysD fa fn K ∧ ex K = true
  of := fun _ _ e => ⟨_, He.frG_in, congrArg (fun z : He.AlD × Bool => z.1) e, congrArg (fun z : He.AlD × Bool => z.2) e⟩
  keeps := fun _ _ _ ⟨K, hK, c, x⟩ k => ⟨K, PySem.W.Frag.In.keeps hK k, c, x⟩
theorem obsM_eq {n : Nat} {fa : List He.Fa} {fn : List He.DefD} {ex : PySem.W.Frag → Bool} {g : Addr → Option Obj} {s : Shared} (h : ∀ a, g a = s.heap.get? a) : (He.obsDG n fa fn g, ex (He.frG g (He.asD g n))) = (hookM n fa fn ex).obs s := by
  have e : g = s.heap.get? := funext h
  rw [e]; rfl
/-- is the module's name x a plain tuple of these texts? -/
def tuC (K : PySem.W.Frag) (x : Str) (ys : List Str) : Bool := He.tupB K x (ys.map He.Dv.str) && ys.all strOk && (match K.lookup (He.ga K x) with
  | some o => o.dict.isNone
  | none => false)
theorem tuC_ok {K : PySem.W.Frag} {x : Str} {ys : List Str} (h : tuC K x ys = true) : TupAt K (He.ga K x) ys := by
  unfold tuC at h
  rw [Bool.and_eq_true, Bool.and_eq_true] at h
  obtain ⟨⟨h1, h2⟩, h3⟩ := h
  have sq : ∀ H : Hp, SqT K H (He.ga K x) (ys.map V.str) := fun H => by
    have := He.tupB_ok h1 H
    rwa [List.map_map] at this
  refine ⟨List.all_eq_true.mp h2, sq, ?_⟩
  unfold He.tupB at h1
  cases q : K.lookup (He.ga K x) with
  | none => rw [q] at h1; cases h1
  | some o =>
    rw [q] at h1 h3
    obtain ⟨oc, od, dt, osl⟩ := o
    cases oc with
    | type c =>
      cases dt with
      | seq its m =>
        obtain ⟨h4, _⟩ := He.ba (show (decide (c = "tuple") && _) = true from h1)
        have e : c = "tuple" := of_decide_eq_true h4
        subst e
        refine ⟨_, rfl, rfl, ?_⟩
        cases od with
        | none => rfl
        | some _ => cases h3
      | _ => cases h1
    | _ => cases dt <;> cases h1
end PyI

end
section
set_option autoImplicit false
/-! PyL5: sorted, sum. -/
namespace PyI
open PySem PySem.Spec PyProof.Rows L2
theorem insB_perm {α : Type} (le : α → α → Bool) (x : α) : ∀ l : List α, (insB le x l).Perm (x :: l)
  | [] => List.Perm.refl _
  | y :: r => by
    unfold insB
    split
    · exact List.Perm.refl _
    · exact ((insB_perm le x r).cons y).trans (List.Perm.swap x y r)
theorem isort_perm {α : Type} (le : α → α → Bool) : ∀ l : List α, (isort le l).Perm l
  | [] => List.Perm.refl _
  | x :: r => (insB_perm le x _).trans ((isort_perm le r).cons x)
theorem insB_rises {α : Type} {le : α → α → Bool} (tot : ∀ a b, le a b = true ∨ le b a = true) (tr : ∀ a b c, le a b = true → le b c = true → le a c = true) (x : α) : ∀ {l : List α}, l.Pairwise (fun a b => le a b = true) → (insB le x l).Pairwise (fun a b => le a b = true)
  | [], _ => by simp [insB]
  | y :: r, h => by
    obtain ⟨h1, h2⟩ := List.pairwise_cons.mp h
    unfold insB
    split
    · rename_i hxy
      refine List.pairwise_cons.mpr ⟨fun z hz => ?_, h⟩
      rcases List.mem_cons.mp hz with rfl | hz
      · exact hxy
      · exact tr _ _ _ hxy (h1 z hz)
    · rename_i hxy
      refine List.pairwise_cons.mpr ⟨fun z hz => ?_, insB_rises tot tr x h2⟩
      rcases List.mem_cons.mp ((insB_perm le x r).mem_iff.mp hz) with rfl | hz
      · exact (tot _ _).resolve_left hxy
      · exact h1 z hz
theorem isort_rises {α : Type} {le : α → α → Bool} (tot : ∀ a b, le a b = true ∨ le b a = true) (tr : ∀ a b c, le a b = true → le b c = true → le a c = true) : ∀ l : List α, (isort le l).Pairwise (fun a b => le a b = true)
  | [] => List.Pairwise.nil
  | x :: r => insB_rises tot tr x (isort_rises tot tr r)
theorem rise_one {α : Type} {le : α → α → Bool} (anti : ∀ a b, le a b = true → le b a = true → a = b) : ∀ {l m : List α}, l.Perm m → l.Pairwise (fun a b => le a b = true) → m.Pairwise (fun a b => le a b = true) → l = m
  | [], m, p, _, _ => (List.Perm.nil_eq p)
  | a :: l, m, p, h1, h2 => by
    cases m with
    | nil => exact absurd p.length_eq (by simp)
    | cons b m =>
      obtain ⟨a1, a2⟩ := List.pairwise_cons.mp h1
      obtain ⟨b1, b2⟩ := List.pairwise_cons.mp h2
      have e : a = b := by
        rcases List.mem_cons.mp (p.mem_iff.mp List.mem_cons_self) with h | h
        · exact h
        · rcases List.mem_cons.mp (p.symm.mem_iff.mp List.mem_cons_self) with h' | h'
          · exact h'.symm
          · exact anti _ _ (a1 _ h') (b1 _ h)
      subst e
      rw [rise_one anti (List.Perm.cons_inv p) a2 b2]
section
variable {X : Cx}
theorem repL_of {K : PySem.W.Frag} {F : Addr → Prop} {H : Hp} {g : V → D} : ∀ {zs : List V}, (∀ y ∈ zs, Rep K F H y (g y)) → RepL K F H zs (zs.map g)
  | [], _ => .nil
  | y :: r, h => .cons (h y List.mem_cons_self) (repL_of fun z hz => h z (List.mem_cons_of_mem _ hz))
theorem rep_ints {K : PySem.W.Frag} {F : Addr → Prop} {H : Hp} : ∀ ns : List Int, RepL K F H (ns.map V.int) (ns.map D.int)
  | [] => .nil
  | i :: r => .cons (.int i) (rep_ints r)
def kof (H : Hp) : V → Int × Int
  | .ref t => match H t with
    | some (.tup [.int i, .int j]) => (i, j)
    | _ => (0, 0)
  | _ => (0, 0)
theorem prs_of {K : PySem.W.Frag} {F : Addr → Prop} {H : Hp} : ∀ {ys : List V} {ds : List D} {ps : List (Int × Int)}, RepL K F H ys ds → prsOf ds = some ps → ys.map (kof H) = ps ∧ ∀ y ∈ ys, (∃ t, y = V.ref t ∧ H t = some (.tup [.int (kof H y).1, .int (kof H y).2])) ∧ Rep K F H y (.tup [.int (kof H y).1, .int (kof H y).2])
  | _, _, ps, .nil, e => by cases e; exact ⟨rfl, fun y h => nomatch h⟩
  | _, d :: ds, ps, .cons r t, e => by
    unfold prsOf at e
    split at e
    · rename_i eq; cases eq
    · rename_i i j rest eq
      cases eq
      obtain ⟨ps', h1, h2⟩ := Option.map_eq_some_iff.mp e
      subst h2
      obtain ⟨g1, g2⟩ := prs_of t h1
      obtain ⟨a, xs, rfl, h3, h4⟩ := RepV.tup (.inl r)
      obtain ⟨u, v, rfl, h5, h6⟩ : ∃ u v, xs = [u, v] ∧ Rep K F H u (.int i) ∧ Rep K F H v (.int j) := by
        cases h4 with
        | cons a b => cases b with
          | cons c d => cases d; exact ⟨_, _, rfl, a, c⟩
      cases h5
      cases h6
      have e : kof H (.ref a) = (i, j) := by unfold kof; simp only [h3]
      refine ⟨by rw [List.map_cons, e, g1], fun y hy => ?_⟩
      rcases List.mem_cons.mp hy with rfl | hy
      · rw [e]
        exact ⟨⟨a, rfl, h3⟩, r⟩
      · exact g2 y hy
    · cases e
theorem leP_of {p q : Int × Int} (h : SrtO.lexB q p = false) : leP p q = true := by
  have := SrtO.lexB_no.mp h
  exact decide_eq_true (by omega)
theorem leP_tot (a b : Int × Int) : leP a b = true ∨ leP b a = true := by
  unfold leP
  rw [decide_eq_true_iff, decide_eq_true_iff]
  omega
theorem leP_tr (a b c : Int × Int) (h1 : leP a b = true) (h2 : leP b c = true) : leP a c = true := by
  unfold leP at *
  rw [decide_eq_true_iff] at *
  omega
theorem leP_anti (a b : Int × Int) (h1 : leP a b = true) (h2 : leP b a = true) : a = b := by
  unfold leP at *
  rw [decide_eq_true_iff] at *
  exact Prod.ext (by omega) (by omega)
theorem leI_tot (a b : Int) : leI a b = true ∨ leI b a = true := by
  unfold leI; rw [decide_eq_true_iff, decide_eq_true_iff]; omega
theorem leI_tr (a b c : Int) (h1 : leI a b = true) (h2 : leI b c = true) : leI a c = true := by
  unfold leI at *; rw [decide_eq_true_iff] at *; omega
theorem leI_anti (a b : Int) (h1 : leI a b = true) (h2 : leI b a = true) : a = b := by
  unfold leI at *; rw [decide_eq_true_iff] at *; omega
theorem cr_sortedD : CallR X (.builtin "sorted") (rDn X.K (opBi .sorted)) := by
  intro pins s σ H xs us Q I rs h
  obtain ⟨F, ds, r, fo, hx, e, q⟩ := h
  unfold opBi at e
  split at e <;> first | (cases e; done) | skip
  all_goals rename_i eq1
  all_goals first | (cases eq1; done) | skip
  obtain ⟨x, rfl, hx1⟩ := RepVs.one hx
  obtain ⟨a, ys, rfl, h1, h2⟩ := RepV.lst hx1
  unfold opSorted at e
  split at e
  · rename_i ns hns
    cases e
    have hy := ints_of h2 hns
    subst hy
    refine cr_sortedI pins s σ H _ us Q I rs ⟨a, ns, rfl, h1, fun ns' p hp hs hn => ?_⟩
    have e : ns' = isort leI ns := rise_one leI_anti (hp.trans (isort_perm leI ns).symm) (hs.imp fun h => decide_eq_true h) (isort_rises leI_tot leI_tr ns)
    subst e
    exact q _ _ (Go.upd hn) (new_lst fo hn (rep_ints _))
  · split at e
    · rename_i ps hps
      cases e
      obtain ⟨g1, g2⟩ := prs_of h2 hps
      refine cr_sortedPO pins s σ H _ us Q I rs ⟨a, ys, kof H, rfl, h1, fun y hy => (g2 y hy).1, fun zs p s1 s2 hn => ?_⟩
      have pm := s2.perm
      have e : zs.map (kof H) = isort leP ps := by
        refine rise_one leP_anti ((pm.map (kof H)).trans ?_) (List.pairwise_map.mpr (s1.imp fun h => leP_of h)) (isort_rises leP_tot leP_tr ps)
        rw [g1]
        exact (isort_perm leP ps).symm
      have R := repL_of (K := X.K) (F := F) (H := H) (g := fun y => .tup [.int (kof H y).1, .int (kof H y).2]) (zs := zs) fun y hy => (g2 y (pm.mem_iff.mp hy)).2
      have e2 : (isort leP ps).map (fun p => D.tup [.int p.1, .int p.2]) = zs.map fun y => .tup [.int (kof H y).1, .int (kof H y).2] := by
        rw [← e, List.map_map]; rfl
      rw [e2] at q
      exact q _ _ (Go.upd hn) (new_lst fo hn R)
    · cases e
theorem cr_sumD (hc : X.calm = true) : CallR X (.builtin "sum") (rDn X.K (opBi .sum)) := by
  intro pins s σ H xs us Q I rs h
  obtain ⟨F, ds, r, fo, hx, e, q⟩ := h
  unfold opBi at e
  split at e <;> first | (cases e; done) | skip
  all_goals rename_i eq1
  all_goals first | (cases eq1; done) | skip
  obtain ⟨x, rfl, hx1⟩ := RepVs.one hx
  rename_i es
  cases e2 : intsOf es with
  | none => rw [e2] at e; cases e
  | some ns =>
    rw [e2] at e
    cases e
    obtain ⟨a, ys, rfl, h1, h2⟩ := RepV.lst hx1
    rw [ints_of h2 e2] at h1
    exact cr_sum hc pins s σ H _ us Q I rs ⟨a, ns, rfl, h1, q _ _ Go.refl (.int _)⟩
end
end PyI

end
section
set_option autoImplicit false
/-! PyX: dicts of one pair, lists turned about, exceptions. -/
namespace PyI
open PySem PySem.Spec PyProof.Rows L2

/-! ### a dict of one pair -/
section
variable {X : Cx} {G : Gc} {i ia ib ic il ih : I} {e a b c : Expr} {es : List Expr} {pos : Pos}
/-- the pair of a display, its dict at p meanwhile -/
theorem te_disp {k v : I} {σ : L2.St} {H : Hp} {Q : VK} {mk : List D → Option Cell} {o0 : HO} {p : Addr} {ii : I} (hcell : ∀ ds c, mk ds = some c → ∃ kd vd, ds = [kd, vd])
    (hii : ∀ env, evE G.cx ii env = (evE G.cx k env).bind fun rk => (evE G.cx v rk.2).bind fun rv => (Out.of (noRef [rk.1, rv.1])).bind fun ds => (Out.of (mk ds)).bind fun c => .ok (.new c, rv.2))
    (hh : ∀ j, ii.hits j = false → k.hits j = false ∧ v.hits j = false)
    (h : TE X.K G ii σ H Q) (hp : H p = none) (ho : (∃ xs, o0 = .lst xs) ∨ (∃ kvs, o0 = .dK kvs) ∨ ∃ kvs, o0 = .dT kvs) :
    TE X.K G k σ (upd H p o0) fun x H1 => TE X.K G v σ H1 fun y H2 => H2 p = some o0 ∧ ∃ F ds c dk dv, mk ds = some c ∧ ds = [dk, dv] ∧ FOk F H2 ∧ ¬ F p ∧ OwnOk (fun b => b = p) F H2 ∧ RepL X.K F H2 [x, y] ds ∧ (∀ o', CellAt X.K F (upd H2 p o') p c → Q (.ref p) (upd H2 p o')) := by
  obtain ⟨F, env, S, P⟩ := h
  rw [hii] at P
  have cell : IsCell (upd H p o0) p := by
    rcases ho with ⟨xs, rfl⟩ | ⟨xs, rfl⟩ | ⟨xs, rfl⟩
    · exact .inl ⟨_, upd_same⟩
    · exact .inr (.inl ⟨_, upd_same⟩)
    · exact .inr (.inr ⟨_, upd_same⟩)
  have s0 : Stp X.K G.H0 σ (fun j => ii.hits j) F H env F (upd H p o0) env := S.stp (Go.upd hp)
  have P0 := P.shift s0
  have nF0 : ¬ F p := fun z => S.fro p z hp
  have nO0 : ¬ Own σ env p := S.new hp
  have exc : ∀ {x : Exn} {h' : Nat → Bool} {F1 : Addr → Prop} {H1 : Hp} {env1 : Nv} {r2 : Rl Res V} {Q2 : VK}, Post X.K G σ (fun j => ii.hits j) F H env (relR X.K H σ) Q (.exc x) → Stp X.K G.H0 σ (fun j => ii.hits j) F H env F1 H1 env1 → (∀ j, ii.hits j = false → h' j = false) → Post X.K G σ h' F1 H1 env1 r2 Q2 (.exc x) :=
    fun {x h' F1 H1 env1 r2 Q2} P s hw F' env' c d H' t q => P F' env' c d H' (s.trans t (fun _ z => z) hw) q
  refine ⟨F, env, s0.sim, ?_⟩
  cases ek : evE G.cx k env with
  | stuck => rw [ek] at P; exact P.elim
  | exc x => rw [ek] at P; exact exc P s0 fun j hj => (hh j hj).1
  | ok r =>
  obtain ⟨rk, env1⟩ := r
  rw [ek] at P
  intro F1 x H1 s1 q1
  have P : Post X.K G σ (fun j => ii.hits j) F H env (relR X.K H σ) Q ((evE G.cx v env1).bind fun rv => (Out.of (noRef [rk, rv.1])).bind fun ds => (Out.of (mk ds)).bind fun c => .ok (.new c, rv.2)) := P
  have s01 := s0.trans s1 (fun _ z => z) fun j hj => (hh j hj).1
  refine ⟨F1, env1, s1.sim, ?_⟩
  cases ev : evE G.cx v env1 with
  | stuck => rw [ev] at P; exact P.elim
  | exc x => rw [ev] at P; exact exc P s01 fun j hj => (hh j hj).2
  | ok r =>
  obtain ⟨rv, env2⟩ := r
  rw [ev] at P
  intro F2 y H2 s2 q2
  have P : Post X.K G σ (fun j => ii.hits j) F H env (relR X.K H σ) Q ((Out.of (noRef [rk, rv])).bind fun ds => (Out.of (mk ds)).bind fun c => .ok (.new c, env2)) := P
  obtain ⟨ds, hds, P2⟩ := P.of
  obtain ⟨cc, hcc, P3⟩ := P2.of
  have s12 := (s1.weak (h' := fun j => ii.hits j) fun j hj => (hh j hj).1).trans s2 (fun _ z => z) fun j hj => (hh j hj).2
  have qs : RepRs X.K (upd H p o0) F2 H2 σ env2 [x, y] [rk, rv] := .cons (q1.stp s2 s1.sim) (.cons (q2.earlier fun b z => s1.go.back z) .nil)
  obtain ⟨F3, s3, up, r3⟩ := freeze s0.sim s12 qs hds
  have nH : (upd H p o0) p ≠ none := by rw [upd_same]; exact fun z => nomatch z
  have nF3 : ¬ F3 p := fun z => (s3.go.new p z).elim nF0 nH
  have kp : H2 p = some o0 := s3.go.keep _ _ upd_same nO0
  obtain ⟨kd, vd, rfl⟩ := hcell _ _ hcc
  have cell2 : IsCell H2 p := by
    rcases ho with ⟨xs, rfl⟩ | ⟨xs, rfl⟩ | ⟨xs, rfl⟩
    · exact .inl ⟨_, kp⟩
    · exact .inr (.inl ⟨_, kp⟩)
    · exact .inr (.inr ⟨_, kp⟩)
  have nO3 : ¬ Own σ env2 p := fun z => nO0 ((s3.ownEq p).mp z)
  refine ⟨kp, F3, _, cc, kd, vd, hcc, rfl, s3.sim.fro, nF3, fun b z => by subst z; exact ⟨nF3, cell2⟩, r3, fun o' hc => ?_⟩
  have t := s0.trans s3 (fun _ z => z) fun _ z => z
  exact P3 F3 (.ref p) _ ⟨s3.sim.beside nF3 nO3 cell2, t.go.updNew hp, t.owns, t.off⟩ ⟨p, rfl, hc, nF3, nO3, hp⟩
/-- what a display's two expressions leave -/
theorem se_dispK (hk : SE X G a ia) (hv : SE X G b ib) : SE X G (.Dict [some a] [b] pos) (.dispK ia ib) := by
  refine SE.of_pe (imp_pe (pe_disp (pps_cons hk.pe hv.pe pps_nil) rfl rfl (fun z => nomatch z) (by simp)) fun σ H Q h p hp => ?_) (fun _ => rfl) (fun _ _ _ z => nomatch z)
  have q := te_disp (ii := .dispK ia ib) (k := ia) (v := ib) (mk := disK) (o0 := .dK []) (p := p) (fun ds c e => by
    unfold disK at e
    split at e
    · exact ⟨_, _, rfl⟩
    · cases e) (fun env => by rw [evE]) (fun j hj => ⟨or_l (show (ia.hits j || ib.hits j) = false from hj), or_r (show (ia.hits j || ib.hits j) = false from hj)⟩) h hp (.inr (.inl ⟨_, rfl⟩))
  refine TE.mono q fun x H1 q => TE.mono q fun y H2 q => ?_
  obtain ⟨kp, F, ds, c, dk, dv, hmk, rfl, fo, nF, ok, r, k⟩ := q
  obtain ⟨key, hkey, rfl⟩ := Option.map_eq_some_iff.mp (show (dk.key).map (fun k => Cell.dK [(k, dv)]) = some c from hmk)
  cases r with
  | cons rx t => cases t with
    | cons ry t =>
      cases t
      refine ⟨kp, [(key, y)], ?_, by simp, ?_⟩
      · rw [key_rep (.inl rx) hkey]; rfl
      · exact k _ ⟨_, upd_same, rfl, .cons (ry.go upd_go ok) .nil⟩
theorem KT_nil {H : Hp} {xs : List (List Key × Addr × Value)} (h : KT H [] xs) : xs = [] := by cases h; rfl
/-- {k: v}, k a tuple; the new dict stands empty meanwhile -/
def tDispT (tk tv : L2.TE) : L2.TE := fun σ H Q => ∀ p, H p = none → tk σ (upd H p (.dT [])) fun x H1 => tv σ H1 fun y H2 => H2 p = some (.dT []) ∧ ∃ b k, x = .ref b ∧ H2 b = some (.tup (k.map kV)) ∧ Q (.ref p) (upd H2 p (.dT [(k, y)]))
theorem pe_dispT {tk tv : L2.TE} (hu : X.A.units + 1 < cLine) (hk : PE X a tk) (hv : PE X b tv) : PE X (.Dict [some a] [b] pos) (tDispT tk tv) := by
  refine ⟨fun pins s σ H Q I q => ?_⟩
  have hn := I.hok.fresh (Nat.le_refl s.heap.objs.size)
  have J := I.laid (a := s.heap.objs.size) (o := .dT []) (h' := s.heap.push { cls := .type "dict", data := .dict #[] }) (t' := s.toks) (fun _ _ w => Heap.get?_push_of_some _ w) (Nat.le_refl _) (dt_empty s.heap I.big)
  rw [arm_eval_Dict, show (evalEachOpt [some a] X.env).zip ((evalEach [b] X.env).map fun v => do let x ← v; standAt pos; pure x) = [(eval a X.env, (do let x ← eval b X.env; standAt pos; pure x : Sem Value))].map (fun p => (some p.1, p.2)) from rfl,
    dictDisplay_pairs [(eval a X.env, (do let x ← eval b X.env; standAt pos; pure x : Sem Value))] (fun z => nomatch z) (by simp)]
  refine wpAny_bind (wpAny_standAt (wpAny_bind (wpAny_subDictH (knd := tupleKind (mixKind X.prog X.w)) (by show X.A.units < cLine; omega) (by simp) ?_)))
  refine pairTrees_cons_walk (ks := []) (vs := []) (thn (hk.run pins _ σ _ _ J (q _ hn)) fun u s1 ⟨x, H1, I1, rx, q1⟩ => thn (hv.run pins s1 σ H1 _ I1 q1) fun w2 s2 ⟨y, H2, I2, ry, kp, b, k, ex, hb, q2⟩ => pairTrees_nil_walk ?_)
  subst ex
  cases (show u = Value.ref b from rx)
  obtain ⟨z, hd, xs, rel, dd⟩ := dt_of I2.hok kp
  have hxs := KT_nil rel
  subst hxs
  refine ⟨[(k, b, w2)], ⟨rfl, rfl, key_of I2.hok hb, trivial⟩, dd, fun h' tk dd' hs => wpAny_pure ⟨.ref s.heap.objs.size, _, ?_, rfl, q2⟩⟩
  obtain ⟨o, es, ep, ho, g2, g3, g4, _, g5⟩ := dd'
  refine d_write I2 (by rw [kp]; exact True.intro) hs ⟨o, ho⟩ ⟨by simp [sizeLine_eq], hd, [(k, b, w2)], .cons ⟨rfl, ?_, ry⟩ .nil, o, es, ep, ho, g2, g3, g4, g5⟩
  rw [upd_ne (ne_of hb kp (fun z => nomatch z))]
  exact hb
theorem keyT_tup {K : PySem.W.Frag} {F : Addr → Prop} {H : Hp} {v : V} {d : D} {k : List Key} (h : Rep K F H v d) (e : d.keyT = some k) : ∃ b, v = .ref b ∧ H b = some (.tup (k.map kV)) := keyT_rep (.inl h) e
theorem se_dispT (hu : X.A.units + 1 < cLine) (hk : SE X G a ia) (hv : SE X G b ib) : SE X G (.Dict [some a] [b] pos) (.dispT ia ib) := by
  refine SE.of_pe (imp_pe (pe_dispT hu hk.pe hv.pe) fun σ H Q h p hp => ?_) (fun _ => rfl) (fun _ _ _ z => nomatch z)
  have q := te_disp (ii := .dispT ia ib) (k := ia) (v := ib) (mk := disT) (o0 := .dT []) (p := p) (fun ds c e => by
    unfold disT at e
    split at e
    · exact ⟨_, _, rfl⟩
    · cases e) (fun env => by rw [evE]) (fun j hj => ⟨or_l (show (ia.hits j || ib.hits j) = false from hj), or_r (show (ia.hits j || ib.hits j) = false from hj)⟩) h hp (.inr (.inr ⟨_, rfl⟩))
  refine TE.mono q fun x H1 q => TE.mono q fun y H2 q => ?_
  obtain ⟨kp, F, ds, c, dk, dv, hmk, rfl, fo, nF, ok, r, k⟩ := q
  obtain ⟨key, hkey, rfl⟩ := Option.map_eq_some_iff.mp (show (dk.keyT).map (fun k => Cell.dT [(k, dv)]) = some c from hmk)
  cases r with
  | cons rx t => cases t with
    | cons ry t =>
      cases t
      obtain ⟨bb, rfl, hb⟩ := keyT_tup rx hkey
      exact ⟨kp, bb, key, rfl, hb, k _ ⟨_, upd_same, rfl, .cons (ry.go upd_go ok) .nil⟩⟩
/-! ### x[::-1] -/
theorem se_revL {kk : Nat} {p1 p2 p3 : Pos} (ha : SE X G a ia) : SE X G (.Subscript a (.Slice none none (some (.UnaryOp .USub (.Constant (.int 1) kk p1) p2)) p3) pos) (.revL ia) := by
  refine SE.of_pe (imp_pe (pe_revL ha.pe) fun σ H Q h => ?_) (fun _ => rfl) (fun _ _ _ z => nomatch z)
  obtain ⟨F, env, S, P⟩ := h
  rw [evE] at P
  refine ⟨F, env, S, P.seq (fun j hj => hj) fun ra env1 F1 x H1 _ P1 s1 q1 => ?_⟩
  obtain ⟨dx, hx, P1⟩ := P1.of
  obtain ⟨ds, hds, P1⟩ := P1.of
  unfold revD at hds
  split at hds
  · rename_i es
    cases hds
    obtain ⟨l, xs, rfl, h2, h3⟩ := (q1.get s1.sim hx).lst
    exact ⟨l, xs, rfl, h2, fun p hp => P1 F1 _ _ (s1.sim.stp (Go.upd hp)) (RepN.r s1.sim (fun b z => s1.go.back z) (new_lst s1.sim.fro hp h3.reverse))⟩
  · cases hds
end
/-! ### an except clause that keeps its exception -/
section
variable {X : Cx} {pins : List (Addr × Obj)} {σ : L2.St} {H : Hp} {s : Shared}
theorem excO_ok {P : Program} {w : World} {H : Hp} {h : Heap} {a : Addr} {cls : Value} {d : Option Addr} {oe : Obj} {vs : Array Value} (e : h.get? a = some oe) (z : Zc cls d oe) (g : oe.data = .fields vs) : ObjOk P w H h a (ExcO cls d a) :=
  ⟨⟨oe, vs, e, z, g⟩, ⟨oe, e⟩, fun _ _ ⟨o, v, q, r⟩ k => ⟨o, v, k o q, r⟩⟩
theorem Inv.toSuite (I : Inv X pins σ H s) (a : Addr) : Inv (X.suite a (X.pn ++ pins)) [] σ H s :=
  ⟨I.ok.suite _ _, I.os, I.bare, I.base, I.loc, I.cell, I.free, I.freeC, fun p hp => I.pin p (by rw [List.append_nil] at hp; exact hp), I.hok, I.len⟩
theorem Inv.fromSuite {a : Addr} {pn' : List (Addr × Obj)} (I : Inv (X.suite a (X.pn ++ pins)) pn' σ H s) (ok : X.Ok) : Inv X pins σ H s :=
  ⟨ok, I.os, I.bare, I.base, I.loc, I.cell, I.free, I.freeC, fun p hp => I.pin p (List.mem_append_left _ hp), I.hok, I.len⟩
/-- what the clause wishes of an exception; slot i is its name's, n how many slots there are -/
def wKeep (K : PySem.W.Frag) (c : Value) (i n : Nat) (ts : L2.TS) (Wo : WX) (D : Ends) : WX := fun cls d σ H =>
  ∃ b, PySem.W.exmOne K cls c = some b ∧ (b = true → σ.length = n → ∀ a, H a = none → ts { nx := fun σ1 H1 => D.nx (σ1.set i none) H1, rt := D.rt, bk := fun σ1 H1 => D.bk (σ1.set i none) H1, ct := fun σ1 H1 => D.ct (σ1.set i none) H1 } (σ.set i (some (.ref a))) (upd H a (ExcO cls d a))) ∧ (b = false → Wo cls d σ H)
variable {x n : Str} {c : Value} {i : Nat} {body rest : List Stmt} {st0 : Stmt} {np pos pos2 : Pos} {tb : WX → L2.TS} {ts : L2.TS} {Wo : WX}
theorem ps_tryK (hs : X.stack = X.env :: X.outer) (hf : X.env.frame = some X.env.locals) (hN : X.N.Nodup) (hi : X.N[i]? = some n) (hln : X.env.kindOf n = some .local) (hc : Names X x c) (tk : Takes X Wo)
    (hb : ∀ (W : WX) (pn : List (Addr × Obj)) (xe : Value → Shared → Prop), Takes (X.tr pn xe) W → PassesOwn (model X.prog X.w) X.A X.env xe → PSs (X.tr pn xe) body (tb W))
    (hsu : ∀ (a : Addr) (pn : List (Addr × Obj)), PSs (X.suite a pn) (st0 :: rest) ts) :
    PS X (.Try body [.ExceptHandler (some (.Name x np)) (some n) (st0 :: rest) pos2] [] [] pos) (fun D σ H => tb (wKeep X.K c i X.N.length ts Wo D) D σ H) := by
  refine ⟨fun pins s σ H D I h => ?_⟩
  have ok := I.ok
  have hfr : X.A.frames = some (X.env :: X.outer) := by rw [ok.frames, hs]
  refine wpAny_Try_except (wpAny_mono ((hb (wKeep X.K c i X.N.length ts Wo D) (X.pn ++ pins) (fun e s1 => wpAny (model X.prog X.w) X.A (noteFrame e X.env) (fun _ s2 => wpAny (model X.prog X.w) X.A (setFlight e none) (fun _ s3 =>
    wpAny (model X.prog X.w) X.A (handleBy e X.env [.ExceptHandler (some (.Name x np)) (some n) (st0 :: rest) pos2]) (L2.SP X pins D) X.xe s3) X.xe s2) X.xe s1) (fun u s1 xx => ?_) PassesOwn.looking).run [] s σ H D (I.toTry _) h) (fun f s1 hsp => ?_) (fun e s1 he => he))
  · obtain ⟨a, B, sI, pinsI, σ1, H1, cls, d, rfl, JI, nb, up, sky, na, os, ag, b, hb1, hyes, hno⟩ := xx
    have J : Inv X pins σ1 H1 sI := JI.ofTry ok
    have skyX : Sky B (X.env :: X.outer) a (Zc cls d) X.env.locals s1.heap := hs ▸ sky
    show wpAny (model X.prog X.w) X.A (noteFrame (.ref a) X.env) _ _ _
    refine Sky.land Zc.steady hfr hf skyX fun h3 fl3 up3 => ?_
    have J3 : Inv X pins σ1 H1 { s1 with heap := h3 } := J.landed nb fl3.1 (up.trans up3) os ag
    obtain ⟨oe3, vs3, he3, hz3, hd3⟩ := fl3.there
    have nfr : a ∉ frs (X.env :: X.outer) := fun hm => by
      obtain ⟨_, o2, e2, hnf⟩ := fl3.2.2.1.mem hm
      rw [he3] at e2
      cases e2
      exact hnf _ hd3
    have nL : a ≠ X.env.locals := fun z => nfr (List.mem_filterMap.mpr ⟨X.env, List.mem_cons_self, by rw [hf, z]⟩)
    have nF : a ∉ X.fs := fun hm => by
      obtain ⟨e, he, q⟩ := List.mem_filterMap.mp hm
      exact nfr (List.mem_filterMap.mpr ⟨e, List.mem_cons_of_mem _ he, q⟩)
    have S3 := J3.suite he3 hd3 na nL nF
    have nI : sI.heap.get? a = none := by
      cases q : sI.heap.get? a with
      | none => rfl
      | some o =>
        have z := nb a o q (by rw [hs]; exact nfr)
        rw [fl3.2.1] at z
        cases z
    refine wpAny_handleBy_cons (codeAny_handlers_test ?_) (by intro q; cases q)
    have LT : PySem.W.Looks (model X.prog X.w) h3 (typeOf (.ref a)) cls := fun A Q E s k q => wpAny_typeOf_ref (k _ _ he3) (by rw [hz3.1]; exact q)
    have LM := PySem.W.exm_one (M := model X.prog X.w) (J3.kIn) LT hb1
    have test : ∀ {Q : Value → Shared → Prop} {E : Value → Shared → Prop}, Q c { s1 with heap := h3 } → wpAny (model X.prog X.w) (X.A.mark (some (.ref a))) (eval (.Name x np) X.env) Q E { s1 with heap := h3 } := fun {Q E} q => by
      obtain ⟨hg, hdbg, hm | ⟨hm, hv, hnn⟩⟩ := hc
      · exact ld_glob (X := X.suite a ((a, oe3) :: (X.pn ++ pins))) S3 hg hm q hdbg
      · exact ld_blt (X := X.suite a ((a, oe3) :: (X.pn ++ pins))) S3 hg hm hv q hnn hdbg
    refine test (LM.here ?_)
    cases b with
    | true =>
      refine codeAny_handlers_suite_as ?_
      refine HandSPX.lands_againZ fl3 fun h4 fl4 up4 => ?_
      obtain ⟨oe4, vs4, he4, hz4, hd4⟩ := fl4.there
      obtain ⟨G, g1, g2⟩ := restrict h4 fun b => decide (b ≠ a)
      have gk : ∀ b, b ≠ a → G.get? b = h4.get? b := fun b hb => g1 b (decide_eq_true hb)
      have ga : G.get? a = none := g2 a (decide_eq_false fun z => z rfl)
      have gs : ∀ b o, G.get? b = some o → h4.get? b = some o := fun b o e => by
        by_cases hb : b = a
        · rw [hb, ga] at e; cases e
        · rw [← gk b hb]; exact e
      have J4 : Inv X pins σ1 H1 { s1 with heap := G } := J.landed nb (fun b o e => by
        have hb : b ≠ a := fun z => by rw [z, fl4.2.1] at e; cases e
        show G.get? b = some o
        rw [gk b hb]
        exact fl4.1 b o e) (fun b o e hd => by
        have hb : b ≠ a := fun z => by rw [z, nI] at e; cases e
        obtain ⟨sl, q⟩ := ((up.trans up3).trans up4) b o e hd
        exact ⟨sl, by show G.get? b = _; rw [gk b hb]; exact q⟩) os ag
      have J5 : Inv X pins σ1 (upd H1 a (ExcO cls d a)) { s1 with heap := h4 } := J4.laidN gs ga na (excO_ok he4 hz4 hd4)
      refine store_ok (X := X.suite a (X.pn ++ pins)) (v := .ref a) (Inv.toSuite J5 a) hN hi (.inl hln) rfl (fun s5 S5 => ?_) (.inr hln)
      refine wpAny_mono ((hsu a (X.pn ++ pins)).run [] s5 _ _ _ S5 (hyes rfl J.len a na)) (fun f s6 hsp => ?_) (fun _ _ z => False.elim z)
      have end_ : ∀ {σ6 : L2.St} {H6 : Hp} {Q : Shared → Prop}, Inv (X.suite a (X.pn ++ pins)) [] σ6 H6 s6 → (∀ s7, Inv X pins (σ6.set i none) H6 s7 → Q s7) →
          wpAny (model X.prog X.w) X.A (do bindName X.env n .none; unbindBehindTheSuite X.env n pos2) (fun _ s7 => Q s7) X.xe s6 := fun {σ6 H6 Q} S6 hq => gone_ok (Inv.fromSuite S6 ok) hN hi hln hq
      cases f with
      | next =>
        obtain ⟨σ6, H6, S6, q6⟩ := hsp
        exact end_ S6 fun s7 J7 => ⟨_, _, J7, q6⟩
      | brk =>
        obtain ⟨σ6, H6, S6, q6⟩ := hsp
        exact end_ S6 fun s7 J7 => ⟨_, _, J7, q6⟩
      | cont =>
        obtain ⟨σ6, H6, S6, q6⟩ := hsp
        exact end_ S6 fun s7 J7 => ⟨_, _, J7, q6⟩
      | ret u =>
        obtain ⟨v6, σ6, H6, S6, r6, q6⟩ := hsp
        exact end_ S6 fun s7 J7 => ⟨_, _, _, J7, r6, q6⟩
    | false =>
      show wpAny _ X.A (handleBy (.ref a) X.env []) _ _ _
      refine wpAny_handleBy_nil ?_
      obtain ⟨k1, k2, k3, oe, vs, T, oT, ts2, he, hz, hd, h1, hr⟩ := id fl3
      unfold PySem.passOn
      refine wpAny_bind (wpAny_field he hd h1 ?_)
      rw [if_neg (show ¬ ((Value.ref T == Value.none) = true) from by simp)]
      have fin : wpAny (model X.prog X.w) X.A (setFlight (.ref a) X.env.frame) (fun _ s4 => wpAny (model X.prog X.w) X.A (throw (.ref a) : Sem Flow) (L2.SP X pins D) X.xe s4) X.xe { s1 with heap := h3 } := by
        rw [hf]
        refine HandSPX.setFlight_upZ fl3 fun h4 hh4 up4 => wpAny_throw (tk _ _ ?_)
        exact ⟨a, B, sI, pins, σ1, H1, cls, d, rfl, J, nb, (up.trans up3).trans up4, .inr (.inr (by rw [hs]; exact hh4)), na, os, ag, hno rfl⟩
      first
        | exact wpAny_bind (wpAny_pure (wpAny_bind fin))
        | exact wpAny_bind fin
  · cases f with
    | next =>
      obtain ⟨σ1, H1, J, q⟩ := hsp
      exact wpAny_execs_nil ⟨σ1, H1, J.ofTry ok, q⟩
    | brk =>
      obtain ⟨σ1, H1, J, q⟩ := hsp
      exact ⟨σ1, H1, J.ofTry ok, q⟩
    | cont =>
      obtain ⟨σ1, H1, J, q⟩ := hsp
      exact ⟨σ1, H1, J.ofTry ok, q⟩
    | ret u =>
      obtain ⟨v, σ1, H1, J, r, q⟩ := hsp
      exact ⟨v, σ1, H1, J.ofTry ok, r, q⟩
end
/-! ### raise, try: what the evaluator says -/
section
variable {K : PySem.W.Frag} {H0 : Bs} {h h' : Nat → Bool} {σ : L2.St} {F : Addr → Prop} {H : Hp} {env : Nv}
theorem wipeH_len (b : I) (env : Nv) : (wipeH b env).length = env.length := by simp [wipeH]
theorem wipeH_get (b : I) (env : Nv) (j : Nat) : (wipeH b env)[j]? = (env[j]?).map fun s => if b.hits j then Slot.emp else s := by simp [wipeH]
/-- the slots that were touched are forgotten -/
theorem StpS.forget {b : I} {σ1 : L2.St} {F1 : Addr → Prop} {H1 : Hp} {e1 : Nv} (s : StpS K H0 (fun j => b.hits j) σ F H env σ1 F1 H1 e1) (S : Sim K H0 F H σ env) (hl : σ1.length = σ.length) : StpS K H0 (fun j => b.hits j) σ F H env σ1 F1 H1 (wipeH b env) := by
  have keep : ∀ (j : Nat) (sl : Slot), (wipeH b env)[j]? = some sl → sl ≠ .emp → e1[j]? = some sl := fun j sl e ne => by
    rw [wipeH_get] at e
    cases hj : b.hits j with
    | true =>
      rw [hj] at e
      obtain ⟨z, _, h2⟩ := Option.map_eq_some_iff.mp e
      exact absurd h2.symm ne
    | false =>
      rw [hj] at e
      obtain ⟨z, h1, h2⟩ := Option.map_eq_some_iff.mp e
      have h2 : z = sl := h2
      subst h2
      rw [(s.off j hj).1]
      exact h1
  refine ⟨⟨by rw [wipeH_len, hl]; exact S.len, fun j d e => s.sim.val j d (keep j _ e (fun z => nomatch z)), fun j c e => s.sim.own j c (keep j _ e (fun z => nomatch z)), fun j k c c2 a z1 z2 z3 z4 => s.sim.sep j k c c2 a (keep j _ z1 (fun z => nomatch z)) (keep k _ z2 (fun z => nomatch z)) z3 z4, s.sim.old, s.sim.fro⟩,
    s.keep, s.stay, s.up, s.new, fun b2 ⟨j, c, e, es⟩ => s.own b2 ⟨j, c, keep j _ e (fun z => nomatch z), es⟩, fun j hj => ?_, s.pin⟩
  refine ⟨?_, (s.off j hj).2⟩
  rw [wipeH_get]
  have hj : b.hits j = false := hj
  rw [hj]
  cases env[j]? <;> rfl
/-- a slot's name goes -/
theorem Sim.gone (S : Sim K H0 F H σ env) (i : Nat) (hh : h i = true) (hp : H0.pin i = false) : StpS K H0 h σ F H env (σ.set i none) F H (env.set i .emp) := by
  have keep : ∀ (j : Nat) (sl : Slot), (env.set i Slot.emp)[j]? = some sl → sl ≠ .emp → i ≠ j ∧ env[j]? = some sl := fun j sl e ne => by
    rw [get_set] at e
    split at e
    · cases e; exact absurd rfl ne
    · rename_i hz
      refine ⟨fun z => hz ⟨z, (List.getElem?_eq_some_iff.mp e).1⟩, e⟩
  have sg : ∀ j, i ≠ j → (σ.set i none)[j]? = σ[j]? := fun j hj => by rw [List.getElem?_set_ne hj]
  refine ⟨⟨by simp [S.len], fun j d e => ?_, fun j c e => ?_, fun j k c c2 a z1 z2 z3 z4 => ?_, S.old, S.fro⟩, fun _ _ e _ => e, fun _ z => z, fun _ z => z, fun _ z => .inl z, fun b ⟨j, c, e, es⟩ => ?_, fun j hj => ?_, fun j hj => List.getElem?_set_ne (pin_ne hp hj)⟩
  · obtain ⟨h1, h2⟩ := keep j _ e (fun z => nomatch z)
    rw [sg j h1]; exact S.val j d h2
  · obtain ⟨h1, h2⟩ := keep j _ e (fun z => nomatch z)
    rw [sg j h1]; exact S.own j c h2
  · obtain ⟨h1, h2⟩ := keep j _ z1 (fun z => nomatch z)
    obtain ⟨h3, h4⟩ := keep k _ z2 (fun z => nomatch z)
    rw [sg j h1] at z3
    rw [sg k h3] at z4
    exact S.sep j k c c2 a h2 h4 z3 z4
  · obtain ⟨h1, h2⟩ := keep j _ e (fun z => nomatch z)
    rw [sg j h1] at es
    exact .inl ⟨j, c, h2, es⟩
  · have hij : i ≠ j := fun z => by subst z; rw [hh] at hj; cases hj
    rw [List.getElem?_set_ne hij, List.getElem?_set_ne hij]
    exact ⟨rfl, rfl⟩
end
section
variable {X : Cx} {G : Gc} {ib ih : I} {x n c : Str} {i : Nat} {body rest : List Stmt} {st0 : Stmt} {np pos pos2 : Pos}
/-- G with another wish about exceptions -/
abbrev Gc.by (G : Gc) (W : WX) : Gc := { G with W := W }
theorem wf_xde {H H' : Hp} {dd : Option Addr} {at_ : Option Int} (h : XdAt H dd at_) (k : ∀ b o, H b = some o → H' b = some o) : XdAt H' dd at_ := by
  cases at_ with
  | none => exact h
  | some j =>
    obtain ⟨d, fs, h1, h2, h3⟩ := h
    exact ⟨d, fs, h1, k _ _ h2, h3⟩
theorem ss_tryK (hs : X.stack = X.env :: X.outer) (hf : X.env.frame = some X.env.locals) (hN : X.N.Nodup) (hi : X.N[i]? = some n) (hpin : G.H0.pin i = false) (hln : X.env.kindOf n = some .local) (hc : Names X x (.ref (He.ga X.K c))) (tk : Takes X G.W)
    (hsub : ∀ y t, G.cx.sub y c = some t → PySem.W.exmOne X.K (.ref (He.ga X.K y)) (.ref (He.ga X.K c)) = some t)
    (hb : ∀ (W : WX) (pn : List (Addr × Obj)) (xe : Value → Shared → Prop), Takes (X.tr pn xe) W → PassesOwn (model X.prog X.w) X.A X.env xe → PSs (X.tr pn xe) body (TS X.K (G.by W) ib))
    (hsu : ∀ (a : Addr) (pn : List (Addr × Obj)), PSs (X.suite a pn) (st0 :: rest) (TS X.K G.no ih)) :
    PS X (.Try body [.ExceptHandler (some (.Name x np)) (some n) (st0 :: rest) pos2] [] [] pos) (TS X.K G (.try_ ib c (some i) ih)) := by
  refine ⟨fun pins s σ H E J0 q => (ps_tryK (Wo := G.W) hs hf hN hi hln hc tk hb hsu).run pins s σ H E J0 ?_⟩
  obtain ⟨F, env, S, P⟩ := q
  refine ⟨F, env, S, ?_⟩
  show PostS X.K (G.by _) (fun j => ib.hits j) σ F H env E (evS G.cx ib env)
  rw [evS] at P
  have lb : ∀ j, (I.try_ ib c (some i) ih).hits j = false → ib.hits j = false := fun j hj => or_l (or_l (show (ib.hits j || ih.hits j || (i == j)) = false from hj))
  have lh : ∀ j, (I.try_ ib c (some i) ih).hits j = false → ih.hits j = false := fun j hj => or_r (or_l (show (ib.hits j || ih.hits j || (i == j)) = false from hj))
  have li : (I.try_ ib c (some i) ih).hits i = true := by
    show (ib.hits i || ih.hits i || (i == i)) = true
    simp
  cases eb : evS G.cx ib env with
  | stuck => rw [eb] at P; exact P.elim
  | ok r =>
    rw [eb] at P
    obtain ⟨fl, e1⟩ := r
    cases fl with
    | next => exact fun σ1 F1 H1 s1 => P σ1 F1 H1 (s1.weak lb)
    | ret v => exact fun σ1 F1 H1 w s1 q1 => P σ1 F1 H1 w (s1.weak lb) q1
  | exc y =>
    rw [eb] at P
    intro σ1 F1 e1 cc dd H1 s1 hx
    obtain ⟨t, ht, P⟩ := PostS.of P
    obtain ⟨hcc, hdd⟩ := hx
    subst hcc
    refine ⟨t, hsub _ _ ht, fun et hl a ha => ?_, fun et => ?_⟩
    · subst et
      have hl0 : σ.length = X.N.length := J0.len
      have s2 := s1.forget S (by rw [hl, hl0])
      have s3 : Stp X.K G.H0 σ1 (fun _ => false) F1 H1 (wipeH ib env) F1 (upd H1 a (ExcO (.ref (He.ga X.K y.cls)) dd a)) (wipeH ib env) := s2.sim.stp (Go.upd ha)
      have rx : Rep X.K F1 (upd H1 a (ExcO (.ref (He.ga X.K y.cls)) dd a)) (.ref a) (.exn y.cls y.at_) := .exn upd_same (wf_xde hdd fun b o e => by rw [upd_ne (ne_of_none e ha)]; exact e)
      have s4 := s3.sim.stpVal (h := fun j => (I.try_ ib c (some i) ih).hits j) i rx li hpin
      have s14 := ((s2.weak lb).trans (s3.s.weak (h' := fun j => (I.try_ ib c (some i) ih).hits j) fun _ _ => rfl) (fun _ z => z) fun _ z => z).trans s4 (fun _ z => z) fun _ z => z
      refine ⟨F1, (wipeH ib env).set i (.val (.exn y.cls y.at_)), s4.sim, ?_⟩
      have P : PostS X.K G (fun j => (I.try_ ib c (some i) ih).hits j) σ F H env E ((noExc (evS G.cx ih ((wipeH ib env).set i (.val (.exn y.cls y.at_))))).bind fun r => .ok (r.1, r.2.set i .emp)) := P
      show PostS X.K G.no (fun j => ih.hits j) _ F1 _ _ _ (evS G.cx ih ((wipeH ib env).set i (.val (.exn y.cls y.at_))))
      cases eh : evS G.cx ih ((wipeH ib env).set i (.val (.exn y.cls y.at_))) with
      | stuck => rw [eh] at P; exact P.elim
      | exc z => rw [eh] at P; exact P.elim
      | ok r =>
        rw [eh] at P
        obtain ⟨fl, e5⟩ := r
        have tot : ∀ {σ5 : L2.St} {F5 : Addr → Prop} {H5 : Hp}, StpS X.K G.H0 (fun j => ih.hits j) (σ1.set i (some (.ref a))) F1 (upd H1 a (ExcO (.ref (He.ga X.K y.cls)) dd a)) ((wipeH ib env).set i (.val (.exn y.cls y.at_))) σ5 F5 H5 e5 →
            StpS X.K G.H0 (fun j => (I.try_ ib c (some i) ih).hits j) σ F H env (σ5.set i none) F5 H5 (e5.set i .emp) := fun s5 =>
          (s14.trans (s5.weak lh) (fun _ z => z) fun _ z => z).trans (s5.sim.gone (h := fun j => (I.try_ ib c (some i) ih).hits j) i li hpin) (fun _ z => z) fun _ z => z
        cases fl with
        | next => exact fun σ5 F5 H5 s5 => P _ F5 H5 (tot s5)
        | ret v => exact fun σ5 F5 H5 w s5 q5 => P _ F5 H5 w (tot s5) (by
            cases v with
            | val d => exact q5
            | new c => exact q5
            | ref j =>
              intro hj
              obtain ⟨a5, z1, z2⟩ := q5 hj
              exact ⟨a5, z1, (List.getElem?_set_ne (pin_ne hpin hj)).trans z2⟩)
    · subst et
      exact P σ1 F1 e1 _ dd H1 (s1.weak lb) ⟨rfl, hdd⟩
end
/-! ### what a class of exceptions must be -/
/-- the class at C, as the text's own class of exceptions -/
structure ExcF (K : PySem.W.Frag) (C : Addr) : Prop where
  cl : (PySem.W.clsIn K C).isSome = true
  ga : PySem.W.findIn K (.ref C) "__getattribute__" = some (some (.builtin "BaseException.__getattribute__"))
  gt : PySem.W.findIn K (.ref C) "__getattr__" = some none
  sub : PySem.W.subIn K (.ref C) (.type "BaseException") = some true
  hd : PySem.W.hasDictIn K C = true
  at_ : PySem.W.findIn K (.ref C) "at" = some none
  ca : PySem.W.findIn K (.ref C) "__class__" = some (some (.builtin "object.__class__"))
  sn : PySem.W.specialIn K (.builtin "object.__class__") "__get__" = some (some (.builtin "getset_descriptor.__get__"))
  tk : PySem.W.takesIn K (.builtin "object.__class__") = some true
  mr : PySem.W.mroIn K C (.type "object") = some true
  ty : PySem.W.typeIn K (.ref C) = some (.type "type")
  kp : PySem.W.keepIn K (.ref C) = true
def excFB (K : PySem.W.Frag) (C : Addr) : Bool :=
  (PySem.W.clsIn K C).isSome && decide (PySem.W.findIn K (.ref C) "__getattribute__" = some (some (.builtin "BaseException.__getattribute__"))) && decide (PySem.W.findIn K (.ref C) "__getattr__" = some none) &&
  decide (PySem.W.subIn K (.ref C) (.type "BaseException") = some true) && PySem.W.hasDictIn K C && decide (PySem.W.findIn K (.ref C) "at" = some none) && decide (PySem.W.findIn K (.ref C) "__class__" = some (some (.builtin "object.__class__"))) &&
  decide (PySem.W.specialIn K (.builtin "object.__class__") "__get__" = some (some (.builtin "getset_descriptor.__get__"))) && decide (PySem.W.takesIn K (.builtin "object.__class__") = some true) && decide (PySem.W.mroIn K C (.type "object") = some true) &&
  decide (PySem.W.typeIn K (.ref C) = some (.type "type")) && PySem.W.keepIn K (.ref C)
theorem excFB_ok {K : PySem.W.Frag} {C : Addr} (h : excFB K C = true) : ExcF K C := by
  obtain ⟨h, h12⟩ := Bool.and_eq_true_iff.mp h
  obtain ⟨h, h11⟩ := Bool.and_eq_true_iff.mp h
  obtain ⟨h, h10⟩ := Bool.and_eq_true_iff.mp h
  obtain ⟨h, h9⟩ := Bool.and_eq_true_iff.mp h
  obtain ⟨h, h8⟩ := Bool.and_eq_true_iff.mp h
  obtain ⟨h, h7⟩ := Bool.and_eq_true_iff.mp h
  obtain ⟨h, h6⟩ := Bool.and_eq_true_iff.mp h
  obtain ⟨h, h5⟩ := Bool.and_eq_true_iff.mp h
  obtain ⟨h, h4⟩ := Bool.and_eq_true_iff.mp h
  obtain ⟨h, h3⟩ := Bool.and_eq_true_iff.mp h
  obtain ⟨h1, h2⟩ := Bool.and_eq_true_iff.mp h
  exact ⟨h1, of_decide_eq_true h2, of_decide_eq_true h3, of_decide_eq_true h4, h5, of_decide_eq_true h6, of_decide_eq_true h7, of_decide_eq_true h8, of_decide_eq_true h9, of_decide_eq_true h10, of_decide_eq_true h11, h12⟩
theorem ExcF.kit {K : PySem.W.Frag} {C x : Addr} {od : Option Obj} {ox : Obj} (T : ExcF K C) : PySem.W.KitX K (.ref x) (.ref C) (fun h => PySem.W.InstAt h x ox C od) := PySem.W.kitx_exc T.cl T.ga T.gt T.sub T.ca T.sn T.tk T.mr
/-- an exception object as it stands -/
theorem exc_inst {X : Cx} {pins : List (Addr × Obj)} {σ : L2.St} {H : Hp} {s : Shared} {a C : Addr} {d : Option Addr} {at_ : Option Int} (J : Inv X pins σ H s) (ha : H a = some (ExcO (.ref C) d a)) (hd : XdAt H d at_) : ∃ ox od, PySem.W.InstAt s.heap a ox C od := by
  obtain ⟨⟨oe, vs, e, ⟨z1, z2⟩, g⟩, _, _⟩ := (show ObjOk X.prog X.w H s.heap a (ExcO (.ref C) d a) from J.hok a _ ha)
  obtain ⟨oc, od, oda, osl⟩ := oe
  dsimp only at z1 z2 g
  subst z1 z2 g
  cases at_ with
  | none =>
    have hd : od = none := hd
    subst hd
    exact ⟨_, none, e, rfl, rfl, trivial⟩
  | some i =>
    obtain ⟨dd, fs, rfl, h2, h3⟩ := hd
    have hx : ObjOk X.prog X.w H s.heap dd (.xd fs) := J.hok dd _ h2
    obtain ⟨mA, hns, hr⟩ := hx
    obtain ⟨o2, ho, _⟩ := lookIn_ns hns
    exact ⟨_, some o2, e, rfl, rfl, ho⟩
section
variable {X : Cx} {G : Gc} {ia : I} {a : Expr} {es : List Expr} {p pos : Pos}
def rIsX (K : PySem.W.Frag) : List V → Hp → VK → Prop := fun xs H Q => ∃ (x C : Addr) (d : Option Addr) (at_ : Option Int) (c : V) (cv : Value) (b : Bool), xs = [.ref x, c] ∧ H x = some (ExcO (.ref C) d x) ∧ XdAt H d at_ ∧ ExcF K C ∧ ClsV c cv ∧ PySem.W.kitOne K (.ref C) cv = some b ∧ Q (.bl b) H
theorem call_isX : CallR X (.builtin "isinstance") (rIsX X.K) := by
  intro pins s σ H xs us Q J r h
  obtain ⟨x, C, d, at_, c, cv, b, rfl, hx, hd, T, k, e, q⟩ := h
  obtain ⟨u1, u2, rfl, r1, r2⟩ := vals2 r
  have e2 := k.eq r2
  subst e2
  cases r1
  obtain ⟨ox, od, hI⟩ := exc_inst J hx hd
  exact PySem.W.kia_one T.kit J.kIn hI e (fun z => nomatch z) fun tk => ⟨.bl b, H, J.tok tk, rfl, q⟩
def rIsXT (K : PySem.W.Frag) : List V → Hp → VK → Prop := fun xs H Q => ∃ (x C tp : Addr) (d : Option Addr) (at_ : Option Int) (cs : List V) (cvs : List Value) (b : Bool), xs = [.ref x, .ref tp] ∧ H tp = some (.tup cs) ∧ H x = some (ExcO (.ref C) d x) ∧ XdAt H d at_ ∧ ExcF K C ∧ Paired ClsV cs cvs ∧ PySem.W.kitAny K (.ref C) cvs = some b ∧ Q (.bl b) H
theorem call_isXT : CallR X (.builtin "isinstance") (rIsXT X.K) := by
  intro pins s σ H xs us Q J r h
  obtain ⟨x, C, tp, d, at_, cs, cvs, b, rfl, hT, hx, hd, T, k, e, q⟩ := h
  obtain ⟨u1, u2, rfl, r1, r2⟩ := vals2 r
  cases r2
  cases r1
  obtain ⟨ox, od, hI⟩ := exc_inst J hx hd
  obtain ⟨_, its, rv, o, h1, h2, n, h3⟩ := (show ObjOk X.prog X.w H s.heap tp (.tup cs) from J.hok tp _ hT)
  have e3 := ClsV.all k rv
  subst e3
  obtain ⟨oc, od2, dt, sl⟩ := o
  simp only at h2 h3
  subst h2 h3
  exact PySem.W.kia_tup T.kit J.kIn hI h1 e (fun z => nomatch z) fun tk => ⟨.bl b, H, J.tok tk, rfl, q⟩
/-- a class that isinstance asks after: its name, its value -/
def clsV (K : PySem.W.Frag) (c : Str) : V := if c = "ValueError" then .ty "ValueError" else .ref (He.ga K c)
def clsW (K : PySem.W.Frag) (c : Str) : Value := if c = "ValueError" then .type "ValueError" else .ref (He.ga K c)
theorem cls_vw (K : PySem.W.Frag) (c : Str) : ClsV (clsV K c) (clsW K c) := by
  unfold clsV clsW
  split
  · exact .ty _
  · exact .own _
/-- the name c stands for its class here -/
def NamesC (X : Cx) (c : Str) : Prop := Gl X c ∧ okD c = true ∧ ((c = "ValueError" ∧ X.mg c = none) ∨ (c ≠ "ValueError" ∧ X.mg c = some (.ref (He.ga X.K c))))
where okD (c : Str) : Bool := !(c == ("__debug__" : Str))
theorem pe_cls {c : Str} (h : NamesC X c) : PE X (.Name c p) (tC (clsV X.K c)) := by
  obtain ⟨hg, hd, h⟩ := h
  have hd : (c == ("__debug__" : Str)) = false := by
    unfold NamesC.okD at hd
    cases q : (c == ("__debug__" : Str)) with
    | false => rfl
    | true => rw [q] at hd; cases hd
  rcases h with ⟨rfl, hm⟩ | ⟨hn, hm⟩
  · exact pe_bltn hg hm (by decide +kernel) rfl (by decide) hd
  · have e : clsV X.K c = .ref (He.ga X.K c) := if_neg hn
    rw [e]
    exact pe_glob hg hm rfl hd
/-- of a class of exceptions: what may be asked -/
def SubOk (K : PySem.W.Frag) (sub : Str → Str → Option Bool) : Prop := ∀ y c t, sub y c = some t → ExcF K (He.ga K y) ∧ PySem.W.kitOne K (.ref (He.ga K y)) (clsW K c) = some t ∧ (c ≠ "ValueError" → PySem.W.exmOne K (.ref (He.ga K y)) (.ref (He.ga K c)) = some t)
theorem sub_any {K : PySem.W.Frag} {sub : Str → Str → Option Bool} {y : Str} (hs : SubOk K sub) : ∀ {cs : List Str} {t : Bool}, subAny sub y cs = some t → PySem.W.kitAny K (.ref (He.ga K y)) (cs.map (clsW K)) = some t
  | [], t, e => by cases e; rfl
  | c :: cs, t, e => by
    obtain ⟨b, h1, h2⟩ := Option.bind_eq_some_iff.mp (show (sub y c).bind (fun b => (subAny sub y cs).map fun r => b || r) = some t from e)
    obtain ⟨r, h3, h4⟩ := Option.map_eq_some_iff.mp h2
    subst h4
    refine kitAny_cons (hs y c b h1).2.1 (fun e => ?_) fun e => by rw [e, Bool.true_or]
    rw [e, Bool.false_or]
    exact sub_any hs h3
theorem sub_first {K : PySem.W.Frag} {sub : Str → Str → Option Bool} {y : Str} (hs : SubOk K sub) {c : Str} {cs : List Str} {t : Bool} (e : subAny sub y (c :: cs) = some t) : ExcF K (He.ga K y) := by
  obtain ⟨b, h1, h2⟩ := Option.bind_eq_some_iff.mp (show (sub y c).bind (fun b => (subAny sub y cs).map fun r => b || r) = some t from e)
  exact (hs y c b h1).1
theorem exn_rep {K : PySem.W.Frag} {F : Addr → Prop} {H : Hp} {v : V} {y : Str} {at_ : Option Int} (h : RepV K F H v (.exn y at_)) : ∃ a d, v = .ref a ∧ H a = some (ExcO (.ref (He.ga K y)) d a) ∧ XdAt H d at_ := by
  rcases h with h | ⟨a, c, rfl, e, _⟩
  · cases h with
    | exn h1 h2 => exact ⟨_, _, rfl, h1, h2⟩
  · cases c <;> cases e
theorem isEx_exn {sub : Str → Str → Option Bool} {cs : List Str} {d : D} {b : Bool} (e : isEx sub cs d = some b) : ∃ y at_, d = .exn y at_ ∧ subAny sub y cs = some b := by
  cases d <;> first | (cases e; done) | exact ⟨_, _, rfl, e⟩
theorem se_isE1 {c : Str} {p2 : Pos} (hs : SubOk X.K G.cx.sub) (hg : Gl X "isinstance") (hm : X.mg "isinstance" = none) (hc : NamesC X c) (ha : SE X G a ia) (hst : notStar a = true) :
    SE X G (.Call (.Name "isinstance" p) [a, .Name c p2] [] pos) (.isE [c] ia) := by
  refine SE.of_pe (imp_pe (pe_callB call_isX hg hm PyProof.Rows.boot_isinstance (pa_cons ha.pe (pa_cons (pe_cls hc) pa_nil) (starEach_cons hst)) (by decide) (by decide) (starEach_cons hst)) fun σ H Q h => ?_) (fun _ => rfl) (fun _ _ _ z => nomatch z)
  obtain ⟨F, env, S, P⟩ := h
  rw [evE] at P
  refine ⟨F, env, S, P.seq (fun j hj => hj) fun r env1 F1 x H1 _ P1 s1 q1 => ?_⟩
  obtain ⟨d, hd, P2⟩ := P1.of
  obtain ⟨b, hb, P3⟩ := P2.of
  obtain ⟨y, at_, rfl, hsa⟩ := isEx_exn hb
  obtain ⟨x0, dd, rfl, h1, h2⟩ := exn_rep (q1.get s1.sim hd)
  have hk := sub_any hs hsa
  refine ⟨x0, _, dd, at_, _, _, b, rfl, h1, h2, sub_first hs hsa, cls_vw _ _, ?_, P3 F1 _ H1 (Stp.refl s1.sim) (.bl _)⟩
  obtain ⟨b2, g1, g2⟩ := Option.bind_eq_some_iff.mp (show (G.cx.sub y c).bind (fun b => (some false).map fun r => b || r) = some b from hsa)
  have g2 : some (b2 || false) = some b := g2
  rw [Bool.or_false] at g2
  have g2 := Option.some.inj g2
  subst g2
  exact (hs y c _ g1).2.1
theorem pa_cls {cs : List (Str × Pos)} (h : ∀ q ∈ cs, NamesC X q.1) : ∃ t, PA X (cs.map fun q => Expr.Name q.1 q.2) t ∧ ∀ σ H Q, Q (cs.map fun q => clsV X.K q.1) H → t σ H Q := by
  induction cs with
  | nil => exact ⟨_, pa_nil, fun _ _ _ h => h⟩
  | cons q r ih =>
    obtain ⟨t, h1, h2⟩ := ih fun q hq => h q (List.mem_cons_of_mem _ hq)
    exact ⟨_, pa_cons (pe_cls (h q List.mem_cons_self)) h1, fun σ H Q h => h2 σ H _ h⟩
theorem paired_cls (K : PySem.W.Frag) : ∀ cs : List Str, Paired ClsV (cs.map (clsV K)) (cs.map (clsW K))
  | [] => .nil
  | c :: cs => .cons (cls_vw K c) (paired_cls K cs)
theorem se_isET {cs : List (Str × Pos)} {k : Nat} {p2 : Pos} (hs : SubOk X.K G.cx.sub) (hg : Gl X "isinstance") (hm : X.mg "isinstance" = none) (hc : ∀ q ∈ cs, NamesC X q.1) (hl : cs.length ≤ 100) (hne : cs ≠ []) (ha : SE X G a ia) (hst : notStar a = true) :
    SE X G (.Call (.Name "isinstance" p) [a, .Tuple (cs.map fun q => Expr.Name q.1 q.2) k p2] [] pos) (.isE (cs.map (·.1)) ia) := by
  obtain ⟨t, h1, h2⟩ := pa_cls hc
  refine SE.of_pe (imp_pe (pe_callB call_isXT hg hm PyProof.Rows.boot_isinstance (pa_cons ha.pe (pa_cons (pe_tup h1) pa_nil) (starEach_cons hst)) (by decide) (by decide) (starEach_cons hst)) fun σ H Q h => ?_) (fun _ => rfl) (fun _ _ _ z => nomatch z)
  obtain ⟨F, env, S, P⟩ := h
  rw [evE] at P
  refine ⟨F, env, S, P.seq (fun j hj => hj) fun r env1 F1 x H1 _ P1 s1 q1 => h2 _ _ _ ⟨by rw [List.length_map, sizeLine_16]; omega, fun tp htp => ?_⟩⟩
  obtain ⟨d, hd, P2⟩ := P1.of
  obtain ⟨b, hb, P3⟩ := P2.of
  obtain ⟨y, at_, rfl, hsa⟩ := isEx_exn hb
  obtain ⟨x0, dd, rfl, g1, g2⟩ := exn_rep (q1.get s1.sim hd)
  have up : ∀ b o, H1 b = some o → upd H1 tp (.tup (cs.map fun q => clsV X.K q.1)) b = some o := fun b o e => by rw [upd_ne (ne_of_none e htp)]; exact e
  have e1 : (cs.map fun q => clsV X.K q.1) = (cs.map (·.1)).map (clsV X.K) := by rw [List.map_map]; rfl
  have T : ExcF X.K (He.ga X.K y) := by
    cases cs with
    | nil => exact absurd rfl hne
    | cons q r => exact sub_first hs hsa
  refine ⟨x0, _, tp, dd, at_, _, _, b, rfl, upd_same, up _ _ g1, wf_xde g2 up, T, by rw [e1]; exact paired_cls X.K _, sub_any hs hsa, P3 F1 _ _ (s1.sim.stp (Go.upd htp)) (.bl _)⟩
end
/-! ### e.at, raise, try without a name -/
section
variable {X : Cx} {G : Gc} {ia ib ih : I} {a : Expr} {es : List Expr} {p pos pos2 np : Pos} {x c : Str} {body rest : List Stmt} {st0 : Stmt}
def tXfK (K : PySem.W.Frag) (f : Str) (te : L2.TE) : L2.TE := fun σ H Q => te σ H fun x H1 => ∃ (e C dd : Addr) (fs : List (Str × V)) (v : V), x = .ref e ∧ H1 e = some (ExcO (.ref C) (some dd) e) ∧ ExcF K C ∧ PySem.W.findIn K (.ref C) f = some none ∧ H1 dd = some (.xd fs) ∧ fs.lookup f = some v ∧ Q v H1
theorem pe_xfK {f : Str} {te : L2.TE} (he : PE X a te) (hb : attributeBase a f X.env (eval a X.env) = eval a X.env := by rfl) : PE X (.Attribute a f pos) (tXfK X.K f te) := by
  refine ⟨fun pins s σ H Q J h => ?_⟩
  refine attr_of hb (thn (he.run pins s σ H _ J h) fun u s1 hh => ?_)
  obtain ⟨x, H1, J1, rx, e, C, dd, fs, v, rfl, h1, T, hno, ea, l, q⟩ := hh
  obtain rfl : u = Value.ref e := rx
  obtain ⟨⟨oe, vs, ho, ⟨z1, z2⟩, g⟩, _, _⟩ := (show ObjOk X.prog X.w H1 s1.heap e (ExcO (.ref C) (some dd) e) from J1.hok e _ h1)
  have hx : ObjOk X.prog X.w H1 s1.heap dd (.xd fs) := J1.hok dd _ ea
  obtain ⟨mA, hns, hr⟩ := hx
  obtain ⟨od, hod, hl⟩ := lookIn_ns hns
  obtain ⟨w, hw, rw'⟩ := RelO.some_of (v := v) (o := mA f) (by rw [← l]; exact hr f)
  have hI : PySem.W.InstAt s1.heap e oe C (some od) := ⟨ho, z1, by unfold PySem.W.notCls; rw [g] <;> rfl, by rw [z2]; exact hod⟩
  exact HandSPX.exc_get J1.kIn hI T.ga T.gt T.sub (PySem.W.findObj_own T.hd hno rfl (by rw [hl, hw])) (handed_of rw') ⟨v, H1, J1.tok _, rw', q⟩
theorem se_atE (hs : SubOk X.K G.cx.sub) (ha : SE X G a ia) (hb : attributeBase a "at" X.env (eval a X.env) = eval a X.env) : SE X G (.Attribute a "at" pos) (.atE ia) := by
  refine SE.of_pe (imp_pe (pe_xfK ha.pe hb) fun σ H Q h => ?_) (fun _ => rfl) (fun _ _ _ z => nomatch z)
  obtain ⟨F, env, S, P⟩ := h
  rw [evE] at P
  refine ⟨F, env, S, P.seq (fun j hj => hj) fun r env1 F1 x H1 _ P1 s1 q1 => ?_⟩
  obtain ⟨d, hd, P2⟩ := P1.of
  obtain ⟨i, hi, P3⟩ := P2.of
  have key : ∃ y, d = .exn y (some i) ∧ ∃ t, G.cx.sub y y = some t := by
    unfold atOf at hi
    split at hi
    · obtain ⟨t, h1, h2⟩ := Option.map_eq_some_iff.mp hi
      subst h2
      exact ⟨_, rfl, t, h1⟩
    · cases hi
  obtain ⟨y, rfl, t, ht⟩ := key
  obtain ⟨x0, dd, rfl, h1, h2⟩ := exn_rep (q1.get s1.sim hd)
  obtain ⟨de, fs, rfl, h3, h4⟩ := h2
  have T := (hs y y t ht).1
  exact ⟨x0, _, de, fs, _, rfl, h1, T, T.at_, h3, h4, P3 F1 _ H1 (Stp.refl s1.sim) (.int i)⟩
theorem ss_raise {j : Nat} {m : Str} {p2 : Pos} {bm : List Value} {nw ni : String} (hc : X.calm = true) (tk : Takes X G.W) (F0 : ExcBaseFacts "ValueError" nw ni bm) (q : PySem.W.excIn X.K (He.ga X.K c) bm nw = true) (T : ExcF X.K (He.ga X.K c)) (gC : X.mg c = some (.ref (He.ga X.K c))) (hg : Gl X c)
    (hdb : (c == ("__debug__" : Str)) = false) : PS X (.Raise (some (.Call (.Name c p) [.Constant (.str m) j p2] [] pos2)) none pos) (TS X.K G (.raise c)) := by
  refine imp_ps (ps_raise hc tk (pmk_own F0 q gC T.kp (raises_own T.sub T.ty) hg hdb)) fun E σ H h => ?_
  obtain ⟨F, env, S, P⟩ := h
  rw [evS] at P
  exact P σ F env _ none H (StpS.refl S) ⟨rfl, rfl⟩
theorem ss_tryO (hs : X.stack = X.env :: X.outer) (hf : X.env.frame = some X.env.locals) (hc : Names X x (.ref (He.ga X.K c))) (tk : Takes X G.W)
    (hsub : ∀ y t, G.cx.sub y c = some t → PySem.W.exmOne X.K (.ref (He.ga X.K y)) (.ref (He.ga X.K c)) = some t)
    (hb : ∀ (W : WX) (pn : List (Addr × Obj)) (xe : Value → Shared → Prop), Takes (X.tr pn xe) W → PassesOwn (model X.prog X.w) X.A X.env xe → PSs (X.tr pn xe) body (TS X.K (G.by W) ib))
    (hsu : ∀ (a : Addr) (pn : List (Addr × Obj)), PSs (X.suite a pn) (st0 :: rest) (TS X.K G.no ih)) :
    PS X (.Try body [.ExceptHandler (some (.Name x np)) none (st0 :: rest) pos2] [] [] pos) (TS X.K G (.try_ ib c none ih)) := by
  refine ⟨fun pins s σ H E J0 q => (ps_try_only (Wout := G.W) (ts := fun _ _ _ E σ H => σ.length = X.N.length → TS X.K G.no ih E σ H) hs hf hc tk hb (fun a oe cls d pn _ _ => ⟨fun pins s σ H E J q => (hsu a _).run pins s σ H E J (q J.len)⟩)).run pins s σ H E J0 ?_⟩
  obtain ⟨F, env, S, P⟩ := q
  refine ⟨F, env, S, ?_⟩
  show PostS X.K (G.by _) (fun j => ib.hits j) σ F H env E (evS G.cx ib env)
  rw [evS] at P
  have lb : ∀ j, (I.try_ ib c none ih).hits j = false → ib.hits j = false := fun j hj => or_l (or_l (show (ib.hits j || ih.hits j || false) = false from hj))
  have lh : ∀ j, (I.try_ ib c none ih).hits j = false → ih.hits j = false := fun j hj => or_r (or_l (show (ib.hits j || ih.hits j || false) = false from hj))
  cases eb : evS G.cx ib env with
  | stuck => rw [eb] at P; exact P.elim
  | ok r =>
    rw [eb] at P
    obtain ⟨fl, e1⟩ := r
    cases fl with
    | next => exact fun σ1 F1 H1 s1 => P σ1 F1 H1 (s1.weak lb)
    | ret v => exact fun σ1 F1 H1 w s1 q1 => P σ1 F1 H1 w (s1.weak lb) q1
  | exc y =>
    rw [eb] at P
    intro σ1 F1 e1 cc dd H1 s1 hx
    obtain ⟨t, ht, P⟩ := PostS.of P
    obtain ⟨hcc, hdd⟩ := hx
    subst hcc
    refine ⟨t, hsub _ _ ht, fun et a ha hl => ?_, fun et => ?_⟩
    · subst et
      have hl0 : σ.length = X.N.length := J0.len
      have s2 := s1.forget S (by rw [hl, hl0])
      refine ⟨F1, wipeH ib env, s2.sim, ?_⟩
      have P : PostS X.K G (fun j => (I.try_ ib c none ih).hits j) σ F H env E (noExc (evS G.cx ih (wipeH ib env))) := P
      show PostS X.K G.no (fun j => ih.hits j) _ F1 _ _ _ (evS G.cx ih (wipeH ib env))
      cases eh : evS G.cx ih (wipeH ib env) with
      | stuck => rw [eh] at P; exact P.elim
      | exc z => rw [eh] at P; exact P.elim
      | ok r =>
        rw [eh] at P
        obtain ⟨fl, e5⟩ := r
        have tot : ∀ {σ5 : L2.St} {F5 : Addr → Prop} {H5 : Hp}, StpS X.K G.H0 (fun j => ih.hits j) σ1 F1 H1 (wipeH ib env) σ5 F5 H5 e5 → StpS X.K G.H0 (fun j => (I.try_ ib c none ih).hits j) σ F H env σ5 F5 H5 e5 := fun s5 =>
          (s2.weak lb).trans (s5.weak lh) (fun _ z => z) fun _ z => z
        cases fl with
        | next => exact fun σ5 F5 H5 s5 => P _ F5 H5 (tot s5)
        | ret v => exact fun σ5 F5 H5 w s5 q5 => P _ F5 H5 w (tot s5) q5
    · subst et
      exact P σ1 F1 e1 _ dd H1 (s1.weak lb) ⟨rfl, hdd⟩
end
/-! ### d.get(k, x), d.setdefault(k, x) -/
section
variable {X : Cx}
theorem vals2' {x y : V} {us : List Value} (r : Vals [x, y] us) : ∃ u w, us = [u, w] ∧ RelV x u ∧ RelV y w := by
  cases r with
  | cons a t => cases t with
    | cons b t => cases t; exact ⟨_, _, rfl, a, b⟩
theorem mt_get2 (hu : X.A.units + 1 < cLine) : MtR X "dict.get" (rMe X.K .getOr) := by
  intro pins s σ H x xs v us Q J rx rs h
  obtain ⟨F, dx, ds, r, fo, hx, hds, e, q⟩ := h
  unfold opMe at e
  split at e <;> first | (cases e; done) | skip
  all_goals rename_i eq1
  all_goals first | (cases eq1; done) | skip
  rename_i d0 _ _ _ k z
  obtain ⟨y, y2, rfl, hy, hy2⟩ := RepVs.two hds
  cases e2 : d0.dget k with
  | none => rw [e2] at e; cases e
  | some o =>
    rw [e2] at e
    have e : (if z.solid = true then Out.ok (Res.val (o.getD z)) else .stuck) = .ok r := e
    split at e
    case isFalse => cases e
    rename_i hsol
    cases e
    obtain ⟨a, w, rfl, g, hs, hw⟩ := dget_rep hx hy e2
    cases rx
    obtain ⟨u, u2, rfl, ru, ru2⟩ := vals2' rs
    refine d_get2 hu J g ru ru2 fun w' s' J2 rw' => ⟨_, H, J2, rw', ?_⟩
    cases o with
    | none =>
      cases w with
      | some _ => cases hs
      | none =>
        refine q _ _ Go.refl ?_
        rcases hy2 with hy2 | ⟨b, c, rfl, ec, _⟩
        · exact hy2
        · subst ec
          cases c <;> cases hsol
    | some d' => obtain ⟨w2, rfl, hr⟩ := hw d' rfl; exact q _ _ Go.refl hr
theorem upd_id {H : Hp} {a : Addr} {o : HO} (h : H a = some o) : upd H a o = H := by
  funext b
  by_cases e : b = a
  · rw [e, upd_same, h]
  · rw [upd_ne e]
theorem zip_un {α β : Type} (l : List (α × β)) : (l.map (·.1)).zip (l.map (·.2)) = l := by
  induction l with
  | nil => rfl
  | cons a l ih => simp [ih]
theorem dput_new {κ : Type} [DecidableEq κ] {kvs : List (κ × D)} {k : κ} {v : D} (h : dlook kvs k = none) : dput kvs k v = kvs ++ [(k, v)] := by
  unfold dput
  rw [h]
  rfl
theorem mt_setd' : MtR X "dict.setdefault" (rMu X.K .setdefault) := by
  intro pins s σ H x xs v us Q J rx rs h
  obtain ⟨F, a, c, ds, d, c', rfl, hc, ok, hds, e, q⟩ := h
  unfold opMu at e
  split at e <;> first | (cases e; done) | skip
  all_goals rename_i eq1
  all_goals first | (cases eq1; done) | skip
  rename_i kvs kd vd
  cases ek : kd.key with
  | none => rw [ek] at e; cases e
  | some k =>
  rw [ek] at e
  have e : (match dlook kvs k with
    | some d => if kvs.length < 16777216 then Out.ok (d, Cell.dK kvs) else .stuck
    | none => if kvs.length < 16777216 then .ok (vd, .dK (kvs ++ [(k, vd)])) else .stuck) = .ok (d, c') := e
  obtain ⟨vs, ha, hk, hr⟩ := hc
  have hkl : vs.length = kvs.length := by
    have := congrArg List.length hk
    simpa using this
  have hz : kvs.zip [] = ([] : List ((Key × D) × Nat)) := by simp
  have hlk := dlook_val k hr
  have hzz : ((vs.map (·.1)).zip (kvs.map (·.2))) = kvs := by rw [hk, zip_un]
  rw [hzz] at hlk
  cases hds with
  | cons r1 t => cases t with
    | cons r2 t =>
      cases t
      rename_i y z
      obtain ⟨u1, u2, rfl, ru1, ru2⟩ := vals2' rs
      cases rx
      have hkv := key_rep (.inl r1) ek
      subst hkv
      have hlen : vs.length < sizeLine := by
        rw [sizeLine_16, hkl]
        cases hl : dlook kvs k with
        | none =>
          rw [hl] at e
          simp only at e
          split at e
          · assumption
          · cases e
        | some d2 =>
          rw [hl] at e
          simp only at e
          split at e
          · assumption
          · cases e
      refine d_setd J ha ru1 ru2 hlen (fun w hw w2 s2 J2 rw2 => ?_) fun hn w2 s2 J2 rw2 => ?_
      · cases hl : dlook kvs k with
        | none => rw [hl] at hlk; simp only at hlk; rw [hlk] at hw; cases hw
        | some d2 =>
          rw [hl] at hlk e
          obtain ⟨w3, h3, h4⟩ := hlk
          rw [h3] at hw
          cases hw
          simp only at e
          split at e
          case isFalse => cases e
          cases e
          have := q w (.dK vs) (by rw [upd_id ha]; exact ⟨vs, ha, hk, hr⟩) (by rw [upd_id ha]; exact h4)
          rw [upd_id ha] at this
          exact ⟨w, H, J2, rw2, this⟩
      · cases hl : dlook kvs k with
        | some d2 =>
          rw [hl] at hlk
          obtain ⟨w3, h3, h4⟩ := hlk
          rw [h3] at hn
          cases hn
        | none =>
          rw [hl] at e
          simp only at e
          split at e
          · cases e
            have pz := putK_rep (k := k) r2 hk hr
            rw [dput_new hl] at pz
            exact ⟨z, _, J2, rw2, q z _ ⟨_, upd_same, pz.1, pz.2.go upd_go ok⟩ (r2.go upd_go ok)⟩
          · cases e
end
/-! ### dict([(k, v), ..]), the keys tuples -/
section
variable {X : Cx}
/-- a pair in the heap: its key's tuple, its value -/
abbrev PrT (H : Hp) (p : Addr) (kv : List Key × V) : Prop := ∃ b, H p = some (.tup [.ref b, kv.2]) ∧ H b = some (.tup (kv.1.map kV))
theorem prsT_rep {K : PySem.W.Frag} {F : Addr → Prop} {H : Hp} : ∀ {xs : List V} {ds : List D} {kvs : List (List Key × D)}, RepL K F H xs ds → prsT ds = some kvs →
    ∃ (ps : List Addr) (ws : List (List Key × V)), xs = ps.map V.ref ∧ Paired (PrT H) ps ws ∧ ws.map (·.1) = kvs.map (·.1) ∧ RepL K F H (ws.map (·.2)) (kvs.map (·.2))
  | _, _, kvs, .nil, e => by cases e; exact ⟨[], [], rfl, .nil, rfl, .nil⟩
  | _, d :: ds, kvs, .cons r t, e => by
    unfold prsT at e
    split at e
    · rename_i eq; cases eq
    · rename_i kd vd rest eq
      cases eq
      obtain ⟨k, hk, e⟩ := Option.bind_eq_some_iff.mp e
      obtain ⟨r', h1, h2⟩ := Option.map_eq_some_iff.mp e
      subst h2
      obtain ⟨ps, ws, rfl, h3, h4, h5⟩ := prsT_rep t h1
      obtain ⟨a, ys, rfl, h6, h7⟩ := RepV.tup (.inl r)
      cases h7 with
      | cons rk t2 => cases t2 with
        | cons rv t3 =>
          cases t3
          obtain ⟨b, rfl, hb⟩ := keyT_tup rk hk
          exact ⟨a :: ps, (k, _) :: ws, rfl, .cons ⟨b, h6, hb⟩ h3, by simp [h4], .cons rv h5⟩
    · cases e
theorem merge_rep {K : PySem.W.Frag} {F : Addr → Prop} {H : Hp} {κ : Type} [DecidableEq κ] : ∀ {more : List (κ × V)} {moreD : List (κ × D)} {acc : List (κ × V)} {accD : List (κ × D)}, more.map (·.1) = moreD.map (·.1) → RepL K F H (more.map (·.2)) (moreD.map (·.2)) → acc.map (·.1) = accD.map (·.1) → RepL K F H (acc.map (·.2)) (accD.map (·.2)) →
    (more.foldl (fun m p => putK m p.1 p.2) acc).map (·.1) = (moreD.foldl (fun m p => dput m p.1 p.2) accD).map (·.1) ∧ RepL K F H ((more.foldl (fun m p => putK m p.1 p.2) acc).map (·.2)) ((moreD.foldl (fun m p => dput m p.1 p.2) accD).map (·.2))
  | [], [], acc, accD, _, _, h3, h4 => ⟨h3, h4⟩
  | [], _ :: _, _, _, h1, _, _, _ => by cases h1
  | _ :: _, [], _, _, h1, _, _, _ => by cases h1
  | p :: more, q :: moreD, acc, accD, h1, h2, h3, h4 => by
    obtain ⟨e1, e2⟩ := List.cons.inj (show p.1 :: more.map (·.1) = q.1 :: moreD.map (·.1) from h1)
    cases h2 with
    | cons r t =>
      have z := putK_rep (k := p.1) r h3 h4
      have w := merge_rep (more := more) (moreD := moreD) (acc := putK acc p.1 p.2) (accD := dput accD p.1 q.2) e2 t z.1 z.2
      simp only [List.foldl_cons]
      rw [← e1]
      exact w
theorem merge_len {κ : Type} [DecidableEq κ] : ∀ (more acc : List (κ × V)), (more.foldl (fun m p => putK m p.1 p.2) acc).length ≤ acc.length + more.length
  | [], acc => Nat.le_refl _
  | p :: more, acc => by
    have h1 := merge_len more (putK acc p.1 p.2)
    have h2 := length_putK acc p.1 p.2
    show (more.foldl _ (putK acc p.1 p.2)).length ≤ _
    rw [List.length_cons]; omega
theorem KT_merge {H : Hp} : ∀ (ws : List (List Key × V)) {ps : List (List Key × Addr × Value)} {acc : List (List Key × V)} {xs : List (List Key × Addr × Value)}, KT H ws ps → KT H acc xs → KT H (ws.foldl (fun m p => putK m p.1 p.2) acc) (storedAllH xs ps)
  | [], ps, _, _, h, r => by cases h; exact r
  | p :: ws, ps, acc, xs, h, r => by
    cases h with
    | @cons _ q _ qs h t =>
      obtain ⟨k, b, u⟩ := q
      obtain ⟨h1, h2, h3⟩ := h
      have h1 : p.1 = k := h1
      subst h1
      exact KT_merge ws (ps := qs) t (r.put p.1 h2 h3)
/-- the pairs as the heap has them -/
theorem prsT_heap {pins : List (Addr × Obj)} {σ : L2.St} {H : Hp} {s : Shared} (J : Inv X pins σ H s) : ∀ {ps : List Addr} {ws : List (List Key × V)}, Paired (PrT H) ps ws →
    ∃ (qs : List (List Key × Addr × Value)), KT H ws qs ∧ qs.length = ps.length ∧ ∀ (j : Nat) (q : List Key × Addr × Value), qs[j]? = some q → ∃ T, ps[j]? = some T ∧ s.heap.IsTuple T #[.ref q.2.1, q.2.2]
  | _, _, .nil => ⟨[], .nil, rfl, fun j q e => by simp at e⟩
  | _, _, .cons (a := p) (b := kv) h t => by
    obtain ⟨qs, r, hl, hp⟩ := prsT_heap J t
    obtain ⟨b, h1, h2⟩ := h
    obtain ⟨its, rv, ht, _⟩ := J.tuple (SqT.of h1)
    obtain ⟨u, y, rfl, ru, ry⟩ := vals2 rv
    cases ru
    refine ⟨(kv.1, b, y) :: qs, .cons ⟨rfl, h2, ry⟩ r, by simp [hl], fun j q e => ?_⟩
    cases j with
    | zero =>
      cases (Option.some.inj e : (kv.1, b, y) = q)
      exact ⟨p, rfl, ht⟩
    | succ j =>
      obtain ⟨T, e1, e2⟩ := hp j q (by simpa using e)
      exact ⟨T, by simpa using e1, e2⟩
theorem cr_dictT (hcalm : X.calm = true) (hu : X.A.units + 66 < cLine) : CallR X (.type "dict") (rDn X.K (opBi .dictT)) := by
  intro pins s σ H xs us Q J rs h
  obtain ⟨F, ds, r, fo, hx, e, q⟩ := h
  unfold opBi at e
  split at e <;> first | (cases e; done) | skip
  all_goals rename_i eq1
  all_goals first | (cases eq1; done) | skip
  obtain ⟨x, rfl, hx1⟩ := RepVs.one hx
  rename_i es
  cases e2 : prsT es with
  | none => rw [e2] at e; cases e
  | some kvs =>
  rw [e2] at e
  cases e
  obtain ⟨a, ys, rfl, h1, h2⟩ := RepV.lst hx1
  obtain ⟨ps, ws, rfl, h3, h4, h5⟩ := prsT_rep h2 e2
  obtain ⟨u, rfl, ru⟩ := vals1 rs
  cases ru
  obtain ⟨its, rv, pl, hz⟩ := J.list h1
  have ei := refs_at rv
  subst ei
  rw [List.length_map] at hz
  obtain ⟨qs, rel, hl, hq⟩ := prsT_heap J h3
  obtain ⟨o, n, ho, hc, hd, hdat⟩ := pl
  have hlw : ws.length = qs.length := Paired.length rel
  have Ts : ∀ j : Nat, ∀ q, qs[j]? = some q → ps.getD j 0 = ps.getD j 0 := fun _ _ _ => rfl
  have PA := PySem.PairArg.list (prog := X.prog) (w := X.w) a (ps.map Value.ref).toArray (fun j => ps.getD j 0) (qs.map fun q => (Value.ref q.2.1, q.2.2))
  have hqi : ∀ j k v, (qs.map fun q => (Value.ref q.2.1, q.2.2))[j]? = some (k, v) → ∃ q : List Key × Addr × Value, qs[j]? = some q ∧ k = Value.ref q.2.1 ∧ v = q.2.2 := fun j k v e => by
    rw [List.getElem?_map] at e
    obtain ⟨q, h1, h2⟩ := Option.map_eq_some_iff.mp e
    have h3 := (Prod.mk.injEq _ _ _ _).mp h2
    exact ⟨q, h1, h3.1.symm, h3.2.symm⟩
  refine PySem.call_dict_pairsH (knd := tupleKind (mixKind X.prog X.w)) (ps := qs) PA (J.ok.hd hcalm) (by show X.A.in1.in1.units < cLine; show X.A.units + 1 + 1 < cLine; omega) ⟨⟨o, n, ho, hc, hd, hdat⟩, ?_, fun j k v e => ?_⟩ ⟨by rw [List.length_map], fun j k v e => ?_⟩ (fun h' hk x hx => ?_) (by rw [List.length_map, hl]; exact hz) fun h' tk hd' hk => ?_
  · simp [hl]
  · obtain ⟨q', g1, rfl, rfl⟩ := hqi j k v e
    obtain ⟨T, g2, g3⟩ := hq j q' g1
    have e3 : ps.getD j 0 = T := by rw [List.getD_eq_getElem?_getD, g2]; rfl
    show (ps.map Value.ref).toArray[j]? = some (.ref (ps.getD j 0)) ∧ PairAt s.heap (ps.getD j 0) _ _
    rw [e3]
    exact ⟨by simp [g2], .inl g3⟩
  · obtain ⟨q', g1, rfl, rfl⟩ := hqi j k v e
    exact ⟨q'.1, q'.2.1, by rw [g1], rfl⟩
  · obtain ⟨b, hb⟩ : ∃ w, (w ∈ ws ∧ True) ∧ H x.2.1 = some (.tup (x.1.map kV)) := by
      have key : ∀ {ws : List (List Key × V)} {qs : List (List Key × Addr × Value)}, KT H ws qs → x ∈ qs → ∃ w, (w ∈ ws ∧ True) ∧ H x.2.1 = some (.tup (x.1.map kV)) := fun {ws qs} r => by
        induction r with
        | nil => exact fun z => nomatch z
        | @cons p q ps qs h _ ih =>
          intro hm
          rcases List.mem_cons.mp hm with rfl | hm
          · exact ⟨p, ⟨List.mem_cons_self, trivial⟩, by rw [← h.1]; exact h.2.1⟩
          · obtain ⟨w, g1, g2⟩ := ih hm
            exact ⟨w, ⟨List.mem_cons_of_mem _ g1.1, trivial⟩, g2⟩
      exact key rel hx
    have kk := key_of (P := X.prog) (w := X.w) J.hok hb.2
    obtain ⟨o2, its2, n2, g1, g2, g3, g4⟩ := kk
    exact ⟨o2, its2, n2, hk _ _ (Nat.ne_of_lt (Heap.lt_size g1)) (fun z => nomatch z) g1, g2, g3, g4⟩
  · have hm : (s.heap.objs.size == sysModules) = false := beq_eq_false_iff_ne.mpr (Nat.ne_of_gt J.big)
    have hlen : (ws.foldl (fun m p => putK m p.1 p.2) []).length ≤ sizeLine := by
      refine Nat.le_trans (merge_len ws []) ?_
      rw [List.length_nil, Nat.zero_add, hlw, hl]
      exact hz
    have hf := J.hok.fresh (Nat.le_refl s.heap.objs.size)
    obtain ⟨o2, es2, ep2, ho2, k2, k3, k4, _, k5⟩ := hd'
    have kt := KT_merge ws rel (.nil : KT H [] [])
    have new : ObjOk X.prog X.w (upd H s.heap.objs.size (.dT (ws.foldl (fun m p => putK m p.1 p.2) []))) h' s.heap.objs.size (.dT (ws.foldl (fun m p => putK m p.1 p.2) [])) :=
      ⟨hlen, hm, _, kt.keeps fun c ys ec => by rw [upd_ne (ne_of_none ec hf)]; exact ec, o2, es2, ep2, ho2, k2, k3, k4, k5⟩
    refine ⟨.ref s.heap.objs.size, _, J.laid (t' := tk) (fun b o e => hk b o (fun z => nomatch z) e) (Nat.le_refl _) new, rfl, ?_⟩
    have mr := merge_rep (K := X.K) (F := F) (H := H) h4 h5 (acc := []) (accD := []) rfl .nil
    refine q _ _ (Go.upd hf) ⟨s.heap.objs.size, rfl, ⟨_, upd_same, mr.1, ?_⟩, fun z => fo _ z hf, hf⟩
    exact mr.2.go (O := noO) (Go.upd hf) (fun _ z => z.elim)
end
end PyI

end
section
set_option autoImplicit false
/-! PyY: enumerate(zip(a, b)) of two lists. -/
namespace PyI
open PySem PySem.Spec PyProof.Rows L2 RZ RT
open PySem.Sem (wp)
/-- a zip, whatever it knows of the tuple that it gave out -/
abbrev IsZf (h : Heap) (q u v : Addr) (r : Value) (f : Bool) : Prop := h.get? q = some { cls := .type "zip", dict := none, data := .fields #[r, .bool f, .bool false, .ref u, .ref v], slots := #[] }
section
variable {w : World} {prog : Program} {s : Shared} {A : Around} {E : Value → Shared → Prop}
theorem alive_any {a : Addr} {Q : Option Obj → Shared → Prop} (h : Q (s.heap.get? a) s) : wpAny (model prog w) A (loadIfAlive a) Q E s := fun _ _ _ => h
variable {q u v m n c d : Addr} {i j : Nat} {xs ys : Array Value} {a0 b0 : Value}
theorem yz_item {x y r : Value} {f : Bool} {Q : Value → Shared → Prop} (ap : ZipApart q u v m n c d) (oz : IsZf s.heap q u v r f)
    (fr : ∀ Q : Bool → Shared → Prop, Q true s → wpAny (model prog w) A (Builtin.SmallTypes.ownedTupleIsFree (.ref q)) Q E s)
    (ou : IsPair s.heap u (.ref m) (.ref n)) (ov : IsPair s.heap v a0 b0)
    (im : KI false s.heap m c i) (jn : KI false s.heap n d j) (sc : KQ false s.heap c xs) (sd : KQ false s.heap d ys) (ex : xs[i]? = some x) (ey : ys[j]? = some y)
    (fin : ∀ h' f', IsZf h' q u v (rawInt s.heap.objs.size) f' → IsPair h' v x y → KI false h' m c (i + 1) → KI false h' n d (j + 1) → IsPair h' s.heap.objs.size x y → h'.objs.size = s.heap.objs.size + 1 →
      Kept4 q v m n s.heap h' → Q (.ref s.heap.objs.size) { s with heap := h' }) :
    wpAny (model prog w) A (Builtin.«zip.__next__» ⟨[.ref q], []⟩) (fun fn s' => ∃ r, fn = .done (.ret r) ∧ Q r s') E s := by
  show wpAny _ _ (field (.ref q) 2 >>= _) _ _ _
  refine wpAny_bind (wpAny_field oz rfl (x := .bool false) rfl ?_)
  show wpAny _ _ (field (.ref q) 3 >>= _) _ _ _
  refine wpAny_bind (wpAny_field oz rfl (x := .ref u) rfl ?_)
  refine wpAny_bind (wpAny_seqItems ou rfl ?_)
  show wpAny _ _ (Builtin.SmallTypes.ownedTupleIsFree (.ref q) >>= _) _ _ _
  refine wpAny_bind (fr _ ?_)
  simp only [if_true]
  refine wpAny_bind (wpAny_rule (wpAny_bind (wpAny_field oz rfl (x := .ref v) rfl ?_)))
  refine wpAny_bind (wpAny_setField_rec oz (by simp) fun g1 z1 k1 => ?_)
  replace z1 : IsZf g1 q u v r f ∨ ∃ r', IsZf g1 q u v r' f := .inr ⟨_, z1⟩
  obtain ⟨r1, z1⟩ : ∃ r', IsZf g1 q u v r' f := by rcases z1 with z | z; exact ⟨_, z⟩; exact z
  refine wpAny_bind ?_; simp only [List.forIn_cons, List.forIn_nil, List.zipIdx_cons, List.zipIdx_nil]
  refine wpAny_bind (wpAny_bind (wpAny_onRaise ?_)); show wpAny _ _ (Builtin.SmallTypes.nextOf (.ref m) >>= _) _ _ _
  refine wpAny_bind (kn_item (im.ext k1.extBut ap.i1z) (sc.ext k1.extBut ap.l1z) ex fun g2 im2 k2 => wpAny_pure ?_)
  have ov2 : IsPair g2 v a0 b0 := k2.extBut _ _ ap.TOi1 (k1.extBut _ _ ap.TOz ov)
  refine wpAny_bind (wpAny_seqItems ov2 rfl ?_)
  refine wpAny_bind (wpAny_updateSeq_pair ov2 fun g3 ov3 k3 => ?_)
  replace ov3 : IsPair g3 v x b0 := ov3
  refine wpAny_bind (wpAny_letGo (wpAny_pure (wpAny_bind (wpAny_bind (wpAny_onRaise ?_))))); show wpAny _ _ (Builtin.SmallTypes.nextOf (.ref n) >>= _) _ _ _
  have jn3 := ((jn.ext k1.extBut ap.i2z).ext k2.extBut ap.i12.symm).ext k3.extBut ap.TOi2.symm
  have sd3 := ((sd.ext k1.extBut ap.l2z).ext k2.extBut ap.l2i1).ext k3.extBut ap.l2TO
  refine wpAny_bind (kn_item jn3 sd3 ey fun g4 jn4 k4 => wpAny_pure ?_)
  have ov4 : IsPair g4 v x b0 := k4.extBut _ _ ap.TOi2 ov3
  refine wpAny_bind (wpAny_seqItems ov4 rfl ?_)
  refine wpAny_bind (wpAny_updateSeq_pair ov4 fun g5 ov5 k5 => ?_)
  replace ov5 : IsPair g5 v x y := ov5
  refine wpAny_bind (wpAny_letGo (wpAny_pure (wpAny_pure (wpAny_bind (wpAny_seqItems ov5 rfl (wpAny_bind (wpAny_newTuple ?_)))))))
  have size5 : g5.objs.size = s.heap.objs.size := by rw [k5.1, k4.1, k3.1, k2.1, k1.1]
  have z5 : IsZf g5 q u v r1 f := k5.extBut _ _ ap.TOz.symm (k4.extBut _ _ ap.i2z.symm (k3.extBut _ _ ap.TOz.symm (k2.extBut _ _ ap.i1z.symm z1)))
  have kept : Kept4 q v m n s.heap g5 := fun g o n1 n2 n3 n4 e => k5.extBut _ _ n2 (k4.extBut _ _ n4 (k3.extBut _ _ n2 (k2.extBut _ _ n3 (k1.extBut _ _ n1 e))))
  have im5 := ((im2.ext k3.extBut ap.TOi1.symm).ext k4.extBut ap.i12).ext k5.extBut ap.TOi1.symm
  have jn5 := jn4.ext k5.extBut ap.TOi2.symm
  have below : q < g5.objs.size := Heap.lt_size z5
  show wpAny _ _ (Builtin.SmallTypes.ownedTupleHandOut (.ref q) (.ref g5.objs.size) >>= _) _ _ _
  refine wpAny_bind ?_; unfold Builtin.SmallTypes.ownedTupleHandOut
  have z6 : IsZf (g5.push { cls := .type "tuple", data := .seq #[x, y] }) q u v r1 f := Heap.get?_push_of_some _ z5
  refine wpAny_bind (wpAny_setField_rec z6 (by simp) fun g7 z7 k7 => ?_)
  replace z7 : IsZf g7 q u v (rawInt g5.objs.size) f := z7
  refine wpAny_setField_rec z7 (by simp) fun g8 z8 k8 => ?_
  replace z8 : IsZf g8 q u v (rawInt g5.objs.size) false := z8
  have up : ∀ g o, g ≠ q → g5.get? g = some o → g8.get? g = some o := fun g o n1 e => k8.extBut _ _ n1 (k7.extBut _ _ n1 (Heap.get?_push_of_some _ e))
  have pair8 : IsPair g8 g5.objs.size x y := k8.extBut _ _ (Nat.ne_of_gt below) (k7.extBut _ _ (Nat.ne_of_gt below) (Heap.get?_push_size _ rfl))
  have size8 : g8.objs.size = g5.objs.size + 1 := by rw [k8.1, k7.1, Heap.size_push]
  rw [size5] at z8 pair8 size8
  refine wpAny_pure ⟨_, rfl, ?_⟩; show Q (.ref g5.objs.size) _
  rw [size5]
  exact fin g8 false z8 (up _ _ ap.TOz ov5) (im5.at' fun o e => up _ o ap.i1z e) (jn5.at' fun o e => up _ o ap.i2z e) pair8 size8 fun g o n1 n2 n3 n4 e => up g o n1 (kept g o n1 n2 n3 n4 e)
theorem yz_end {r : Value} {f : Bool} {Q : Fin → Shared → Prop} (hn : A.handled = none) (ap : ZipApart q u v m n c d) (oz : IsZf s.heap q u v r f)
    (fr : ∀ Q : Bool → Shared → Prop, Q true s → wpAny (model prog w) A (Builtin.SmallTypes.ownedTupleIsFree (.ref q)) Q E s)
    (ou : IsPair s.heap u (.ref m) (.ref n)) (ov : IsPair s.heap v a0 b0)
    (im : KI false s.heap m c i) (jn : KI false s.heap n d j) (sc : KQ false s.heap c xs) (sd : KQ false s.heap d ys) (stop : xs[i]? = none ∨ ys[j]? = none)
    (fin : ∀ h' e, Kept4 q v m n s.heap h' → (∃ o, h'.get? e = some o ∧ o.cls = .type "StopIteration") → E (.ref e) { s with heap := h' }) :
    wpAny (model prog w) A (Builtin.«zip.__next__» ⟨[.ref q], []⟩) Q E s := by
  show wpAny _ _ (field (.ref q) 2 >>= _) _ _ _
  refine wpAny_bind (wpAny_field oz rfl (x := .bool false) rfl ?_)
  show wpAny _ _ (field (.ref q) 3 >>= _) _ _ _
  refine wpAny_bind (wpAny_field oz rfl (x := .ref u) rfl ?_)
  refine wpAny_bind (wpAny_seqItems ou rfl ?_)
  show wpAny _ _ (Builtin.SmallTypes.ownedTupleIsFree (.ref q) >>= _) _ _ _
  refine wpAny_bind (fr _ ?_)
  simp only [if_true]
  refine wpAny_bind (wpAny_rule (wpAny_bind (wpAny_field oz rfl (x := .ref v) rfl ?_)))
  refine wpAny_bind (wpAny_setField_rec oz (by simp) fun g1 z1 k1 => ?_)
  obtain ⟨r1, z1⟩ : ∃ r', IsZf g1 q u v r' f := ⟨_, z1⟩
  refine wpAny_bind ?_; simp only [List.forIn_cons, List.forIn_nil, List.zipIdx_cons, List.zipIdx_nil]
  refine wpAny_bind (wpAny_bind (wpAny_onRaise ?_)); show wpAny _ _ (Builtin.SmallTypes.nextOf (.ref m) >>= _) _ _ _
  have apart : ∀ {g : Heap} {e : Addr} {oe : Obj}, IsZf g q u v r1 f → g.get? e = some oe → oe.cls = .type "StopIteration" → e ≠ q := fun zg he ce z => by
    subst z; rw [zg] at he; cases he; simp at ce
  cases ex : xs[i]? with
  | none =>
    refine wpAny_bind (kn_end hn (im.ext k1.extBut ap.i1z) (sc.ext k1.extBut ap.l1z) ex fun g2 e k2 he => ?_)
    obtain ⟨oe, he, ce⟩ := he
    have z2 : IsZf g2 q u v r1 f := k2 _ _ ap.i1z.symm z1
    refine wpAny_setField_rec z2 (by simp) fun g3 _ k3 => fin g3 e (fun g o n1 _ n3 _ x => k3.extBut _ _ n1 (k2 _ _ n3 (k1.extBut _ _ n1 x))) ⟨oe, k3.extBut _ _ (apart z2 he ce) he, ce⟩
  | some x =>
    have ey : ys[j]? = none := by rcases stop with z | z; rw [ex] at z; cases z; exact z
    refine wpAny_bind (kn_item (im.ext k1.extBut ap.i1z) (sc.ext k1.extBut ap.l1z) ex fun g2 im2 k2 => wpAny_pure ?_)
    have ov2 : IsPair g2 v a0 b0 := k2.extBut _ _ ap.TOi1 (k1.extBut _ _ ap.TOz ov)
    refine wpAny_bind (wpAny_seqItems ov2 rfl ?_)
    refine wpAny_bind (wpAny_updateSeq_pair ov2 fun g3 ov3 k3 => ?_)
    refine wpAny_bind (wpAny_letGo (wpAny_pure (wpAny_bind (wpAny_bind (wpAny_onRaise ?_))))); show wpAny _ _ (Builtin.SmallTypes.nextOf (.ref n) >>= _) _ _ _
    have jn3 := ((jn.ext k1.extBut ap.i2z).ext k2.extBut ap.i12.symm).ext k3.extBut ap.TOi2.symm
    have sd3 := ((sd.ext k1.extBut ap.l2z).ext k2.extBut ap.l2i1).ext k3.extBut ap.l2TO
    refine wpAny_bind (kn_end hn jn3 sd3 ey fun g4 e k4 he => ?_)
    obtain ⟨oe, he, ce⟩ := he
    have z4 : IsZf g4 q u v r1 f := k4 _ _ ap.i2z.symm (k3.extBut _ _ ap.TOz.symm (k2.extBut _ _ ap.i1z.symm z1))
    refine wpAny_setField_rec z4 (by simp) fun g5 _ k5 => fin g5 e (fun g o n1 n2 n3 n4 x => k5.extBut _ _ n1 (k4 _ _ n4 (k3.extBut _ _ n2 (k2.extBut _ _ n3 (k1.extBut _ _ n1 x))))) ⟨oe, k5.extBut _ _ (apart z4 he ce) he, ce⟩
theorem free_none {f : Bool} (oz : IsZf s.heap q u v .none f) (Q : Bool → Shared → Prop) (h : Q true s) : wpAny (model prog w) A (Builtin.SmallTypes.ownedTupleIsFree (.ref q)) Q E s := by
  unfold Builtin.SmallTypes.ownedTupleIsFree
  exact wpAny_bind (wpAny_field oz rfl (x := .none) rfl (wpAny_pure h))
theorem free_dead {f : Bool} {T : Addr} (oz : IsZf s.heap q u v (rawInt T) f) (hT : s.heap.get? T = none) (Q : Bool → Shared → Prop) (h : Q true s) : wpAny (model prog w) A (Builtin.SmallTypes.ownedTupleIsFree (.ref q)) Q E s := by
  unfold Builtin.SmallTypes.ownedTupleIsFree
  refine wpAny_bind (wpAny_field oz rfl (x := rawInt T) rfl ?_)
  show wpAny _ _ (loadIfAlive ((T : Int).toNat) >>= _) _ _ _
  rw [Int.toNat_natCast]
  refine wpAny_bind (alive_any ?_)
  rw [hT]
  exact wpAny_pure h
/-- the zip's state: nothing given out as yet, or the tuple at T -/
def ZSt (h : Heap) (q u v : Addr) : Prop := ∃ r f, IsZf h q u v r f ∧ (r = .none ∨ ∃ T : Addr, r = rawInt T)
theorem ZSt.at' {h h' : Heap} (z : ZSt h q u v) (k : ∀ o, h.get? q = some o → h'.get? q = some o) : ZSt h' q u v := by
  obtain ⟨r, f, a, b⟩ := z
  exact ⟨r, f, k _ a, b⟩
theorem yn_item {x y : Value} {Q : Value → Shared → Prop} (ap : ZipApart q u v m n c d) (oz : ZSt s.heap q u v) (ou : IsPair s.heap u (.ref m) (.ref n)) (ov : ∃ a0 b0, IsPair s.heap v a0 b0)
    (im : KI false s.heap m c i) (jn : KI false s.heap n d j) (sc : KQ false s.heap c xs) (sd : KQ false s.heap d ys) (ex : xs[i]? = some x) (ey : ys[j]? = some y)
    (fin : ∀ h', ZSt h' q u v → (∃ a0 b0, IsPair h' v a0 b0) → KI false h' m c (i + 1) → KI false h' n d (j + 1) → IsPair h' s.heap.objs.size x y → h'.objs.size = s.heap.objs.size + 1 →
      Kept4 q v m n s.heap h' → Q (.ref s.heap.objs.size) { s with heap := h' }) :
    wpAny (model prog w) A (Builtin.SmallTypes.nextOf (.ref q)) Q E s := by
  obtain ⟨r, f, oz, hr⟩ := oz
  obtain ⟨a0, b0, ov⟩ := ov
  have ty : s.TypeIs (.ref q) "zip" := ⟨_, oz, rfl⟩
  have key : wpAny (model prog w) A.in1 (Builtin.«zip.__next__» ⟨[.ref q], []⟩) (fun fn s' => ∃ r, fn = .done (.ret r) ∧ Q r s') E s := by
    have go := fun (fr : ∀ Q : Bool → Shared → Prop, Q true s → wpAny (model prog w) A.in1 (Builtin.SmallTypes.ownedTupleIsFree (.ref q)) Q E s) => yz_item (E := E) ap oz fr ou ov im jn sc sd ex ey fun h' f' z' v' m' n' p' sz k => fin h' ⟨_, f', z', .inr ⟨_, rfl⟩⟩ ⟨_, _, v'⟩ m' n' p' sz k
    rcases hr with rfl | ⟨T, rfl⟩
    · exact go (free_none oz)
    · cases hT : s.heap.get? T with
      | none => exact go (free_dead oz hT)
      | some oT =>
        exact PySem.zip_next_item_held ap oz hT ou im jn sc sd ex ey fun h' z' m' n' p' sz k => fin h' ⟨_, true, z', .inr ⟨_, rfl⟩⟩ ⟨_, _, k _ _ ap.TOz ap.TOi1 ap.TOi2 ov⟩ m' n' p' sz fun g o n1 _ n3 n4 e => k g o n1 n3 n4 e
  unfold Builtin.SmallTypes.nextOf
  refine wpAny_bind (wpAny_callSpecial?_slot (name := Str.ofString "__next__") ty F.slot_zip_next (wpAny_call_entry F.slot_zip_next ty F.entry_zip_next (wpAny_mono key (fun fn s' h => ?_) fun _ _ e => e) (F.args_zip_next_1 _)))
  obtain ⟨r, e, h⟩ := h
  exact ⟨r, e, wpAny_pure h⟩
theorem yn_end {Q : Value → Shared → Prop} (hn : A.handled = none) (ap : ZipApart q u v m n c d) (oz : ZSt s.heap q u v) (ou : IsPair s.heap u (.ref m) (.ref n)) (ov : ∃ a0 b0, IsPair s.heap v a0 b0)
    (im : KI false s.heap m c i) (jn : KI false s.heap n d j) (sc : KQ false s.heap c xs) (sd : KQ false s.heap d ys) (stop : xs[i]? = none ∨ ys[j]? = none)
    (fin : ∀ h' e, Kept4 q v m n s.heap h' → (∃ o, h'.get? e = some o ∧ o.cls = .type "StopIteration") → E (.ref e) { s with heap := h' }) :
    wpAny (model prog w) A (Builtin.SmallTypes.nextOf (.ref q)) Q E s := by
  obtain ⟨r, f, oz, hr⟩ := oz
  obtain ⟨a0, b0, ov⟩ := ov
  have ty : s.TypeIs (.ref q) "zip" := ⟨_, oz, rfl⟩
  unfold Builtin.SmallTypes.nextOf
  refine wpAny_bind (wpAny_callSpecial?_slot (name := Str.ofString "__next__") ty F.slot_zip_next (wpAny_call_entry F.slot_zip_next ty F.entry_zip_next ?_ (F.args_zip_next_1 _)))
  rcases hr with rfl | ⟨T, rfl⟩
  · exact yz_end hn ap oz (free_none oz) ou ov im jn sc sd stop fin
  · cases hT : s.heap.get? T with
    | none => exact yz_end hn ap oz (free_dead oz hT) ou ov im jn sc sd stop fin
    | some oT => exact PySem.zip_next_end_held hn ap oz hT ou im jn sc sd stop fun h' e k he => fin h' e (fun g o n1 _ n3 n4 e => k g o n1 n3 n4 e) he
/-- enumerate's turn, whatever it walks -/
theorem en_item {e it : Addr} {old : Value} {i : Nat} {In : Value → Heap → Prop} {Q : Value → Shared → Prop} (he : IsEnum s.heap e it i old)
    (inn : ∀ Q : Value → Shared → Prop, (∀ x h₁, In x h₁ → Q x { s with heap := h₁ }) → wpAny (model prog w) A (Builtin.SmallTypes.nextOf (.ref it)) Q E s)
    (ine : ∀ x h₁, In x h₁ → IsEnum h₁ e it i old)
    (hQ : ∀ x h₁ h', In x h₁ → IsEnumOut h' e it ((i : Int) + 1) x h₁.objs.size → h'.get? h₁.objs.size = some { cls := .type "tuple", data := .seq #[.int i s.toks, x] } → h'.objs.size = h₁.objs.size + 1 →
      (∀ b o, b ≠ e → h₁.get? b = some o → h'.get? b = some o) → Q (.ref h₁.objs.size) { s with heap := h', toks := s.toks + 1 }) :
    wpAny (model prog w) A (Builtin.«enumerate.__next__» ⟨[.ref e], []⟩) (fun fin s' => ∃ v, fin = .done (.ret v) ∧ Q v s') E s := by
  obtain ⟨hp, g, d, tk, os⟩ := s
  show wpAny _ _ (field (.ref e) 2 >>= _) _ _ _
  refine wpAny_bind (wpAny_field he rfl (x := .ref it) rfl ?_)
  refine wpAny_bind (inn _ fun x h₁ hin => ?_)
  have he₁ : IsEnum h₁ e it i old := ine x h₁ hin
  show wpAny _ _ (field (.ref e) 3 >>= _) _ _ ⟨h₁, g, d, tk, os⟩
  refine wpAny_bind (wpAny_field he₁ rfl (x := rawInt i) rfl ?_)
  show wpAny _ _ (field (.ref e) 4 >>= _) _ _ ⟨h₁, g, d, tk, os⟩
  refine wpAny_bind (wpAny_field he₁ rfl (x := .none) rfl ?_)
  show wpAny _ _ (mkInt i >>= _) _ _ ⟨h₁, g, d, tk, os⟩
  refine wpAny_bind (wpAny_mkInt ?_)
  show wpAny _ _ (setField (.ref e) 3 (rawInt ((i : Int) + 1)) >>= _) _ _ ⟨h₁, g, d, tk + 1, os⟩
  refine wpAny_bind (wpAny_setField_rec he₁ (by simp) fun h₂ he₂ hs₂ => ?_)
  replace hs₂ : Heap.SameBut e h₁ h₂ := hs₂
  replace he₂ : IsEnum h₂ e it ((i : Int) + 1) old := he₂
  show wpAny _ _ (setField (.ref e) 4 .none >>= _) _ _ ⟨h₂, g, d, tk + 1, os⟩
  refine wpAny_bind (wpAny_setField_rec he₂ (by simp) fun h₃ he₃ hs₃ => ?_)
  replace hs₃ : Heap.SameBut e h₂ h₃ := hs₃
  replace he₃ : IsEnum h₃ e it ((i : Int) + 1) old := he₃
  show wpAny _ _ (newTuple [.int i tk, x] >>= _) _ _ ⟨h₃, g, d, tk + 1, os⟩
  refine wpAny_bind (wpAny_newTuple ?_)
  have he₄ : IsEnum (h₃.push { cls := .type "tuple", data := .seq #[.int i tk, x] }) e it ((i : Int) + 1) old := Heap.get?_push_of_some _ he₃
  generalize hh₄ : h₃.push { cls := .type "tuple", data := .seq #[.int i tk, x] } = h₄ at he₄
  have hsz : h₃.objs.size = h₁.objs.size := by rw [hs₃.1, hs₂.1]
  have hel : e < h₁.objs.size := Heap.lt_size he₁
  have ht₄ : h₄.get? h₁.objs.size = some { cls := .type "tuple", data := .seq #[.int i tk, x] } := by rw [← hh₄, ← hsz]; exact Heap.get?_push_size _ rfl
  have hz₄ : h₄.objs.size = h₁.objs.size + 1 := by rw [← hh₄, Heap.size_push, hsz]
  have hk₄ : ∀ b o, b ≠ e → h₁.get? b = some o → h₄.get? b = some o := fun b o hbe hb => by
    rw [← hh₄]; exact Heap.get?_push_of_some _ (hs₃.extBut b o hbe (hs₂.extBut b o hbe hb))
  show wpAny _ _ (Builtin.SmallTypes.ownedTupleIsFree (.ref e) >>= _) _ _ ⟨h₄, g, d, tk + 1, os⟩
  rw [hsz]
  clear hh₄ he₃ hs₃ he₂ hs₂ hsz h₃ h₂
  refine wpAny_bind ?_
  · unfold Builtin.SmallTypes.ownedTupleIsFree
    refine wpAny_bind (wpAny_field he₄ rfl (x := .none) rfl (wpAny_pure ?_))
    simp only [if_true]
    refine wpAny_bind (wpAny_rule ?_)
    refine wpAny_bind (wpAny_field he₄ rfl (x := old) rfl ?_)
    refine wpAny_bind (wpAny_setField_rec he₄ (by simp) fun h₅ he₅ hs₅ => ?_)
    replace hs₅ : Heap.SameBut e h₄ h₅ := hs₅
    replace he₅ : IsEnum h₅ e it ((i : Int) + 1) x := he₅
    show wpAny _ _ (Builtin.SmallTypes.ownedTupleHandOut (.ref e) (.ref h₁.objs.size) >>= _) _ _ ⟨h₅, g, d, tk + 1, os⟩
    refine wpAny_bind ?_
    · unfold Builtin.SmallTypes.ownedTupleHandOut
      refine wpAny_bind (wpAny_setField_rec he₅ (by simp) fun h₆ he₆ hs₆ => ?_)
      replace hs₆ : Heap.SameBut e h₅ h₆ := hs₆
      replace he₆ : IsEnumOut h₆ e it ((i : Int) + 1) x h₁.objs.size := he₆
      refine wpAny_setField_rec he₆ (by simp) fun h₇ he₇ hs₇ => ?_
      replace hs₇ : Heap.SameBut e h₆ h₇ := hs₇
      replace he₇ : IsEnumOut h₇ e it ((i : Int) + 1) x h₁.objs.size := he₇
      refine wpAny_bind (wpAny_letGo (wpAny_pure ⟨_, rfl, hQ x h₁ h₇ hin he₇ ?_ ?_ ?_⟩))
      · exact hs₇.extBut _ _ (Nat.ne_of_gt hel) (hs₆.extBut _ _ (Nat.ne_of_gt hel) (hs₅.extBut _ _ (Nat.ne_of_gt hel) ht₄))
      · rw [hs₇.1, hs₆.1, hs₅.1, hz₄]
      · exact fun b o hbe hb => hs₇.extBut b o hbe (hs₆.extBut b o hbe (hs₅.extBut b o hbe (hk₄ b o hbe hb)))
end
/-! at the level of the walk -/
def Itez (K : PySem.W.Frag) (a b : Addr) : It :=
  ⟨fun i H => ∃ (xs ys : List V) (x y : V), SqL K H a xs ∧ SqL K H b ys ∧ xs[i]? = some x ∧ ys[i]? = some y,
    fun i H v H' => ∃ T U x y, v = .ref U ∧ H T = none ∧ (upd H T (.tup [x, y])) U = none ∧ H' = upd (upd H T (.tup [x, y])) U (.tup [.int (i : Nat), .ref T]) ∧ (∀ xs, SqL K H a xs → xs[i]? = some x) ∧ ∀ ys, SqL K H b ys → ys[i]? = some y,
    fun i H => ∃ xs ys : List V, SqL K H a xs ∧ SqL K H b ys ∧ (xs.length ≤ i ∨ ys.length ≤ i)⟩
theorem six {p : Addr → Prop} {e q u v m n : Addr} (h0 : p e) (h1 : p q) (h2 : p u) (h3 : p v) (h4 : p m) (h5 : p n) : ∀ g ∈ [e, q, u, v, m, n], p g := fun g hg => by
  have : g = e ∨ g = q ∨ g = u ∨ g = v ∨ g = m ∨ g = n := by simpa using hg
  rcases this with rfl | rfl | rfl | rfl | rfl | rfl <;> assumption
/-- the enumerate stands apart -/
structure Ap6 (e q u v m n : Addr) : Prop where
  q : e ≠ q
  u : e ≠ u
  v : e ≠ v
  m : e ≠ m
  n : e ≠ n
theorem ez_turn {P : Program} {w : World} {K : PySem.W.Frag} {elts : List Expr} {kk : Nat} {tpos : Pos} {a b e q u v m n : Addr} (ap : ZipApart q u v m n a b) (a6 : Ap6 e q u v m n) :
    Turn P w K (.Tuple elts kk tpos) (Itez K a b) [e, q, u, v, m, n] e (fun i h => (∃ old, IsEnum h e q ((i : Nat) : Int) old) ∧ ZSt h q u v ∧ IsPair h u (.ref m) (.ref n) ∧ (∃ x y, IsPair h v x y) ∧ KI false h m a i ∧ KI false h n b i) where
  mem := by simp
  obj := fun i h st => by
    obtain ⟨⟨old, he⟩, ⟨r, f, oz, _⟩, ou, ⟨x, y, ov⟩, im, jn⟩ := st
    exact six ⟨_, he, fun _ z => nomatch z⟩ ⟨_, oz, fun _ z => nomatch z⟩ ⟨_, ou, fun _ z => nomatch z⟩ ⟨_, ov, fun _ z => nomatch z⟩ im.obj jn.obj
  keep := fun i h h' st k => by
    obtain ⟨⟨old, he⟩, oz, ou, ⟨x, y, ov⟩, im, jn⟩ := st
    exact ⟨⟨old, k e (by simp) _ he⟩, oz.at' fun o z => k q (by simp) o z, k u (by simp) _ ou, ⟨x, y, k v (by simp) _ ov⟩, im.at' fun o z => k m (by simp) o z, jn.at' fun o z => k n (by simp) o z⟩
  item := by
    intro X hP hw hK hc i pins s σ H E I hf st hg; subst hP hw hK
    obtain ⟨⟨old, he⟩, oz, ou, ov, im, jn⟩ := st
    obtain ⟨xs, ys, x, y, qx, qy, hx, hy⟩ := hg
    obtain ⟨its, rv, p, _⟩ := I.list qx
    obtain ⟨its2, rv2, p2, _⟩ := I.list qy
    obtain ⟨r, hr, rr⟩ := rv.get hx
    obtain ⟨r2, hr2, rr2⟩ := rv2.get hy
    have hel : e < s.heap.objs.size := Heap.lt_size he
    have hT : s.TypeIs (.ref e) "enumerate" := ⟨_, he, rfl⟩
    have hlt : ∀ c ∈ [e, q, u, v, m, n], c < s.heap.objs.size := by
      obtain ⟨_, _, oz', _⟩ := oz
      obtain ⟨_, _, ov'⟩ := ov
      exact six hel (Heap.lt_size oz') (Heap.lt_size ou) (Heap.lt_size ov') im.lt jn.lt
    unfold pyNext
    refine wpAny_bind (wpAny_attempt (wpAny_callSpecial?_slot (name := Str.ofString "__next__") hT F.slot_enumerate_next
      (wpAny_call_entry F.slot_enumerate_next hT F.entry_enumerate_next
        (en_item (In := fun z h₁ => z = .ref s.heap.objs.size ∧ ZSt h₁ q u v ∧ (∃ a0 b0, IsPair h₁ v a0 b0) ∧ KI false h₁ m a (i + 1) ∧ KI false h₁ n b (i + 1) ∧ IsPair h₁ s.heap.objs.size r r2 ∧ h₁.objs.size = s.heap.objs.size + 1 ∧ Kept4 q v m n s.heap h₁) he
          (fun Q hQ => yn_item ap oz ou ov im jn p.isList p2.isList (by simpa using hr) (by simpa using hr2) fun h' z1 z2 z3 z4 z5 z6 z7 => hQ _ h' ⟨rfl, z1, z2, z3, z4, z5, z6, z7⟩)
          (fun z h₁ hz => hz.2.2.2.2.2.2.2 _ _ a6.q a6.v a6.m a6.n he) fun z h₁ h' hin ho hTu hsz hk => wpAny_pure ?_) (F.args_enumerate_next_1 _))))
    obtain ⟨rfl, z1, z2, z3, z4, z5, z6, z7⟩ := hin
    refine ⟨_, rfl, wpAny_letOwnedTupleGo_enum (s := { s with heap := h', toks := s.toks + 1 }) ho fun h'' he' sb => ?_⟩
    have hU : h₁.objs.size = s.heap.objs.size + 1 := z6
    have ch1 : ∀ c, c ∉ [e, q, u, v, m, n] → c ≠ e ∧ c ≠ q ∧ c ≠ u ∧ c ≠ v ∧ c ≠ m ∧ c ≠ n := fun c hc => by simpa using hc
    have new1 : ObjOk X.prog X.w (upd H s.heap.objs.size (.tup [x, y])) h₁ s.heap.objs.size (.tup [x, y]) := ⟨by show 2 ≤ sizeLine; decide, [r, r2], .cons rr (.cons rr2 .nil), ⟨_, z5, rfl, _, rfl⟩⟩
    have I1 : L2.Inv X pins σ (upd H s.heap.objs.size (.tup [x, y])) { s with heap := h₁ } :=
      I.turnedNew (t' := s.toks) (ch := [e, q, u, v, m, n]) (fun c o hb ee => by
        obtain ⟨k0, k1, k2, k3, k4, k5⟩ := ch1 c hb
        exact z7 c o k1 k3 k4 k5 ee) hf (Nat.le_refl _) new1
    have hf1 : ∀ c ∈ [e, q, u, v, m, n], FpOk X pins (upd H s.heap.objs.size (.tup [x, y])) c := fun c hc => by
      obtain ⟨f0, f1⟩ := hf c hc
      exact ⟨by rw [upd_ne (Nat.ne_of_lt (hlt c hc))]; exact f0, f1⟩
    have up2 : ∀ c o, c ≠ e → h₁.get? c = some o → h''.get? c = some o := fun c o hc ee => (sb.2 c hc).trans (hk c o hc ee)
    have nee : ∀ {c : Addr}, s.heap.objs.size ≤ c → c ≠ e := fun {c} h => Nat.ne_of_gt (Nat.lt_of_lt_of_le hel h)
    have tup2 : h''.get? h₁.objs.size = some { cls := .type "tuple", data := .seq #[.int i s.toks, .ref s.heap.objs.size] } := (sb.2 _ (nee (by rw [hU]; exact Nat.le_succ _))).trans hTu
    have new2 : ObjOk X.prog X.w (upd (upd H s.heap.objs.size (.tup [x, y])) h₁.objs.size (.tup [.int (i : Nat), .ref s.heap.objs.size])) h'' h₁.objs.size (.tup [.int (i : Nat), .ref s.heap.objs.size]) :=
      ⟨by show 2 ≤ sizeLine; decide, [.int i s.toks, .ref s.heap.objs.size], .cons ⟨_, rfl⟩ (.cons rfl .nil), ⟨_, tup2, rfl, _, rfl⟩⟩
    have I2 : L2.Inv X pins σ (upd (upd H s.heap.objs.size (.tup [x, y])) h₁.objs.size (.tup [.int (i : Nat), .ref s.heap.objs.size])) { s with heap := h'', toks := s.toks + 1 } :=
      I1.turnedNew (t' := s.toks + 1) (ch := [e, q, u, v, m, n]) (fun c o hb ee => up2 c o (ch1 c hb).1 ee) hf1 (Nat.le_refl _) new2
    refine ⟨.ref h₁.objs.size, _, I2, rfl, ⟨_, _, x, y, rfl, I.hok.fresh (Nat.le_refl _), I1.hok.fresh (Nat.le_refl _), rfl, fun l hl => by rw [I.list_inj hl qx]; exact hx, fun l hl => by rw [I.list_inj hl qy]; exact hy⟩, ⟨⟨.ref s.heap.objs.size, ?_⟩, ?_, ?_, ?_, ?_, ?_⟩, fun c hcm => ?_⟩
    · have e1 : ((i + 1 : Nat) : Int) = (i : Int) + 1 := by omega
      rw [e1]; exact he'
    · exact z1.at' fun o z => up2 _ o (Ne.symm a6.q) z
    · exact up2 _ _ (Ne.symm a6.u) (z7 _ _ ap.TIz ap.TITO ap.TIi1 ap.TIi2 ou)
    · obtain ⟨a0, b0, z2⟩ := z2
      exact ⟨a0, b0, up2 _ _ (Ne.symm a6.v) z2⟩
    · exact z3.at' fun o z => up2 _ o (Ne.symm a6.m) z
    · exact z4.at' fun o z => up2 _ o (Ne.symm a6.n) z
    · have h1 := hlt c hcm
      rw [upd_ne (by rw [hU]; exact Nat.ne_of_lt (Nat.lt_succ_of_lt h1)), upd_ne (Nat.ne_of_lt h1)]
      exact (hf c hcm).1
  done := by
    intro X hP hw hK hc i pins s σ H E I hf st hg; subst hP hw hK
    obtain ⟨⟨old, he⟩, oz, ou, ov, im, jn⟩ := st
    obtain ⟨xs, ys, qx, qy, stop⟩ := hg
    obtain ⟨its, rv, p, _⟩ := I.list qx
    obtain ⟨its2, rv2, p2, _⟩ := I.list qy
    have len1 := rv.length
    have len2 := rv2.length
    have out : its.toArray[i]? = none ∨ its2.toArray[i]? = none := by
      rcases stop with z | z
      · exact .inl (by simp; omega)
      · exact .inr (by simp; omega)
    have hT : s.TypeIs (.ref e) "enumerate" := ⟨_, he, rfl⟩
    unfold pyNext
    refine wpAny_bind (wpAny_attempt (wpAny_callSpecial?_slot (name := Str.ofString "__next__") hT F.slot_enumerate_next
      (wpAny_call_entry F.slot_enumerate_next hT F.entry_enumerate_next ?_ (F.args_enumerate_next_1 _))))
    show wpAny _ _ (field (.ref e) 2 >>= _) _ _ _
    refine wpAny_bind (wpAny_field he rfl (x := .ref q) rfl ?_)
    refine wpAny_bind (yn_end (I.ok.hd hc) ap oz ou ov im jn p.isList p2.isList out fun h' x kept hx' => ?_)
    obtain ⟨o, ho, hcl⟩ := hx'
    refine wpAny_bind (wpAny_isInstance (T := "StopIteration") (b := true) ⟨o, ho, hcl⟩ isSubtype_stop ?_)
    exact wpAny_pure ⟨rfl, I.turnedL (t' := s.toks) (ch := [e, q, u, v, m, n]) (fun c o hb ee => by
      have hb : c ≠ e ∧ c ≠ q ∧ c ≠ u ∧ c ≠ v ∧ c ≠ m ∧ c ≠ n := by simpa using hb
      exact kept c o hb.2.1 hb.2.2.2.1 hb.2.2.2.2.1 hb.2.2.2.2.2 ee) hf⟩
  self := fun A i s Q E st h => let ⟨⟨_, he⟩, _⟩ := st; wpAny_pyIter_enum he h
theorem meets_enumerate_newZ (q u v : Addr) :
    Meets (Builtin.«enumerate.__new__» ⟨[.type "enumerate", .ref q], []⟩) (fun _ R s => IsZip s.heap q u v .none ∧
      R (.ok (.ret (.ref s.heap.objs.size))) { s with heap := s.heap.push { cls := .type "enumerate", data := .fields #[.none, .bool false, .ref q, rawInt 0, .none, .none] } }) :=
  .of_wp fun prog w A R s h => by
    obtain ⟨hp, g, d, tk, os⟩ := s; obtain ⟨hl, h⟩ := h
    have hsub := PySem.sub_enumerate
    have hL : IsZip (Shared.heap ⟨hp, g, d, tk, os⟩) q u v .none := hl
    wp_walk using wpAny_loadPart' hl
    refine wpAny_stack_any fun st => wpAny_pure ?_
    split
    · rename_i c _ _ _ _ _
      cases (c == Value.type "enumerate")
      · wp_walk using wpAny_loadPart' hl, wpAny_pyIter_zip hL
        exact ⟨_, rfl, h⟩
      · wp_walk using wpAny_loadPart' hl, wpAny_pyIter_zip hL
        exact ⟨_, rfl, h⟩
    · wp_walk using wpAny_loadPart' hl, wpAny_pyIter_zip hL
      exact ⟨_, rfl, h⟩
def iEz (K : PySem.W.Frag) (ta : L2.TA) : L2.TI := fun σ H R => ta σ H fun vs H1 => ∃ (a b : Addr) (xs ys : List V), vs = [.ref a, .ref b] ∧ SqL K H1 a xs ∧ SqL K H1 b ys ∧ R (Itez K a b) H1
theorem pi_ez {X : Cx} {e e2 : Expr} {ta : L2.TA} {p p2 pos pos2 tpos : Pos} {elts : List Expr} {kk : Nat} (hg : Gl X "enumerate") (hm : X.mg "enumerate" = none) (hg2 : Gl X "zip") (hm2 : X.mg "zip" = none) (ha : PA X [e, e2] ta)
    (n1 : starEach [e, e2] X.env = (false, eval e X.env) :: starEach [e2] X.env := by rfl) (n2 : (backTo pos2 (starEach [e2] X.env)).any (·.1) = false := by rfl) :
    PI X (.Tuple elts kk tpos) (.Call (.Name "enumerate" p) [.Call (.Name "zip" p2) [e, e2] [] pos2] [] pos) (iEz X.K ta) := by
  refine ⟨fun pins s σ H R I h => Call_ (ld_blt I hg hm PyProof.Rows.boot_enumerate (PyProof.Rows.callWith_type1 ?_ rfl rfl))⟩
  show wpAny _ _ (spliced [(false, eval (.Call (.Name "zip" p2) [e, e2] [] pos2) X.env)]) _ _ s
  refine Calls.spliced_cons (Call_ (ld_blt I hg2 hm2 PyProof.Rows.boot_zip (PyProof.Rows.callWith_type1 (thn (ha.run pos2 pins s σ H _ I h) fun us s1 ⟨vs, H1, I1, r1, q1⟩ => ?_) n1 n2)))
  obtain ⟨a, b, xs, ys, ex, qx, qy, fin⟩ := q1
  subst ex
  rcases r1 with _ | ⟨r, _ | ⟨r', rest⟩⟩
  cases rest
  cases r
  cases r'
  obtain ⟨its, _, kx, _⟩ := I1.list qx
  obtain ⟨its2, _, ky, _⟩ := I1.list qy
  refine zz_call (t1 := false) (t2 := false) kx.isList ky.isList fun g oz ou ov im jn kept => Calls.spliced_nil ?_
  have sz : s1.heap.objs.size + 5 ≤ g.objs.size := Heap.lt_size oz
  have I2 : L2.Inv X pins σ H1 { s1 with heap := g } := I1.kept (t' := s1.toks) kept
  refine callType_new F.called_enumerate (by decide) (F.typeCall_enumerate_1 _) (F.newCall_enumerate_1 _) (fun obj => F.args_object_init_2 obj _) F.entry_enumerate_new (meets_enumerate_newZ _ _ _) ⟨oz, ?_⟩
  have he : IsEnum (g.push { cls := .type "enumerate", data := .fields #[.none, .bool false, .ref (s1.heap.objs.size + 4), rawInt 0, .none, .none] }) g.objs.size (s1.heap.objs.size + 4) 0 .none := Heap.get?_push_size _ rfl
  have up : ∀ c o, g.get? c = some o → (g.push { cls := .type "enumerate", data := .fields #[.none, .bool false, .ref (s1.heap.objs.size + 4), rawInt 0, .none, .none] }).get? c = some o := fun c o z => Heap.get?_push_of_some _ z
  have I3 : L2.Inv X pins σ H1 { s1 with heap := g.push { cls := .type "enumerate", data := .fields #[.none, .bool false, .ref (s1.heap.objs.size + 4), rawInt 0, .none, .none] } } := I2.kept (t' := s1.toks) up
  refine ⟨⟨_, he, rfl⟩, wpAny_pyIter_enum he ?_⟩
  refine ⟨g.objs.size, [g.objs.size, s1.heap.objs.size + 4, s1.heap.objs.size + 2, s1.heap.objs.size + 3, s1.heap.objs.size, s1.heap.objs.size + 1], _, _, H1, rfl, I3,
    ez_turn (PySem.W.ktu_apart s1.heap.objs.size a b kx.lt ky.lt) ⟨?_, ?_, ?_, ?_, ?_⟩, ⟨⟨_, he⟩, ⟨_, false, up _ _ oz, .inl rfl⟩, up _ _ ou, ⟨_, _, up _ _ ov⟩, im.at' fun o z => up _ o z, jn.at' fun o z => up _ o z⟩, ?_, fin⟩
  · exact Nat.ne_of_gt (show s1.heap.objs.size + 4 < g.objs.size by omega)
  · exact Nat.ne_of_gt (show s1.heap.objs.size + 2 < g.objs.size by omega)
  · exact Nat.ne_of_gt (show s1.heap.objs.size + 3 < g.objs.size by omega)
  · exact Nat.ne_of_gt (show s1.heap.objs.size < g.objs.size by omega)
  · exact Nat.ne_of_gt (show s1.heap.objs.size + 1 < g.objs.size by omega)
  have new : ∀ c, s1.heap.objs.size ≤ c → FpOk X pins H1 c := fun c hc => I1.fpOk hc (I1.hok.fresh hc)
  exact six (new _ (by omega)) (new _ (by omega)) (new _ (by omega)) (new _ (by omega)) (new _ (Nat.le_refl _)) (new _ (by omega))
theorem wk_ez {K : PySem.W.Frag} {H0 : Bs} {refs : List Nat} {aa bb : Addr} {ds es : List D} : Wk K H0 (Itez K aa bb) (enumD 0 (zipD ds es)) refs (fun F H σ env => SrcAt K refs aa (.lst ds) F H σ env ∧ SrcAt K refs bb (.lst es) F H σ env) := by
  refine ⟨fun F H σ env i d S q e => ?_, fun F H σ env S q => ?_, fun h σ F H env σ' F' H' env' S q s n => ⟨q.1.stp S s n, q.2.stp S s n⟩⟩
  · obtain ⟨a, xs, ea, h1, h2⟩ := (q.1.rv S).lst
    cases ea
    obtain ⟨b, ys, eb, k1, k2⟩ := (q.2.rv S).lst
    cases eb
    obtain ⟨dz, e0, rfl⟩ := enum_get e
    obtain ⟨dx, dy, e1, e2, rfl⟩ := zip_get e0
    obtain ⟨x, hx, _⟩ := h2.get' e1
    obtain ⟨y, hy, _⟩ := k2.get' e2
    refine ⟨⟨xs, ys, x, y, h1, k1, hx, hy⟩, fun z H' hz => ?_⟩
    obtain ⟨T, U, x', y', rfl, hT, hU, rfl, hx', hy'⟩ := hz
    obtain ⟨d', hd, rd⟩ := h2.get (hx' xs h1)
    rw [e1] at hd; cases hd
    obtain ⟨d', hd, rd'⟩ := k2.get (hy' ys k1)
    rw [e2] at hd; cases hd
    refine ⟨(Go.upd hT).trans (Go.upd hU), new_tup hU (.cons ?_ (.cons (new_tup hT (.cons rd (.cons rd' .nil))) .nil))⟩
    rw [Nat.zero_add]
    exact .int _
  · obtain ⟨a, xs, ea, h1, h2⟩ := (q.1.rv S).lst
    cases ea
    obtain ⟨b, ys, eb, k1, k2⟩ := (q.2.rv S).lst
    cases eb
    refine ⟨xs, ys, h1, k1, ?_⟩
    rw [enum_len, zip_len, h2.length, k2.length]
    omega
section
variable {X : Cx} {G : Gc} {ia ib : I} {a b : Expr} {pos pos2 : Pos}
theorem si_ez {elts : List Expr} {kk : Nat} {tpos p p2 : Pos} (hg : Gl X "enumerate") (hm : X.mg "enumerate" = none) (hg2 : Gl X "zip") (hm2 : X.mg "zip" = none) (ha : SE X G a ia) (hb : SE X G b ib) (hsa : notStar a = true) (hsb : notStar b = true) :
    SI X G (.Tuple elts kk tpos) (.Call (.Name "enumerate" p) [.Call (.Name "zip" p2) [a, b] [] pos2] [] pos) (.iEZ ia ib) := by
  refine ⟨imp_pi (pi_ez hg hm hg2 hm2 (pa_cons ha.pe (pa_cons hb.pe pa_nil (starEach_cons hsb)) (starEach_cons hsa)) (starEach_cons hsa) (starEach_any (by simp [hsb]))) fun σ H R hh => ?_, fun _ => rfl⟩
  obtain ⟨F, env, S, P⟩ := hh
  rw [evIt] at P
  refine ⟨F, env, S, P.seq0 (fun j hj => or_l hj) fun ra env1 F1 v H1 e1 P1 s1 q1 => ?_⟩
  obtain ⟨Fa, sa, upa, q1'⟩ : ∃ F2, Stp X.K G.H0 σ (fun j => ia.hits j) F H env F2 H1 env1 ∧ (∀ b, F1 b → F2 b) ∧ ((∃ i, ra = .ref i ∧ RepR X.K H F2 H1 σ env1 v ra) ∨ ∃ d, (∀ env, ra.get env = some d) ∧ (∀ i, ra ≠ .ref i) ∧ Rep X.K F2 H1 v d) := by
    cases ra with
    | val d => exact ⟨F1, s1, fun _ z => z, .inr ⟨d, fun _ => rfl, fun _ z => (nomatch z), q1⟩⟩
    | new c =>
      obtain ⟨F2, s2, up, z⟩ := src_of S s1 q1 rfl
      rcases z with z | ⟨i, hi, _⟩
      · exact ⟨F2, s2, up, .inr ⟨c.d, fun _ => rfl, fun _ z => (nomatch z), z⟩⟩
      · simp [refsOf] at hi
    | ref i => exact ⟨F1, s1, fun _ z => z, .inl ⟨i, rfl, q1⟩⟩
  have P1 := Post.shift P1 (sa.weak fun j hj => or_l hj)
  refine ⟨Fa, env1, sa.sim, P1.seq0 (fun j hj => or_r hj) fun rb env2 F2 w H2 e2 P2 s2 q2 => ?_⟩
  obtain ⟨dx, hx, P2⟩ := P2.of
  obtain ⟨dy, hy, P2⟩ := P2.of
  obtain ⟨ds, hs1, P2⟩ := P2.of
  obtain ⟨es, hs2, P2⟩ := P2.of
  obtain ⟨Fb, sb, upb, zb⟩ := src_of sa.sim s2 q2 hy
  have za : Rep X.K Fb H2 v dx ∨ ∃ i ∈ refsOf [ra], ∃ c a, v = .ref a ∧ env2[i]? = some (Slot.own c) ∧ c.d = dx ∧ σ[i]? = some (some (V.ref a)) := by
    rcases q1' with ⟨i, rfl, q⟩ | ⟨d, hd, hn, q⟩
    · obtain ⟨a, c, rfl, h1, h2⟩ := q.stp sb sa.sim
      refine .inr ⟨i, by simp [refsOf], c, a, rfl, h2, ?_, h1⟩
      have : Res.get env2 (.ref i) = some c.d := by simp [Res.get, h2]
      rw [this] at hx; cases hx; rfl
    · rw [hd] at hx; cases hx
      exact .inl (Rep.go sb.go sa.sim.ok q)
  have fin := fun J hJ => P2 Fb J H2 (sb.weak fun j hj => or_r hj) hJ
  cases dx <;> first | (cases hs1; done) | skip
  cases hs1
  cases dy <;> first | (cases hs2; done) | skip
  cases hs2
  obtain ⟨a0, xs, rfl, h1, h2⟩ := (src_rv sb.sim za).lst
  obtain ⟨b0, ys, rfl, k1, k2⟩ := (src_rv sb.sim zb).lst
  exact ⟨a0, b0, xs, ys, rfl, h1, k1, fin _ ⟨_, wk_ez, src_at za (fun _ q => refs2l q) rfl, src_at zb (fun _ q => refs2r q) rfl⟩⟩
end
end PyI

end
section
set_option autoImplicit false
/-! PyM2: a def that changes the list handed to it. -/
namespace PyI
open PySem PySem.Spec PyProof.Rows L2 RZ RT
/-- its promise: the list is the last thing handed in -/
def spM (K : PySem.W.Frag) (g : List D → Cell → Out (Option D × Cell)) : Sp := fun vs H Q _ => ∃ (F : Addr → Prop) (ds : List D) (c : Cell) (xs : List V) (a : Addr), FOk F H ∧ vs = xs ++ [V.ref a] ∧ RepL K F H xs ds ∧ CellAt K F H a c ∧ ¬ F a ∧ match g ds c with
  | .ok (r, c') => ∀ F' v H', Go (fun b => b = a) F H F' H' → CellAt K F' H' a c' → ¬ F' a → (match r with | some d => Rep K F' H' v d | none => v = .ref a) → Q v H'
  | _ => False
section
variable {K : PySem.W.Frag} {H0 : Bs} {Hs : Hp} {F F' : Addr → Prop} {H H' : Hp} {σ : L2.St} {env : Nv} {a : Addr} {c c' : Cell} {h : Nat → Bool}
theorem vals_rep : ∀ {rs : List Res} {xs : List V} {ds : List D}, RepRs K Hs F H σ env xs rs → valRs rs = some ds → RepL K F H xs ds
  | _, _, _, .nil, e => by cases e; exact .nil
  | .val d :: rs, _, _, .cons q qs, e => by
    obtain ⟨ds', h1, rfl⟩ := Option.map_eq_some_iff.mp (show (valRs rs).map (d :: ·) = _ from e)
    exact .cons q (vals_rep qs h1)
  | .new _ :: _, _, _, .cons _ _, e => by cases e
  | .ref _ :: _, _, _, .cons _ _, e => by cases e
theorem last_rep : ∀ {rs : List Res} {vs : List V} {q : List Res × Res}, RepRs K Hs F H σ env vs rs → lastR rs = some q → ∃ xs v, vs = xs ++ [v] ∧ RepRs K Hs F H σ env xs q.1 ∧ RepR K Hs F H σ env v q.2
  | [], _, _, _, e => by cases e
  | [r], _, _, .cons p .nil, e => by cases e; exact ⟨[], _, rfl, .nil, p⟩
  | r :: s :: rs, _, _, .cons p ps, e => by
    obtain ⟨q', h1, rfl⟩ := Option.map_eq_some_iff.mp (show (lastR (s :: rs)).map (fun q => (r :: q.1, q.2)) = _ from e)
    obtain ⟨xs, v, rfl, h2, h3⟩ := last_rep ps h1
    exact ⟨_ :: xs, v, rfl, .cons p h2, h3⟩
theorem one_ok (hc : CellAt K F H a c) (nF : ¬ F a) : OwnOk (fun b => b = a) F H := fun b z => by subst z; exact ⟨nF, hc.is⟩
/-- a slot's list changed by a call -/
theorem Sim.chg {k : Nat} (S : Sim K H0 F H σ env) (he : env[k]? = some (.own c)) (hs : σ[k]? = some (some (.ref a))) (g : Go (fun b => b = a) F H F' H') (hc : CellAt K F' H' a c') (nF : ¬ F' a) (hh : h k = true) : Stp K H0 σ h F H env F' H' (env.set k (.own c')) := by
  obtain ⟨a0, g1, g2, g3, g4⟩ := S.own k c he
  rw [hs] at g1; cases g1
  have ok := one_ok g2 g3
  have hk : k < env.length := (List.getElem?_eq_some_iff.mp he).1
  refine ⟨⟨by rw [List.length_set]; exact S.len, fun j d e => ?_, fun j c1 e => ?_, fun j l c1 c2 b e1 e2 e3 e4 => ?_, fun b z => S.old b (g.back z), g.fro S.fro⟩, g.mono fun b z => ⟨k, c, he, z ▸ hs⟩, fun j => ?_, fun j hj => ?_⟩
  · rw [get_set] at e
    split at e
    · cases e
    · obtain ⟨v, h1, h2⟩ := S.val j d e
      exact ⟨v, h1, h2.go g ok⟩
  · rw [get_set] at e
    split at e
    · rename_i hij
      cases e
      rw [← hij.1]
      exact ⟨a, hs, hc, nF, g4⟩
    · rename_i hij
      obtain ⟨b, h1, h2, h3, h4⟩ := S.own j c1 e
      have hb : b ≠ a := fun z => by
        subst z
        have := S.sep j k _ _ _ e he h1 hs
        exact hij ⟨this.symm, by rw [this]; exact hk⟩
      refine ⟨b, h1, h2.go g ok hb, fun z => ?_, h4⟩
      rcases g.new b z with z | z
      · exact h3 z
      · exact h2.there z
  · have old : ∀ {j : Nat} {c1 : Cell}, (env.set k (Slot.own c'))[j]? = some (Slot.own c1) → ∃ c2, env[j]? = some (Slot.own c2) := fun {j c1} e => by
      rw [get_set] at e
      split at e
      · rename_i hij; exact ⟨c, hij.1 ▸ he⟩
      · exact ⟨c1, e⟩
    obtain ⟨d1, f1⟩ := old e1
    obtain ⟨d2, f2⟩ := old e2
    exact S.sep j l _ _ _ f1 f2 e3 e4
  · rw [get_set]
    split
    · rename_i hij
      exact ⟨fun _ => ⟨c, hij.1 ▸ he⟩, fun _ => ⟨c', rfl⟩⟩
    · exact Iff.rfl
  · have hkj : k ≠ j := fun z => by subst z; rw [hh] at hj; cases hj
    rw [List.getElem?_set_ne hkj]
/-- a list that no slot has, changed by a call -/
theorem Sim.chgN (S : Sim K H0 F H σ env) (hc0 : CellAt K F H a c) (nF0 : ¬ F a) (nO : ¬ Own σ env a) (g : Go (fun b => b = a) F H F' H') : Sim K H0 F' H' σ env := by
  have ok := one_ok hc0 nF0
  refine ⟨S.len, fun j d e => ?_, fun j c1 e => ?_, S.sep, fun b z => S.old b (g.back z), g.fro S.fro⟩
  · obtain ⟨v, h1, h2⟩ := S.val j d e
    exact ⟨v, h1, h2.go g ok⟩
  · obtain ⟨b, h1, h2, h3, h4⟩ := S.own j c1 e
    have hb : b ≠ a := fun z => nO (z ▸ ⟨j, c1, e, h1⟩)
    refine ⟨b, h1, h2.go g ok hb, fun z => ?_, h4⟩
    rcases g.new b z with z | z
    · exact h3 z
    · exact h2.there z
end
section
variable {X : Cx} {G : Gc} {ia : I} {a : Expr} {es : List Expr} {pos : Pos}
theorem te_callM {n : Nat} {ix : Option Nat} {g : List D → Cell → Out (Option D × Cell)} (hg : ∀ ds c, G.cx.callM n ds c = .stuck ∨ G.cx.callM n ds c = g ds c) (hx : ∀ ds c x, g ds c ≠ .exc x) {σ : L2.St} {H : Hp} {Q : VK} (h : TE X.K G (.callM n ia ix) σ H Q) :
    tCallSD (spM X.K g) [] (WE G.W) (TA X.K G ia) σ H Q := by
  obtain ⟨F, env, S, P⟩ := h
  rw [evE] at P
  refine ⟨F, env, S, P.seq0 (fun j hj => or_l hj) fun rs env1 F1 vs H1 _ P1 s1 q1 => ?_⟩
  obtain ⟨q, hl, P1⟩ := P1.of
  obtain ⟨ds, hds, P1⟩ := P1.of
  obtain ⟨xs, v, rfl, qx, qv⟩ := last_rep q1 hl
  have rx := vals_rep qx hds
  rw [List.append_nil]
  obtain ⟨rs', rl⟩ := q
  cases rl with
  | val d => cases ix <;> exact P1.elim
  | ref i =>
    cases ix with
    | none => exact P1.elim
    | some j =>
      by_cases hij : i = j
      case neg => simp only [if_neg hij] at P1; exact P1.elim
      subst hij
      simp only [if_true] at P1
      obtain ⟨c, hc, P1⟩ := P1.of
      obtain ⟨a0, c0, rfl, e1, e2⟩ := qv
      have hcc : c = c0 := by
        have : ownAt env1 i = some c0 := by unfold ownAt; rw [e2]
        rw [hc] at this; cases this; rfl
      subst hcc
      obtain ⟨b0, g1, g2, g3, g4⟩ := s1.sim.own i c e2
      rw [e1] at g1; cases g1
      refine ⟨F1, ds, c, xs, a0, s1.sim.fro, rfl, rx, g2, g3, ?_⟩
      rcases hg ds c with hst | hgd
      · rw [hst] at P1; exact P1.elim
      rw [hgd] at P1
      cases e : g ds c with
      | stuck => rw [e] at P1; exact P1.elim
      | exc x => exact absurd e (hx ds c x)
      | ok o =>
        obtain ⟨r, c'⟩ := o
        rw [e] at P1
        intro F' v' H' go hc' nF' hv
        have st := s1.trans (s1.sim.chg (h := fun j => (I.callM n ia (some i)).hits j) e2 e1 go hc' nF' (by simp [I.hits])) (fun j hj => or_l hj) fun _ z => z
        refine P1 F' v' H' st ?_
        cases r with
        | some d => exact hv
        | none =>
          have hv : v' = .ref a0 := hv
          subst hv
          have hk : i < env1.length := (List.getElem?_eq_some_iff.mp e2).1
          exact ⟨a0, c', rfl, e1, by rw [get_set, if_pos ⟨rfl, hk⟩]⟩
  | new c =>
    cases ix with
    | some j => exact P1.elim
    | none =>
      obtain ⟨a0, rfl, g2, g3, nO, hn⟩ := qv
      refine ⟨F1, ds, c, xs, a0, s1.sim.fro, rfl, rx, g2, g3, ?_⟩
      simp only at P1
      rcases hg ds c with hst | hgd
      · rw [hst] at P1; exact P1.elim
      rw [hgd] at P1
      cases e : g ds c with
      | stuck => rw [e] at P1; exact P1.elim
      | exc x => exact absurd e (hx ds c x)
      | ok o =>
        obtain ⟨r, c'⟩ := o
        rw [e] at P1
        intro F' v' H' go hc' nF' hv
        have S2 := s1.sim.chgN g2 g3 nO go
        have st : Stp X.K G.H0 σ (fun j => (I.callM n ia none).hits j) F H env F' H' env1 := by
          refine ⟨S2, ⟨fun b o hb hO => ?_, fun b z => go.stay b (s1.go.stay b z), fun b z => go.up b (s1.go.up b z), fun b z => ?_, fun k => go.fro (s1.go.fro k)⟩, s1.owns, fun j hj => s1.off j (or_l hj)⟩
          · refine go.keep b o (s1.go.keep b o hb hO) fun z => ?_
            subst z
            rw [hn] at hb; cases hb
          · rcases go.new b z with z | z
            · exact s1.go.new b z
            · exact .inr (s1.go.back z)
        refine P1 F' v' H' st ?_
        cases r with
        | some d => exact hv
        | none =>
          have hv : v' = .ref a0 := hv
          subst hv
          exact ⟨a0, rfl, hc', nF', nO, hn⟩
theorem se_callM {n k : Nat} {ix : Option Nat} {x : Str} {f : Addr} {fd : FuncData} {ps : List Str} {g : List D → Cell → Out (Option D × Cell)} {p : Pos} (Fk : FnOk X.prog X.w X.K X.mg X.base (L2.CX X.prog X.w) k f fd ps (spM X.K g))
    (hr : Room k X.A) (hgl : Gl X x) (hm : X.mg x = some (.ref f)) (hk : PySem.W.keepIn X.K (.ref f) = true) (hb : Binds X.K fd ps []) (hg : ∀ ds c, G.cx.callM n ds c = .stuck ∨ G.cx.callM n ds c = g ds c) (hx : ∀ ds c x, g ds c ≠ .exc x)
    (tk : Takes X G.W) (hdb : (x == ("__debug__" : Str)) = false) (ha : SA X G (a :: es) ia) : SE X G (.Call (.Name x p) (a :: es) [] pos) (.callM n ia ix) := by
  have ns := Bool.and_eq_true_iff.mp (show (notStar a && es.all notStar) = true from ha.ns)
  exact SE.of_pe (imp_pe (pe_callSD Fk hr hgl hm hk hb .nil (fun σ => passAt tk σ) ha.pa hdb (starEach_cons ns.1) (starEach_any ns.2)) fun σ H Q h => te_callM hg hx h) (fun _ => rfl) (fun _ _ _ z => nomatch z)
end
end PyI

end
section
set_option autoImplicit false
/-! PyN: the check that a piece of I is the given text. -/
namespace PyI
open PySem PySem.Spec PyProof.Rows L2 RZ RT

/-! ### names -/
def leq : List Nat → List Nat → Bool
  | [], [] => true
  | a :: as, b :: bs => Nat.beq a b && leq as bs
  | _, _ => false
theorem leq_iff : ∀ {a b : List Nat}, leq a b = true ↔ a = b
  | [], [] => by simp [leq]
  | [], _ :: _ => by simp [leq]
  | _ :: _, [] => by simp [leq]
  | a :: as, b :: bs => by
    show (Nat.beq a b && leq as bs) = true ↔ _
    have h : Nat.beq a b = true ↔ a = b := ⟨Nat.eq_of_beq_eq_true, fun e => by rw [e]; exact Nat.beq_refl b⟩
    rw [Bool.and_eq_true, leq_iff, h]
    simp
def sEq (x y : Str) : Bool := leq x.cps.toList y.cps.toList
theorem sEq_iff {x y : Str} : sEq x y = true ↔ x = y := by
  unfold sEq
  rw [leq_iff]
  exact ⟨fun h => TL.ext_tl h, fun h => by rw [h]⟩
theorem sEq_beq (x y : Str) : sEq x y = (x == y) := by
  rw [Bool.eq_iff_iff, sEq_iff, beq_iff_eq]
def lkL : List (Str × NameKind) → Str → Option NameKind
  | [], _ => none
  | (y, k) :: r, x => match sEq x y with
    | true => some k
    | false => lkL r x
theorem lkL_eq (x : Str) : ∀ l : List (Str × NameKind), lkL l x = l.lookup x
  | [] => rfl
  | (y, k) :: r => by
    unfold lkL
    rw [List.lookup_cons, lkL_eq x r, sEq_beq]
    cases x == y <;> rfl
def lk (sc : Scope) (x : Str) : Option NameKind := lkL sc.names x
theorem lk_eq (sc : Scope) (x : Str) : lk sc x = sc.names.lookup x := lkL_eq x _
def isLoc (sc : Scope) (x : Str) : Bool := match lk sc x with
  | some .local => true
  | _ => false
def isTg (sc : Scope) (x : Str) : Bool := match lk sc x with
  | some .local => true
  | some .cell => true
  | _ => false
def isVis (sc : Scope) (x : Str) : Bool := match lk sc x with
  | some .local => true
  | some .cell => true
  | some .free => true
  | _ => false
def isGl (sc : Scope) (x : Str) : Bool := match lk sc x with
  | some .globalImplicit => true
  | _ => false
theorem isLoc_ok {sc : Scope} {x : Str} (h : isLoc sc x = true) : sc.names.lookup x = some .local := by
  rw [← lk_eq]
  unfold isLoc at h
  split at h <;> first | assumption | cases h
theorem isTg_ok {sc : Scope} {x : Str} (h : isTg sc x = true) : L2.Loc sc x := by
  unfold L2.Loc
  rw [← lk_eq]
  unfold isTg at h
  split at h <;> first | exact .inl (by assumption) | exact .inr (by assumption) | cases h
theorem isVis_ok {sc : Scope} {x : Str} (h : isVis sc x = true) : Vis sc x := by
  unfold Vis
  rw [← lk_eq]
  unfold isVis at h
  split at h <;> first | exact .inl (by assumption) | exact .inr (.inl (by assumption)) | exact .inr (.inr (by assumption)) | cases h
theorem isGl_ok {sc : Scope} {x : Str} (h : isGl sc x = true) : sc.names.lookup x = some .globalImplicit := by
  rw [← lk_eq]
  unfold isGl at h
  split at h <;> first | assumption | cases h
/-- an ordinary name -/
def okN (x : Str) : Bool := !sEq x "__debug__" && !sEq x "__classdict__" && !sEq x "__name__"
theorem okN_ok {x : Str} (h : okN x = true) : (x == ("__debug__" : Str)) = false ∧ (x == ("__classdict__" : Str)) = false ∧ x ≠ "__name__" := by
  unfold okN at h
  rw [sEq_beq, sEq_beq, sEq_beq, Bool.and_eq_true, Bool.and_eq_true] at h
  obtain ⟨⟨h1, h2⟩, h3⟩ := h
  exact ⟨by simpa using h1, by simpa using h2, by simpa using h3⟩
def sAt : List Str → Nat → Str → Bool
  | [], _, _ => false
  | y :: _, 0, x => sEq y x
  | _ :: r, n + 1, x => sAt r n x
theorem sAt_ok : ∀ {l : List Str} {n : Nat} {x : Str}, sAt l n x = true → l[n]? = some x
  | [], _, _, h => by cases h
  | y :: _, 0, x, h => by rw [sEq_iff.mp h]; rfl
  | _ :: r, n + 1, x, h => by rw [List.getElem?_cons_succ]; exact sAt_ok (l := r) h
/-- the tables of a text: a def's names; the defs that are called, by number; the built-in names; the module's constants -/
structure Tb where
  N : List Str
  fns : List (Str × Nat)
  frees : List Str
  globs : List (Str × Nat)
  tups : List (Str × Nat)
  /-- the text's own classes of exceptions; those without an own __init__ -/
  excs : List Str
  excs0 : List Str
  /-- those with one: the base whose __init__ it calls, its def, its entry -/
  excsA : List (Str × Str × Nat × Nat)
  /-- the defs that change the list handed to them; the slot that keeps its object -/
  fnsM : List (Str × Nat)
  pin : Option Nat
  /-- an except suite: an exception is handled -/
  hot : Bool
/-- may slot i be bound? -/
def unp (tb : Tb) (i : Nat) : Bool := match tb.pin with
  | some j => !Nat.beq i j
  | none => true
def inP : List (Str × Nat) → Str → Nat → Bool
  | [], _, _ => false
  | (y, m) :: r, x, n => (Nat.beq m n && sEq y x) || inP r x n
theorem inP_ok : ∀ {l : List (Str × Nat)} {x : Str} {n : Nat}, inP l x n = true → (x, n) ∈ l
  | [], _, _, h => by cases h
  | (y, m) :: r, x, n, h => by
    rcases Bool.or_eq_true_iff.mp (show ((Nat.beq m n && sEq y x) || inP r x n) = true from h) with h | h
    · obtain ⟨h1, h2⟩ := Bool.and_eq_true_iff.mp h
      rw [sEq_iff.mp h2, Nat.eq_of_beq_eq_true h1]
      exact List.mem_cons_self
    · exact List.mem_cons_of_mem _ (inP_ok h)
def inS : List Str → Str → Bool
  | [], _ => false
  | y :: r, x => sEq y x || inS r x
theorem inS_ok : ∀ {l : List Str} {x : Str}, inS l x = true → x ∈ l
  | [], _, h => by cases h
  | y :: r, x, h => by
    rcases Bool.or_eq_true_iff.mp (show (sEq y x || inS r x) = true from h) with h | h
    · rw [sEq_iff.mp h]; exact List.mem_cons_self
    · exact List.mem_cons_of_mem _ (inS_ok h)
/-- a built-in name -/
def blt (tb : Tb) (sc : Scope) (y x : Str) : Bool := sEq x y && isGl sc x && inS tb.frees x

/-! ### the check of expressions -/
inductive Syn where
  | e (e : Expr) | a (es : List Expr) | it (tg : Expr) (e : Expr)
def bopC : BOp → Operator → Bool
  | .add, .Add => true | .sub, .Sub => true | .mul, .Mult => true | .mod, .Mod => true | .fdiv, .FloorDiv => true | .pow, .Pow => true
  | _, _ => false
def copC : COp → CmpOp → Bool
  | .eq, .Eq => true | .ne, .NotEq => true | .lt, .Lt => true | .le, .LtE => true | .gt, .Gt => true | .ge, .GtE => true
  | .isIn, .In => true | .notIn, .NotIn => true | .isN, .Is => true | .notN, .IsNot => true
  | _, _ => false
def Bi.nm : Bi → Str
  | .len => "len" | .tuple => "tuple" | .list => "list" | .str => "str" | .int => "int" | .abs => "abs" | .min2 => "min" | .max2 => "max" | .all => "all" | .any => "any"
  | .isI _ => "isinstance" | .ord => "ord" | .listRev => "list" | .lenSet => "len" | .listRng => "list" | .sorted => "sorted" | .sum => "sum" | .dictT => "dict"
def Bi.simple : Bi → Bool
  | .len | .tuple | .list | .str | .int | .abs | .min2 | .max2 | .all | .any | .ord | .sorted | .sum | .dictT => true
  | _ => false
/-- what may stand in an except suite -/
def Bi.cool : Bi → Bool
  | .len | .tuple | .str | .int | .abs | .ord | .isI _ | .sorted => true
  | _ => false
def Me.nm : Me → Str
  | .join => "join" | .startswith => "startswith" | .split => "split" | .partition => "partition" | .index => "index" | .sidx => "index" | .get => "get" | .getOr => "get"
def Me.simple : Me → Bool
  | _ => true
def Mu.nm : Mu → Str
  | .append => "append" | .extend => "extend" | .insert => "insert" | .pop => "pop" | .popAt => "pop" | .clear => "clear" | .reverse => "reverse" | .setdefault => "setdefault"
def Mu.simple : Mu → Bool
  | _ => true
def I.isNo : I → Bool
  | .none_ => true
  | _ => false
/-- a target's names -/
def namesC (tb : Tb) (sc : Scope) : List Expr → List Nat → Bool
  | [], [] => true
  | .Name x _ :: es, i :: is => sAt tb.N i x && isLoc sc x && namesC tb sc es is
  | _, _ => false
/-- .. of a statement: cells too -/
def namesG (tb : Tb) (sc : Scope) : List Expr → List Nat → Bool
  | [], [] => true
  | .Name x _ :: es, i :: is => sAt tb.N i x && isTg sc x && namesG tb sc es is
  | _, _ => false
def tgtC (tb : Tb) (sc : Scope) (tg : Expr) (is : List Nat) : Bool := match tg with
  | .Name x _ => (match is with
    | [i] => sAt tb.N i x && isLoc sc x
    | _ => false)
  | .Tuple es _ _ => Nat.ble 2 is.length && namesC tb sc es is
  | _ => false
def tysC (tb : Tb) (sc : Scope) : List Expr → List Ty → Bool
  | [], [] => true
  | .Name x _ :: es, t :: ts => blt tb sc t.py x && tysC tb sc es ts
  | _, _ => false
def isIC (tb : Tb) (sc : Scope) : List Expr → List Ty → Bool
  | [.Name y _], [t] => blt tb sc t.py y
  | [.Tuple ys _ _], ts => tysC tb sc ys ts && Nat.ble ts.length 100
  | _, _ => false
def revC (tb : Tb) (sc : Scope) (nm : Str) : List Expr → Option Expr
  | [.Call (.Name y _) [e1] [] _] => (match blt tb sc nm y with
    | true => some e1
    | false => none)
  | _ => none
def twoC : List Expr → Bool
  | [_] => true
  | [_, _] => true
  | _ => false
def argsC (tb : Tb) (sc : Scope) (nm : Str) : List Expr → Option (List Expr)
  | [.Call (.Name y _) es [] _] => (match blt tb sc nm y with
    | true => some es
    | false => none)
  | _ => none
def ownOf (tb : Tb) (vs : List Nat) : List (Str × Nat) := vs.map fun v => (tb.N.getD v ⟨#[]⟩, v)
/-- a class that isinstance asks after -/
def clsC (tb : Tb) (sc : Scope) (c x : Str) : Bool := sEq x c && isGl sc x && okN x && (match sEq c "ValueError" with
  | true => inS tb.frees x
  | false => inS tb.excs x)
def clssC (tb : Tb) (sc : Scope) : List Str → List Expr → Bool
  | [], [] => true
  | c :: cs, .Name x _ :: es => clsC tb sc c x && clssC tb sc cs es
  | _, _ => false
def isEC (tb : Tb) (sc : Scope) (cs : List Str) : List Expr → Bool
  | [.Name x _] => (match cs with
    | [c] => clsC tb sc c x
    | _ => false)
  | [.Tuple es _ _] => clssC tb sc cs es && Nat.ble cs.length 100 && Nat.ble 1 cs.length
  | _ => false
def isPart (c : I → Bool) (i : I) (b : Bool) : Bool := !b && c i
def ck (tb : Tb) : I → Scope → Syn → Bool
  | .var n, sc, .e (.Name x _) => sAt tb.N n x && isVis sc x && okN x
  | .glob n, sc, .e (.Name x _) => isGl sc x && inP tb.globs x n && okN x
  | .kI k, _, .e (.Constant (.int j) _ _) => decide (k = j)
  | .kS k, _, .e (.Constant (.str j) _ _) => sEq k j && strOk k
  | .kB k, _, .e (.Constant (.bool j) _ _) => k == j
  | .kN, _, .e (.Constant .none _ _) => true
  | .bin o a b, sc, .e (.BinOp ea op eb _) => bopC o op && ck tb a sc (.e ea) && ck tb b sc (.e eb)
  | .neg a, sc, .e (.UnaryOp .USub ea _) => ck tb a sc (.e ea)
  | .not_ a, sc, .e (.UnaryOp .Not ea _) => ck tb a sc (.e ea)
  | .cmp o a b, sc, .e (.Compare ea [op] [eb] _) => copC o op && !behindInMarks op eb && ck tb a sc (.e ea) && ck tb b sc (.e eb)
  | .cmp2 o1 o2 a b c, sc, .e (.Compare ea [p1, p2] [eb, ec] _) => copC o1 p1 && copC o2 p2 && !lastMarks [p1, p2] [eb, ec] && ck tb a sc (.e ea) && ck tb b sc (.e eb) && ck tb c sc (.e ec)
  | .and_ a b, sc, .e (.BoolOp .And (ea :: eb :: r) p) => ck tb a sc (.e ea) && ck tb b sc (.e (match r with | [] => eb | _ :: _ => .BoolOp .And (eb :: r) p))
  | .or_ a b, sc, .e (.BoolOp .Or (ea :: eb :: r) p) => ck tb a sc (.e ea) && ck tb b sc (.e (match r with | [] => eb | _ :: _ => .BoolOp .Or (eb :: r) p))
  | .tup a, sc, .e (.Tuple es _ _) => ck tb a sc (.a es)
  | .lst a, sc, .e (.List es _) => ck tb a sc (.a es)
  | .dk0, _, .e (.Dict [] [] _) => true
  | .dt0, _, .e (.Dict [] [] _) => true
  | .idx a b, sc, .e (.Subscript ea eb _) => notSlice eb && ck tb a sc (.e ea) && ck tb b sc (.e eb)
  | .sl a l h, sc, .e (.Subscript ea (.Slice lo hi none _) _) => ck tb a sc (.e ea) && (match lo with | none => l.isNo | some e => !l.isNo && ck tb l sc (.e e)) && (match hi with | none => h.isNo | some e => !h.isNo && ck tb h sc (.e e))
  | .call n a, sc, .e (.Call (.Name x _) (ea :: es) [] _) => !tb.hot && isGl sc x && okN x && inP tb.fns x n && ck tb a sc (.a (ea :: es))
  | .bi b a, sc, .e (.Call (.Name x _) (ea :: es) [] _) => (!tb.hot || b.cool) && blt tb sc b.nm x && (match b with
      | .isI ts => isIC tb sc es ts && ck tb a sc (.a [ea])
      | .listRev => (match revC tb sc "reversed" (ea :: es) with
        | some e1 => ck tb a sc (.a [e1])
        | none => false)
      | .listRng => (match argsC tb sc "range" (ea :: es) with
        | some as => twoC as && ck tb a sc (.a as)
        | none => false)
      | .lenSet => (match revC tb sc "set" (ea :: es) with
        | some e1 => ck tb a sc (.a [e1])
        | none => false)
      | b => b.simple && ck tb a sc (.a (ea :: es)))
  | .me m o a, sc, .e (.Call (.Attribute eo name apos) (ea :: es) [] cpos) => m.simple && sEq name m.nm && !isCall0 eo && Nat.ble es.length 20 && (apos.endLine == cpos.line) && ck tb o sc (.e eo) && ck tb a sc (.a (ea :: es))
  | .mu m k a, sc, .e (.Call (.Attribute (.Name x _) name apos) es [] cpos) => m.simple && sEq name m.nm && Nat.ble es.length 20 && (apos.endLine == cpos.line) && sAt tb.N k x && isVis sc x && okN x && ck tb a sc (.a es)
  | .lc e vs s t, sc, .e (.ListComp elt [⟨tg, iter, ifs, as⟩] scope _) => !tb.hot && (decide (as = 0) && vs.all (unp tb)) && blkC tb.N sc scope (ownOf tb vs) && tgtC tb (relS scope sc) tg vs &&
      (if isSrc s then notSet iter && ck tb s sc (.e iter) else ck tb s sc (.it tg iter)) && ck tb e (relS scope sc) (.e elt) &&
      (match ifs with
        | [] => t.isNo
        | [c] => !t.isNo && ck tb t (relS scope sc) (.e c)
        | _ => false)
  | .nil, _, .a [] => true
  | .cons a b, sc, .a (e :: es) => notStar e && ck tb a sc (.e e) && ck tb b sc (.a es)
  | .iRng a, sc, .it _ (.Call (.Name x _) es [] _) => blt tb sc "range" x && (match es with | [_] => true | [_, _] => true | _ => false) && ck tb a sc (.a es)
  | .iEnum a, sc, .it (.Tuple _ _ _) (.Call (.Name x _) [e] [] _) => blt tb sc "enumerate" x && notStar e && ck tb a sc (.e e)
  | .iZip a b, sc, .it (.Tuple _ _ _) (.Call (.Name x _) [e1, e2] [] _) => blt tb sc "zip" x && notStar e1 && notStar e2 && ck tb a sc (.e e1) && ck tb b sc (.e e2)
  | .iRev a, sc, .it _ (.Call (.Name x _) [e] [] _) => blt tb sc "reversed" x && notStar e && ck tb a sc (.e e)
  | .gIx n a, sc, .e (.Call (.Attribute (.Name x _) name apos) [e] [] cpos) => sEq name "index" && (apos.endLine == cpos.line) && isGl sc x && okN x && inP tb.tups x n && notStar e && ck tb a sc (.e e)
  | .gAt n a, sc, .e (.Subscript (.Name x _) eb _) => notSlice eb && isGl sc x && okN x && inP tb.tups x n && ck tb a sc (.e eb)
  | .dispK k v, sc, .e (.Dict [some ek] [ev] _) => ck tb k sc (.e ek) && ck tb v sc (.e ev)
  | .dispT k v, sc, .e (.Dict [some ek] [ev] _) => ck tb k sc (.e ek) && ck tb v sc (.e ev)
  | .revL a, sc, .e (.Subscript ea (.Slice none none (some (.UnaryOp .USub (.Constant (.int j) _ _) _)) _) _) => decide (j = 1) && ck tb a sc (.e ea)
  | .isE cs a, sc, .e (.Call (.Name x _) (ea :: es) [] _) => blt tb sc "isinstance" x && notStar ea && isEC tb sc cs es && ck tb a sc (.e ea)
  | .atE a, sc, .e (.Attribute ea name _) => sEq name "at" && !isCall0 ea && ck tb a sc (.e ea)
  | .iEZ a b, sc, .it (.Tuple _ _ _) (.Call (.Name x _) [.Call (.Name y _) [e1, e2] [] _] [] _) => blt tb sc "enumerate" x && blt tb sc "zip" y && notStar e1 && notStar e2 && ck tb a sc (.e e1) && ck tb b sc (.e e2)
  | .callM n a _, sc, .e (.Call (.Name x _) (ea :: es) [] _) => !tb.hot && isGl sc x && okN x && inP tb.fnsM x n && ck tb a sc (.a (ea :: es))
  | .stk, _, .e e => notComp e
  | _, _, _ => false
end PyI

end
section
set_option autoImplicit false
/-! PyX2: classes of exceptions with their own __init__. -/
namespace PyI
open PySem PySem.Spec PyProof.Rows L2 RZ RT

def oexB (K : PySem.W.Frag) (C : Addr) : Bool := (match K.lookup C with
  | some ⟨.type "type", _, .cls cd, sl⟩ => (match cd.mro, sl.toList with
    | .ref C' :: bm, [_, _, _, _, some (.builtin n), _] => decide (C' = C) && decide (n = "ValueError.__new__") && !cd.hasDel && cd.hasDict && PySem.HandSPX.refsVE bm
    | _, _ => false)
  | _ => false) && decide (PySem.W.findIn K (.ref C) "__setattr__" = some (some (.builtin "object.__setattr__"))) && decide (PySem.W.subIn K (.ref C) (.type "BaseException") = some true) && decide (PySem.W.typeIn K (.ref C) = some (.type "type")) && PySem.W.keepIn K (.ref C)
theorem oexB_ok {K : PySem.W.Frag} {C : Addr} (h : oexB K C = true) : OexC K C := by
  obtain ⟨h, h5⟩ := Bool.and_eq_true_iff.mp h
  obtain ⟨h, h4⟩ := Bool.and_eq_true_iff.mp h
  obtain ⟨h, h3⟩ := Bool.and_eq_true_iff.mp h
  obtain ⟨h, h2⟩ := Bool.and_eq_true_iff.mp h
  refine ⟨?_, of_decide_eq_true h2, of_decide_eq_true h3, of_decide_eq_true h4, h5⟩
  split at h
  · rename_i dd cd sl ho
    split at h
    · rename_i C' bm k0 k1 k2 k3 n k5 hm hs
      simp only [Bool.and_eq_true, decide_eq_true_eq, Bool.not_eq_true'] at h
      obtain ⟨⟨⟨⟨rfl, rfl⟩, hdel⟩, hdi⟩, ht⟩ := h
      obtain ⟨nm, bs, mro, ns, qn, hd, sn, sub, ab, col, del⟩ := cd
      dsimp only at hm hdel hdi
      subst hm hdel hdi
      have hsl : sl = #[k0, k1, k2, k3, some (.builtin "ValueError.__new__"), k5] := by
        obtain ⟨l⟩ := sl
        simp only at hs
        rw [hs]
      subst hsl
      exact ⟨nm, qn, ns, bs, bm, sn, sub, ab, col, dd, k0, k1, k2, k3, k5, ho, ht⟩
    · cases h
  · cases h
/-- the class at W hands on ValueError's __init__ -/
structure WInit (K : PySem.W.Frag) (W : Addr) : Prop where
  sp : PySem.W.specialIn K (.ref W) "__getattribute__" = some (some (.builtin "type.__getattribute__"))
  ty : PySem.W.typeIn K (.ref W) = some (.type "type")
  rd : PySem.W.readsIn K W (.type "type") = true
  fd : PySem.W.findCls K (.ref W) (.type "type") "__init__" = some (.val (.builtin "ValueError.__init__"))
def winB (K : PySem.W.Frag) (W : Addr) : Bool := decide (PySem.W.specialIn K (.ref W) "__getattribute__" = some (some (.builtin "type.__getattribute__"))) && decide (PySem.W.typeIn K (.ref W) = some (.type "type")) && PySem.W.readsIn K W (.type "type") && (match PySem.W.findCls K (.ref W) (.type "type") "__init__" with
  | some (.val (.builtin b)) => decide (b = "ValueError.__init__")
  | _ => false)
theorem winB_ok {K : PySem.W.Frag} {W : Addr} (h : winB K W = true) : WInit K W := by
  obtain ⟨h, h4⟩ := Bool.and_eq_true_iff.mp h
  obtain ⟨h, h3⟩ := Bool.and_eq_true_iff.mp h
  obtain ⟨h1, h2⟩ := Bool.and_eq_true_iff.mp h
  refine ⟨of_decide_eq_true h1, of_decide_eq_true h2, h3, ?_⟩
  split at h4
  · rename_i b hb
    rw [hb, of_decide_eq_true h4]
  · cases h4
theorem ev_meth {o : Expr} {name : Str} {apos pos : Pos} {args : List Expr} {env : PySem.Env} (hb : attributeBase o name env (eval o env) = eval o env) (hf : methodCallForm (args.length + ([] : List Keyword).length) (backTo pos (starEach args env)) (backToKw pos (keywordEach [] env)) = true)
    (hline : (apos.endLine == pos.line) = true) : eval (.Call (.Attribute o name apos) args [] pos) env = (do
      let ov ← eval o env
      standAt apos.atName
      let (f, first) ← holding [ov] (getMethod ov name (do return (← importBound o env).getD true))
      callWith pos f first (backTo pos (starEach args env)) (backToKw pos (keywordEach [] env))) := by
  rw [arm_eval_Call, hb]
  have hp : methodCallPos true o env apos pos = pure pos := by unfold methodCallPos; simp [hline]
  unfold methodCall
  rw [hf, hp]
  rfl
section
variable {X : Cx} {e : Expr} {es : List Expr} {ta : L2.TA} {p1 p2 pos : Pos} {W : Addr} {w : Str}
/-- W.__init__(self, ..) -/
theorem pe_winit {pl : Sem Bool} (hg : Gl X w) (hm : X.mg w = some (.ref W)) (hdb : (w == ("__debug__" : Str)) = false) (T : WInit X.K W) (ha : PA X (e :: es) ta)
    (hc : eval (.Call (.Attribute (.Name w p1) "__init__" p2) (e :: es) [] pos) X.env = (do
      let ov ← eval (.Name w p1) X.env
      standAt p2.atName
      let (f, first) ← holding [ov] (getMethod ov "__init__" pl)
      callWith pos f first (backTo pos (starEach (e :: es) X.env)) (backToKw pos (keywordEach [] X.env))))
    (he : starEach (e :: es) X.env = (false, eval e X.env) :: starEach es X.env) (hpl : (backTo pos (starEach es X.env)).any (·.1) = false) :
    PE X (.Call (.Attribute (.Name w p1) "__init__" p2) (e :: es) [] pos) (tVeI X.K ta) := by
  refine ⟨fun pins s σ H Q I h => ?_⟩
  refine PySem.W.methodCall_KW (ld_glob I hg hm ?_ hdb) hc
  obtain ⟨m, fr⟩ := I.fr
  refine PySem.W.method_of_cls fr I.ok.mod.kin T.sp (PySem.W.cls_val fr I.ok.mod.kin T.ty T.rd T.fd (by decide +kernel) ?_)
  show wpAny _ _ (callWith pos (Value.builtin "ValueError.__init__") [] (backTo pos (starEach (e :: es) X.env)) []) _ _ _
  refine PyProof.Rows.callWith_method1 (thn (ha.run pos pins _ σ H _ (I.tok _) h) fun us s1 ⟨vs, H1, I1, r1, a, C, ws, ev, hl, T, ea, q⟩ => ?_) he hpl
  subst ev
  cases r1 with
  | @cons _ u0 _ ur ra rw' =>
    obtain rfl : u0 = Value.ref a := ra
    have hlen : ur.length ≤ sizeLine := by
      rw [← Paired.length rw', sizeLine_eq]
      omega
    exact oinit_ok T I1 ea hlen fun s' J => ⟨.non, H1, J, rfl, q⟩
end
/-- such an __init__: self, an int -/
def spInit (C : Addr) : Sp := fun vs H Q _ => ∃ (a : Addr) (i : Int), vs = [.ref a, .int i] ∧ H a = some (exo a C none) ∧ ∀ dx, H dx = none → dx ≠ a → Q .non (upd (upd H dx (exd dx [("at", .int i)])) a (exo a C (some dx)))
def initBody (w : Str) : List Stmt → Bool
  | [.Expr (.Call (.Attribute (.Name w' _) m ap) [.Name s1 _, .Constant (.str _) _ _] [] cp) _, .Assign [.Attribute (.Name s2 _) f _] (.Name a _) _] => (ap.endLine == cp.line) && sEq w' w && sEq m "__init__" && sEq s1 "self" && sEq s2 "self" && sEq f "at" && sEq a "at"
  | _ => false
theorem initBody_ok {w : Str} {b : List Stmt} (h : initBody w b = true) : ∃ p1 p2 p3 p4 p5 p6 p7 p8 p9 p10 j z, (p2.endLine == p5.line) = true ∧ b = [.Expr (.Call (.Attribute (.Name w p1) "__init__" p2) [.Name "self" p3, .Constant (.str z) j p4] [] p5) p6, .Assign [.Attribute (.Name "self" p7) "at" p8] (.Name "at" p9) p10] := by
  unfold initBody at h
  split at h
  · obtain ⟨h, h6⟩ := Bool.and_eq_true_iff.mp h
    obtain ⟨h, h5⟩ := Bool.and_eq_true_iff.mp h
    obtain ⟨h, h4⟩ := Bool.and_eq_true_iff.mp h
    obtain ⟨h, h3⟩ := Bool.and_eq_true_iff.mp h
    obtain ⟨h, h2⟩ := Bool.and_eq_true_iff.mp h
    obtain ⟨h0, h1⟩ := Bool.and_eq_true_iff.mp h
    cases sEq_iff.mp h1
    cases sEq_iff.mp h2
    cases sEq_iff.mp h3
    cases sEq_iff.mp h4
    cases sEq_iff.mp h5
    cases sEq_iff.mp h6
    exact ⟨_, _, _, _, _, _, _, _, _, _, _, _, h0, rfl⟩
  · cases h
section
variable {P : Program} {wd : World} {K : PySem.W.Frag} {mg : Str → Option Value} {base : Heap} {C : Addr} {w : Str} {scope : Scope} {body : List Stmt} {x qual : Str} {params : Arguments} {dvs : List V} {kws : List (Str × V)} {f : Addr} {fd : FuncData}
theorem init_fn (F : FunD K x qual params body scope dvs kws f fd) (S : FnScope ["self", "at"] ["self", "at"] scope) (v1 : Vis scope "self") (v2 : Vis scope "at") (gw : isGl scope w = true) (hb : initBody w body = true) (gW : mg w = some (.ref (He.ga K w))) (hdb : (w == ("__debug__" : Str)) = false)
    (TW : WInit K (He.ga K w)) (TC : OexC K C) (hno : PySem.W.findIn K (.ref C) "at" = some none) : FnOk P wd K mg base (L2.CX P wd) 1 f fd ["self", "at"] (spInit C) := by
  obtain ⟨p1, p2, p3, p4, p5, p6, p7, p8, p9, p10, j, z, hln, rfl⟩ := initBody_ok hb
  refine F.ok S (fun vs H Q E q => ?_) (fun cdv A outer s H vs Q E hr q => ?_)
  · obtain ⟨a, i, rfl, _⟩ := q; rfl
  · obtain ⟨a, i, rfl, ha, q⟩ := q
    have k1 : PE (cxOf (L2.CX P wd) P wd K mg base ["self", "at"] qual scope f cdv A outer s H E) (.Name "self" p3) (tVar 0) := pe_var rfl v1
    have k2 : PE (cxOf (L2.CX P wd) P wd K mg base ["self", "at"] qual scope f cdv A outer s H E) (.Name "self" p7) (tVar 0) := pe_var rfl v1
    have k3 : PE (cxOf (L2.CX P wd) P wd K mg base ["self", "at"] qual scope f cdv A outer s H E) (.Name "at" p9) (tVar 1) := pe_var rfl v2
    refine ⟨_, pss_cons (ps_expr (pe_winit (isGl_ok gw) gW hdb TW (pa_cons k1 (pa_cons pe_str pa_nil)) (ev_meth rfl rfl hln) (by rfl) (by rfl)) (sw_no rfl)) (pss_cons (ps_ost k2 k3 (sw_no rfl)) pss_nil), ?_⟩
    refine ⟨_, rfl, a, C, [.str z], rfl, by simp, TC, ha, ?_⟩
    refine ⟨.int i, rfl, .ref a, rfl, a, C, rfl, TC, hno, .inl ⟨ha, fun dx h1 h2 => q dx h1 h2⟩⟩
end
/-- an exception of class c may be made of an int -/
def InitOk (X : Cx) (c : Str) : Prop := ∃ (fI : Addr) (fd : FuncData), OexC X.K (He.ga X.K c) ∧ PySem.W.findIn X.K (.ref (He.ga X.K c)) "__init__" = some (some (.ref fI)) ∧ PySem.W.typeIn X.K (.ref fI) = some (.type "function") ∧
  FnOk X.prog X.w X.K X.mg X.base (L2.CX X.prog X.w) 1 fI fd ["self", "at"] (spInit (He.ga X.K c)) ∧ Room 2 X.A ∧ Binds X.K fd ["self", "at"] []
section
variable {X : Cx} {G : Gc} {c : Str} {p pos pos2 : Pos} {a : Expr} {ia : I}
theorem upd_del {H : Hp} {a dx : Addr} {o1 o2 o3 : HO} (ha : H a = none) (hn : dx ≠ a) : upd (del (upd (upd (upd H a o1) dx o2) a o3) a) dx (.xd [("at", .int 0)]) = upd H dx (.xd [("at", .int 0)]) := by
  funext b
  by_cases h1 : b = dx
  · subst h1; rw [upd_same, upd_same]
  · rw [upd_ne h1, upd_ne h1]
    by_cases h2 : b = a
    · subst h2; rw [del_same, ha]
    · rw [del_ne h2, upd_ne h2, upd_ne h1, upd_ne h2]
theorem upd_del' {H : Hp} {a dx : Addr} {o1 o2 o3 o4 : HO} (ha : H a = none) (hn : dx ≠ a) : upd (del (upd (upd (upd H a o1) dx o2) a o3) a) dx o4 = upd H dx o4 := by
  funext b
  by_cases h1 : b = dx
  · subst h1; rw [upd_same, upd_same]
  · rw [upd_ne h1, upd_ne h1]
    by_cases h2 : b = a
    · subst h2; rw [del_same, ha]
    · rw [del_ne h2, upd_ne h2, upd_ne h1, upd_ne h2]
theorem ss_raiseA (hc : X.calm = true) (tk : Takes X G.W) (io : G.cx.deep = true → InitOk X c) (gC : X.mg c = some (.ref (He.ga X.K c))) (hg : Gl X c) (hdb : (c == ("__debug__" : Str)) = false) (ha : SE X G a ia) (hst : notStar a = true) :
    PS X (.Raise (some (.Call (.Name c p) [a] [] pos2)) none pos) (TS X.K G (.raiseA c ia)) := by
  cases hd : G.cx.deep with
  | false =>
    refine ⟨fun pins s σ H E I ⟨F, env, S, P⟩ => ?_⟩
    rw [evS] at P
    simp only [hd] at P
    exact P.elim
  | true =>
  obtain ⟨fI, fd, T, iC, tI, F1, hr, hb⟩ := io hd
  have hx : Passes (L2.CX X.prog X.w) X (fun _ _ _ => False) := fun pins σ H s e s' I c => tk e s' (XE.of_call I (fun _ _ _ h => h.elim) c)
  have pa : PA X [a] (tCons (TE X.K G ia) tNil) := pa_cons ha.pe pa_nil (starEach_cons hst)
  refine imp_ps (ps_raise hc tk (pmk_oex T iC tI F1 hr hb .nil hx hg gC pa hdb (starEach_cons hst) rfl)) fun E σ H h => ?_
  obtain ⟨F, env, S, P⟩ := h
  rw [evS] at P
  simp only [hd] at P
  refine ⟨F, env, S, P.ex (fun j hj => hj) fun r env1 F1 v H1 _ P1 s1 q1 => ?_⟩
  obtain ⟨i, hi, P1⟩ := P1.of
  have hv : v = .int i := by
    cases r with
    | val d => cases d <;> first | (cases hi; done) | (cases hi; cases q1 with | int _ => rfl)
    | new _ => cases hi
    | ref _ => cases hi
  subst hv
  refine ⟨by simp, fun a ha => ⟨a, i, rfl, upd_same, fun dx h1 h2 => ?_⟩⟩
  have hdn : H1 dx = none := by rw [upd_ne h2] at h1; exact h1
  refine ⟨rfl, dx, _, upd_same, by rw [upd_ne h2]; exact upd_same, hdn, ?_⟩
  rw [upd_del' ha h2]
  have st : Stp X.K G.H0 σ (fun _ => false) F1 H1 env1 F1 (upd H1 dx (.xd [("at", .int i)])) env1 := s1.sim.stp (Go.upd hdn)
  exact P1 σ F1 env1 _ _ _ (st.s.weak fun j hj => rfl) ⟨rfl, dx, _, rfl, upd_same, rfl⟩
end
end PyI

end
section
set_option autoImplicit false
/-! PyO: the check is sound: expressions. -/
namespace PyI
open PySem PySem.Spec PyProof.Rows L2 RZ RT

/-- a def that is called under the name x, by the number n -/
def CallOk (X : Cx) (G : Gc) (x : Str) (n : Nat) : Prop :=
  ∃ (k : Nat) (f : Addr) (fd : FuncData) (ps : List Str) (g : List D → Out Res) (dd : List D) (dvs : List V) (dus : List Value),
    FnOk X.prog X.w X.K X.mg X.base (L2.CX X.prog X.w) k f fd ps (spI X.K g) ∧ Room k X.A ∧ X.mg x = some (.ref f) ∧ PySem.W.keepIn X.K (.ref f) = true ∧ Binds X.K fd ps dus ∧ Vals dvs dus ∧
      (∀ ds, G.cx.call n ds = g (ds ++ dd)) ∧ ∀ F H, RepL X.K F H dvs dd
def CallMOk (X : Cx) (G : Gc) (x : Str) (n : Nat) : Prop :=
  ∃ (k : Nat) (f : Addr) (fd : FuncData) (ps : List Str) (g : List D → Cell → Out (Option D × Cell)),
    FnOk X.prog X.w X.K X.mg X.base (L2.CX X.prog X.w) k f fd ps (spM X.K g) ∧ Room k X.A ∧ X.mg x = some (.ref f) ∧ PySem.W.keepIn X.K (.ref f) = true ∧ Binds X.K fd ps [] ∧
      (∀ ds c, G.cx.callM n ds c = g ds c) ∧ ∀ ds c x, g ds c ≠ .exc x
/-- the context fits the tables; sc: the block's scope -/
structure XOk (tb : Tb) (X : Cx) (G : Gc) (sc : Scope) : Prop where
  scp : X.env.scope = sc
  kind : sc.kind = .function
  N : X.N = tb.N
  nd : X.N.Nodup
  calm : tb.hot = false → X.calm = true
  un : X.A.units + 66 < cLine
  takes : Takes X G.W
  free : ∀ x ∈ tb.frees, X.mg x = none
  tup : ∀ q ∈ tb.tups, ∃ (a : Addr) (ys : List Str), X.mg q.1 = some (.ref a) ∧ G.cx.tups q.2 = some ys ∧ TupAt X.K a ys
  glob : ∀ q ∈ tb.globs, ∃ v u, X.mg q.1 = some u ∧ RelV v u ∧ ∀ d, G.cx.glob q.2 = some d → ∀ F H, Rep X.K F H v d
  call : tb.hot = false → ∀ q ∈ tb.fns, CallOk X G q.1 q.2
  sub : SubOk X.K G.cx.sub
  exc : ∀ c ∈ tb.excs, X.mg c = some (.ref (He.ga X.K c)) ∧ ExcF X.K (He.ga X.K c)
  exc0 : ∀ c ∈ tb.excs0, PySem.W.excIn X.K (He.ga X.K c) PySem.HandSPX.veTail "ValueError.__new__" = true
  callM : tb.hot = false → ∀ q ∈ tb.fnsM, CallMOk X G q.1 q.2
  pin : ∀ i, G.H0.pin i = true → tb.pin = some i
  excA : tb.hot = false → G.cx.deep = true → ∀ q ∈ tb.excsA, InitOk X q.1
section
variable {tb : Tb} {X : Cx} {G : Gc} {sc : Scope} {i ia ib ic io : I} {e ea eb ec o : Expr} {es : List Expr} {pos p apos cpos : Pos} {x : Str} {n : Nat}
theorem XOk.gl (ok : XOk tb X G sc) (h : isGl sc x = true) : Gl X x := by
  show X.env.scope.names.lookup x = _
  rw [ok.scp]
  exact isGl_ok h
theorem XOk.unp (ok : XOk tb X G sc) {i : Nat} (h : unp tb i = true) : G.H0.pin i = false := by
  cases e : G.H0.pin i with
  | false => rfl
  | true =>
    have := ok.pin i e
    unfold PyI.unp at h
    rw [this] at h
    simp at h
theorem XOk.unps (ok : XOk tb X G sc) {vs : List Nat} (h : vs.all (PyI.unp tb) = true) : ∀ i ∈ vs, G.H0.pin i = false := fun i hi => ok.unp (List.all_eq_true.mp h i hi)
theorem XOk.blt (ok : XOk tb X G sc) {y : Str} (h : blt tb sc y x = true) : x = y ∧ Gl X y ∧ X.mg y = none := by
  obtain ⟨h, h3⟩ := Bool.and_eq_true_iff.mp h
  obtain ⟨h1, h2⟩ := Bool.and_eq_true_iff.mp h
  have := sEq_iff.mp h1
  subst this
  exact ⟨rfl, ok.gl h2, ok.free _ (inS_ok h3)⟩
theorem XOk.at_ (ok : XOk tb X G sc) (h : sAt tb.N n x = true) : X.N[n]? = some x := by rw [ok.N]; exact sAt_ok h
theorem XOk.vis (ok : XOk tb X G sc) (h : isVis sc x = true) : Vis X.env.scope x := by rw [ok.scp]; exact isVis_ok h
theorem XOk.loc (ok : XOk tb X G sc) (h : isLoc sc x = true) : X.env.scope.names.lookup x = some .local := by rw [ok.scp]; exact isLoc_ok h
def sAtP (tb : Tb) (k : Nat) (x : Str) : Bool := sAt tb.N k x && PyI.unp tb k
/-- a list comprehension's block -/
theorem XOk.blk (ok : XOk tb X G sc) {scope : Scope} (hk : scope.kind = .function) (s : Shared) (H : Hp) (C : Addr) (cl : List (Str × Addr)) (fp : List Addr) : XOk tb (X.blk s H scope (compEnvC scope cl C X.env) fp) G.no (relS scope sc) := by
  refine ⟨?_, hk, ok.N, ok.nd, ok.calm, ok.un, takes0, ok.free, ok.tup, ok.glob, ok.call, ok.sub, ok.exc, ok.exc0, ok.callM, ok.pin, ok.excA⟩
  show relS scope X.env.scope = _
  rw [ok.scp]

inductive SAs (X : Cx) (G : Gc) : List Expr → I → Prop
  | nil : SAs X G [] .nil
  | cons {e : Expr} {es : List Expr} {ia ib : I} : SE X G e ia → notStar e = true → SAs X G es ib → SAs X G (e :: es) (.cons ia ib)
theorem SAs.sa (h : SAs X G es i) : SA X G es i := by
  induction h with
  | nil => exact sa_nil
  | cons a s _ ih => exact sa_cons a s ih
def isLc : Expr → Bool
  | .ListComp _ _ _ _ => true
  | _ => false
def AsgLc (X : Cx) (G : Gc) (e : Expr) (i : I) : Prop := ∀ (k : Nat) (y : Str) (py spos : Pos), X.N[k]? = some y → X.env.scope.names.lookup y = some .local → swapsWith e (some (.Name y py)) spos.line X.env = pure true → G.H0.pin k = false →
  PS X (.Assign [.Name y py] e spos) (TS X.K G (.asg k i))
def Good (X : Cx) (G : Gc) : Syn → I → Prop
  | .e e, i => SE X G e i ∧ (isLc e = true → AsgLc X G e i)
  | .a es, i => SAs X G es i
  | .it tg e, i => SI X G tg e i
theorem good_e (h : SE X G e i) (hl : isLc e = false) : Good X G (.e e) i := ⟨h, fun z => by rw [hl] at z; cases z⟩

/-- what is never reached -/
theorem ev_stk (cx : Cxt) (env : Nv) : evE cx .stk env = .stuck := by
  unfold evE
  rfl
theorem se_stk {e : Expr} : SE X G e .stk := by
  have no : ∀ σ H Q, ¬ TE X.K G .stk σ H Q := fun σ H Q h => by
    obtain ⟨F, env, S, P⟩ := h
    rw [ev_stk] at P
    exact P
  have nt : ∀ σ H Q, ¬ TT X.K G .stk σ H Q := fun σ H Q h => by
    obtain ⟨F, env, S, P⟩ := h
    unfold evT at P
    rw [ev_stk] at P
    exact P
  exact ⟨⟨fun pins s σ H Q I q => absurd q (no _ _ _)⟩, ⟨fun pins s σ H Q I q => absurd q (nt _ _ _)⟩, fun _ _ _ _ => ⟨fun wh pins s σ H Q I q => absurd q (nt _ _ _)⟩⟩
/-! ### operators by their signs -/
theorem bop_ok {o : BOp} {op : Operator} (h : bopC o op = true) : OpR X (binaryOp op) (rD2 X.K (opBin o)) := by
  cases o <;> cases op <;> first | (cases h; done) | skip
  · exact opr_add
  · exact opr_sub
  · exact opr_mul
  · exact opr_mod
  · exact opr_fdiv
  · exact opr_pow
theorem cop_ok (hu : X.A.units + 66 < cLine) {o : COp} {op : CmpOp} (h : copC o op = true) : OpR X (compareOp op) (rB2 X.K (opCmp o)) := by
  cases o <;> cases op <;> first | (cases h; done) | skip
  · exact opr_eq (by omega)
  · exact opr_ne (by omega)
  · exact opr_lt (by omega)
  · exact opr_le
  · exact opr_gt
  · exact opr_ge
  · exact opr_in hu
  · exact opr_notIn hu
  · exact opr_isN
  · exact opr_notN
theorem good_call (ok : XOk tb X G sc) (hot : tb.hot = false) (h1 : isGl sc x = true) (h2 : okN x = true) (h3 : inP tb.fns x n = true) (ha : SAs X G (ea :: es) ia) : SE X G (.Call (.Name x p) (ea :: es) [] pos) (.call n ia) := by
  obtain ⟨k, f, fd, ps, g, dd, dvs, dus, F, hr, hm, hk, hb, hv, hg, hd⟩ := ok.call hot _ (inP_ok h3)
  exact se_call F hr (ok.gl h1) hm hk hb hv (fun ds => .inr (hg ds)) hd ok.takes (okN_ok h2).1 ha.sa
theorem good_callM {ix : Option Nat} (ok : XOk tb X G sc) (hot : tb.hot = false) (h1 : isGl sc x = true) (h2 : okN x = true) (h3 : inP tb.fnsM x n = true) (ha : SAs X G (ea :: es) ia) : SE X G (.Call (.Name x p) (ea :: es) [] pos) (.callM n ia ix) := by
  obtain ⟨k, f, fd, ps, g, F, hr, hm, hk, hb, hg, hx⟩ := ok.callM hot _ (inP_ok h3)
  exact se_callM F hr (ok.gl h1) hm hk hb (fun ds c => .inr (hg ds c)) hx ok.takes (okN_ok h2).1 ha.sa
theorem good_bi (ok : XOk tb X G sc) {b : Bi} (h0 : (!tb.hot || b.cool) = true) (h1 : blt tb sc b.nm x = true) (h2 : b.simple = true) (ha : SAs X G (ea :: es) ia) : SE X G (.Call (.Name x p) (ea :: es) [] pos) (.bi b ia) := by
  obtain ⟨rfl, hg, hm⟩ := ok.blt h1
  have ha := ha.sa
  have cm : b.cool = false → X.calm = true := fun hb => ok.calm (by
    rw [hb, Bool.or_false] at h0
    cases q : tb.hot with
    | false => rfl
    | true => rw [q] at h0; cases h0)
  cases b <;> first | (cases h2; done) | skip
  · exact se_biB cr_len hg hm PySem.boot_len ha (by decide) (by decide)
  · exact se_biT cr_tuple hg hm PyProof.Rows.boot_tuple ha (by decide) (by decide)
  · exact se_biT (cr_list (cm rfl)) hg hm PyProof.Rows.boot_list ha (by decide) (by decide)
  · exact se_biT cr_str hg hm PyProof.Rows.boot_str ha (by decide) (by decide)
  · exact se_biT cr_int hg hm PyProof.Rows.boot_int ha (by decide) (by decide)
  · exact se_biB cr_abs hg hm PyProof.Rows.boot_abs ha (by decide) (by decide)
  · exact se_biB (cr_min2 (cm rfl)) hg hm PyProof.Rows.boot_min ha (by decide) (by decide)
  · exact se_biB (cr_max2 (cm rfl)) hg hm PyProof.Rows.boot_max ha (by decide) (by decide)
  · exact se_biB (cr_all' (cm rfl)) hg hm PyProof.Rows.boot_all ha (by decide) (by decide)
  · exact se_biB (cr_any' (cm rfl)) hg hm PyProof.Rows.boot_any ha (by decide) (by decide)
  · exact se_biB cr_ord hg hm PyProof.Rows.boot_ord ha (by decide) (by decide)
  · exact se_biB (cr_sumD (cm rfl)) hg hm PyProof.Rows.boot_sum ha (by decide) (by decide)
  · exact se_biB cr_sortedD hg hm PyProof.Rows.boot_sorted ha (by decide) (by decide)
  · exact se_biT (cr_dictT (cm rfl) ok.un) hg hm PyProof.Rows.boot_dict ha (by decide) (by decide)
theorem rev_ok (ok : XOk tb X G sc) {nm : Str} {es : List Expr} {e1 : Expr} (h : revC tb sc nm es = some e1) : ∃ p2 pos2, es = [.Call (.Name nm p2) [e1] [] pos2] ∧ Gl X nm ∧ X.mg nm = none := by
  unfold revC at h
  split at h
  · rename_i y p2 e2 pos2
    split at h
    · rename_i hb
      cases h
      obtain ⟨rfl, hg, hm⟩ := ok.blt hb
      exact ⟨p2, pos2, rfl, hg, hm⟩
    · cases h
  · cases h
theorem args_ok (ok : XOk tb X G sc) {nm : Str} {es as : List Expr} (h : argsC tb sc nm es = some as) : ∃ p2 pos2, es = [.Call (.Name nm p2) as [] pos2] ∧ Gl X nm ∧ X.mg nm = none := by
  unfold argsC at h
  split at h
  · rename_i y p2 e2 pos2
    split at h
    · rename_i hb
      cases h
      obtain ⟨rfl, hg, hm⟩ := ok.blt hb
      exact ⟨p2, pos2, rfl, hg, hm⟩
    · cases h
  · cases h
theorem tys_ok (ok : XOk tb X G sc) : ∀ {ys : List Expr} {ts : List Ty}, tysC tb sc ys ts = true → ∃ pt : List (Ty × Pos), ys = pt.map (fun q => Expr.Name q.1.py q.2) ∧ ts = pt.map (·.1) ∧ (∀ q ∈ pt, Gl X q.1.py) ∧ ∀ q ∈ pt, X.mg q.1.py = none
  | [], [], _ => ⟨[], rfl, rfl, (fun _ h => nomatch h), (fun _ h => nomatch h)⟩
  | [], _ :: _, h => by cases h
  | e :: ys, [], h => by cases e <;> cases h
  | e :: ys, t :: ts, h => by
    cases e <;> first | (cases h; done) | skip
    rename_i x p
    obtain ⟨h1, h2⟩ := Bool.and_eq_true_iff.mp (show (blt tb sc t.py x && tysC tb sc ys ts) = true from h)
    obtain ⟨rfl, hg, hm⟩ := ok.blt h1
    obtain ⟨pt, r1, r2, r3, r4⟩ := tys_ok ok h2
    exact ⟨(t, p) :: pt, by rw [r1]; rfl, by rw [r2]; rfl, fun q hq => by
      rcases List.mem_cons.mp hq with rfl | hq
      · exact hg
      · exact r3 q hq, fun q hq => by
      rcases List.mem_cons.mp hq with rfl | hq
      · exact hm
      · exact r4 q hq⟩
theorem good_me (ok : XOk tb X G sc) {m : Me} (h1 : m.simple = true) (h2 : sEq x m.nm = true) (hb : isCall0 o = false) (hl : (ea :: es).length < 30) (hline : (apos.endLine == cpos.line) = true) (ho : SE X G o io) (ha : SAs X G (ea :: es) ia) :
    SE X G (.Call (.Attribute o x apos) (ea :: es) [] cpos) (.me m io ia) := by
  have hx := sEq_iff.mp h2
  subst hx
  have hu := ok.un
  have ha := ha.sa
  cases m <;> first | (cases h1; done) | skip
  · exact se_me PySem.F.plainAttrs_str PySem.F.slot_str_join PySem.F.type_str_join mt_join' ho hb ha hl hline
  · exact se_me PySem.F.plainAttrs_str PySem.F.slot_str_startswith PySem.F.type_str_startswith mt_startswith' ho hb ha hl hline
  · exact se_me PySem.F.plainAttrs_str PySem.F.slot_str_split PySem.F.type_str_split mt_split' ho hb ha hl hline
  · exact se_me PySem.F.plainAttrs_str PySem.F.slot_str_partition PySem.F.type_str_partition mt_partition' ho hb ha hl hline
  · exact se_me PySem.F.plainAttrs_list PySem.F.slot_list_index PySem.F.type_list_index (mt_index' hu) ho hb ha hl hline
  · exact se_me PySem.F.plainAttrs_dict PySem.F.slot_dict_get PySem.F.type_dict_get (mt_get1 (by omega)) ho hb ha hl hline
  · exact se_me PySem.F.plainAttrs_dict PySem.F.slot_dict_get PySem.F.type_dict_get (mt_get2 (by omega)) ho hb ha hl hline
  · exact se_me PySem.F.plainAttrs_str PySem.F.slot_str_index PySem.F.type_str_index mt_sidx' ho hb ha hl hline
theorem good_mu (ok : XOk tb X G sc) {m : Mu} {k : Nat} (h1 : m.simple = true) (h2 : sEq x m.nm = true) (hb : isCall0 o = false) (hl : es.length < 30) (hline : (apos.endLine == cpos.line) = true) (ho : SE X G o (.var k)) (ha : SAs X G es ia) :
    SE X G (.Call (.Attribute o x apos) es [] cpos) (.mu m k ia) := by
  have hx := sEq_iff.mp h2
  subst hx
  have mt : ∃ id, PySem.Slot m.ty m.nm id ∧ typeOf (.builtin id) = pure (.type "method_descriptor") ∧ PlainAttrs m.ty ∧ MtR X id (rMu X.K m) := by
    cases m <;> first | (cases h1; done) | skip
    · exact ⟨_, PySem.F.slot_list_append, PySem.F.type_list_append, PySem.F.plainAttrs_list, mt_append'⟩
    · exact ⟨_, PySem.F.slot_list_extend, PySem.F.type_list_extend, PySem.F.plainAttrs_list, mt_extend'⟩
    · exact ⟨_, PySem.F.slot_list_insert, PySem.F.type_list_insert, PySem.F.plainAttrs_list, mt_insert'⟩
    · exact ⟨_, PySem.F.slot_list_pop, PySem.F.type_list_pop, PySem.F.plainAttrs_list, mt_pop'⟩
    · exact ⟨_, PySem.F.slot_list_pop, PySem.F.type_list_pop, PySem.F.plainAttrs_list, mt_popAt'⟩
    · exact ⟨_, PySem.F.slot_list_clear, PySem.F.type_list_clear, PySem.F.plainAttrs_list, mt_clear'⟩
    · exact ⟨_, PySem.F.slot_list_reverse, PySem.F.type_list_reverse, PySem.F.plainAttrs_list, mt_reverse'⟩
    · exact ⟨_, PySem.F.slot_dict_setdefault, PySem.F.type_dict_setdefault, PySem.F.plainAttrs_dict, mt_setd'⟩
  obtain ⟨id, slot, hty, pa, hm⟩ := mt
  cases es with
  | nil => cases ha; exact se_mu0 pa slot hty hm ho hb hline
  | cons e es => exact se_mu pa slot hty hm ho hb ha.sa hl hline
/-! ### classes of exceptions -/
theorem cls_ok (ok : XOk tb X G sc) {c : Str} (h : clsC tb sc c x = true) : x = c ∧ NamesC X c := by
  obtain ⟨h, h4⟩ := Bool.and_eq_true_iff.mp h
  obtain ⟨h, h3⟩ := Bool.and_eq_true_iff.mp h
  obtain ⟨h1, h2⟩ := Bool.and_eq_true_iff.mp h
  have e := sEq_iff.mp h1
  subst e
  refine ⟨rfl, ok.gl h2, ?_, ?_⟩
  · unfold NamesC.okD
    rw [(okN_ok h3).1]; rfl
  · cases hv : sEq x "ValueError" with
    | true =>
      rw [hv] at h4
      exact .inl ⟨sEq_iff.mp hv, ok.free _ (inS_ok h4)⟩
    | false =>
      rw [hv] at h4
      refine .inr ⟨fun z => ?_, (ok.exc _ (inS_ok h4)).1⟩
      rw [sEq_iff.mpr z] at hv
      cases hv
theorem clss_ok (ok : XOk tb X G sc) : ∀ {cs : List Str} {es : List Expr}, clssC tb sc cs es = true → ∃ pt : List (Str × Pos), es = pt.map (fun q => Expr.Name q.1 q.2) ∧ cs = pt.map (·.1) ∧ ∀ q ∈ pt, NamesC X q.1
  | [], [], _ => ⟨[], rfl, rfl, fun _ h => nomatch h⟩
  | [], _ :: _, h => by cases h
  | c :: cs, [], h => by cases h
  | c :: cs, e :: es, h => by
    cases e <;> first | (cases h; done) | skip
    rename_i x p
    obtain ⟨h1, h2⟩ := Bool.and_eq_true_iff.mp (show (clsC tb sc c x && clssC tb sc cs es) = true from h)
    obtain ⟨rfl, hn⟩ := cls_ok ok h1
    obtain ⟨pt, r1, r2, r3⟩ := clss_ok ok h2
    exact ⟨(x, p) :: pt, by rw [r1]; rfl, by rw [r2]; rfl, fun q hq => by
      rcases List.mem_cons.mp hq with rfl | hq
      · exact hn
      · exact r3 q hq⟩
theorem good_isE (ok : XOk tb X G sc) {cs : List Str} (h1 : blt tb sc "isinstance" x = true) (h2 : notStar ea = true) (h3 : isEC tb sc cs es = true) (ha : SE X G ea ia) : SE X G (.Call (.Name x p) (ea :: es) [] pos) (.isE cs ia) := by
  obtain ⟨rfl, hg, hm⟩ := ok.blt h1
  unfold isEC at h3
  split at h3
  · split at h3
    · obtain ⟨rfl, hn⟩ := cls_ok ok h3
      exact se_isE1 ok.sub hg hm hn ha h2
    · cases h3
  · obtain ⟨h3, h5⟩ := Bool.and_eq_true_iff.mp h3
    obtain ⟨h3, h4⟩ := Bool.and_eq_true_iff.mp h3
    obtain ⟨pt, rfl, rfl, hn⟩ := clss_ok ok h3
    refine se_isET ok.sub hg hm hn (by have := Nat.le_of_ble_eq_true h4; simpa using this) (fun z => ?_) ha h2
    subst z
    cases h5
  · cases h3
/-! ### targets -/
theorem names_ok (ok : XOk tb X G sc) : ∀ {es : List Expr} {is : List Nat}, namesC tb sc es is = true → NamesAt X es is
  | [], [], _ => .nil
  | [], _ :: _, h => by cases h
  | e :: es, [], h => by cases e <;> cases h
  | e :: es, i :: is, h => by
    cases e <;> first | (cases h; done) | skip
    obtain ⟨h, h3⟩ := Bool.and_eq_true_iff.mp (show (_ && namesC tb sc es is) = true from h)
    obtain ⟨h1, h2⟩ := Bool.and_eq_true_iff.mp h
    exact .cons (ok.at_ h1) (.inl (ok.loc h2)) (.inr (ok.loc h2)) (names_ok ok h3)
theorem names_okG (ok : XOk tb X G sc) (fn : ∀ x, X.fn x = true) : ∀ {es : List Expr} {is : List Nat}, namesG tb sc es is = true → NamesAt X es is
  | [], [], _ => .nil
  | [], _ :: _, h => by cases h
  | e :: es, [], h => by cases e <;> cases h
  | e :: es, i :: is, h => by
    cases e <;> first | (cases h; done) | skip
    obtain ⟨h, h3⟩ := Bool.and_eq_true_iff.mp (show (_ && namesG tb sc es is) = true from h)
    obtain ⟨h1, h2⟩ := Bool.and_eq_true_iff.mp h
    exact .cons (ok.at_ h1) (by rw [ok.scp]; exact isTg_ok h2) (.inl (fn _)) (names_okG ok fn h3)
theorem tgt_ok (ok : XOk tb X G sc) {tg : Expr} {is : List Nat} (h : tgtC tb sc tg is = true) : Tgt X tg is ∧ is ≠ [] := by
  cases tg <;> first | (cases h; done) | skip
  · rename_i x p
    match is, h with
    | [i], h =>
      obtain ⟨h1, h2⟩ := Bool.and_eq_true_iff.mp (show (sAt tb.N i x && isLoc sc x) = true from h)
      exact ⟨.one (ok.at_ h1) (.inl (ok.loc h2)) (.inr (ok.loc h2)), by simp⟩
  · rename_i es k p
    obtain ⟨h1, h2⟩ := Bool.and_eq_true_iff.mp (show (Nat.ble 2 is.length && namesC tb sc es is) = true from h)
    have h1 := Nat.le_of_ble_eq_true h1
    exact ⟨.tup (names_ok ok h2) h1, fun z => by subst z; simp at h1⟩
theorem own_snd (tb : Tb) : ∀ vs : List Nat, (ownOf tb vs).map (·.2) = vs
  | [] => rfl
  | v :: vs => by
    show v :: (ownOf tb vs).map (·.2) = _
    rw [own_snd tb vs]
/-! ### list comprehensions -/
theorem evTs_eq (cx : Cxt) (i : I) (h : i.isNo = false) (env : Nv) : evTs cx i env = evT cx i env := by
  unfold evT
  cases i <;> first | (cases h; done) | (rw [evTs]; all_goals first | rfl | (intros; rename_i z; cases z))
theorem pts_ok {ifs : List Expr} {t : I} (h : (ifs = [] ∧ t.isNo = true) ∨ ∃ c, ifs = [c] ∧ t.isNo = false ∧ SE X G c t) : PTs X ifs (TTs X.K G t) := by
  rcases h with ⟨rfl, ht⟩ | ⟨c, rfl, ht, hc⟩
  · refine ⟨fun pins s σ H Q I q => pts_nil.run pins s σ H Q I ?_⟩
    cases t <;> first | (cases ht; done) | skip
    obtain ⟨F, env, S, P⟩ := q
    rw [evTs] at P
    exact P F true H (Stp.refl S) rfl
  · refine ⟨fun pins s σ H Q I q => (pts_one hc.pt).run pins s σ H Q I ?_⟩
    obtain ⟨F, env, S, P⟩ := q
    rw [evTs_eq _ _ ht] at P
    exact ⟨F, env, S, P⟩
theorem good_lc (ok : XOk tb X G sc) (hot : tb.hot = false) {elt tg iter : Expr} {ifs : List Expr} {scope : Scope} {vs : List Nat} {ie is it : I} (hun : vs.all (PyI.unp tb) = true) (hb : blkC tb.N sc scope (ownOf tb vs) = true) (ht : tgtC tb (relS scope sc) tg vs = true) (hs : SI X G tg iter is)
    (he : ∀ X G, XOk tb X G (relS scope sc) → SE X G elt ie) (hi : (ifs = [] ∧ it.isNo = true) ∨ ∃ c, ifs = [c] ∧ it.isNo = false ∧ ∀ X G, XOk tb X G (relS scope sc) → SE X G c it) :
    Good X G (.e (.ListComp elt [⟨tg, iter, ifs, 0⟩] scope pos)) (.lc ie vs is it) := by
  have hk : scope.kind = .function := by
    have h := (Bool.and_eq_true_iff.mp (Bool.and_eq_true_iff.mp (Bool.and_eq_true_iff.mp hb).1).1).1
    split at h <;> first | assumption | cases h
  have bk : BlkOk X.N X.env.scope scope (ownOf tb vs) := by rw [ok.N, ok.scp]; exact blkOk_by hb
  have hne : vs ≠ [] := fun z => by
    subst z
    cases tg <;> cases ht
  have pg := fun s H C cl fp => pg_tgt (X := X.blk s H scope (compEnvC scope cl C X.env) fp) (ok.calm hot) ok.nd (tgt_ok (ok.blk hk s H C cl fp) ht).1
  have pt := fun s H C cl fp => pts_ok (X := X.blk s H scope (compEnvC scope cl C X.env) fp) (G := G.no) (ifs := ifs) (t := it) (by
    rcases hi with hi | ⟨c, h1, h2, h3⟩
    · exact .inl hi
    · exact .inr ⟨c, h1, h2, h3 _ _ (ok.blk hk s H C cl fp)⟩)
  have pe := fun s H C cl fp => (he _ _ (ok.blk hk s H C cl fp)).pe
  have imp : ∀ σ H Q, TE X.K G (.lc ie vs is it) σ H Q → tLc (TI X.K G is) (gTgt X.K vs) (TTs X.K G.no it) (TE X.K G.no ie) ((ownOf tb vs).map (·.2)) σ H Q := fun σ H Q q => by
    rw [own_snd]; exact te_lc hne (ok.unps hun) q
  refine ⟨SE.of_pe (imp_pe (pe_lc (ok.calm hot) ok.nd hs.pi bk pg pt pe hs.ns) imp) (fun _ => rfl) (fun _ _ _ z => nomatch z), fun _ k y py spos hy hl hsw hpk => ?_⟩
  exact imp_ps (ps_setLc (ok.calm hot) ok.nd hy hl hsw hs.pi bk pg pt pe hs.ns) fun E σ H h => ts_asg hpk imp h
end
end PyI

end
section
set_option autoImplicit false
/-! PyP: the check is sound: expressions, one induction. -/
namespace PyI
open PySem PySem.Spec PyProof.Rows L2 RZ RT

theorem an {a b : Bool} (h : (a && b) = true) : a = true ∧ b = true := Bool.and_eq_true_iff.mp h
theorem nt {a : Bool} (h : (!a) = true) : a = false := by cases a <;> first | rfl | cases h
theorem isNo_eq {i : I} (h : i.isNo = true) : i = .none_ := by cases i <;> first | rfl | cases h
theorem sp_of {X : Cx} {G : Gc} {tb : Tb} {sc : Scope} {l : I} {lo : Option Expr} (ok : XOk tb X G sc) (ih : ∀ (e : Expr), ck tb l sc (.e e) = true → ∀ (X : Cx) (G : Gc), XOk tb X G sc → Good X G (.e e) l)
    (h : (match lo with | none => l.isNo | some e => !l.isNo && ck tb l sc (.e e)) = true) : SP X G lo l := by
  cases lo with
  | none => rw [isNo_eq h]; exact sp_none
  | some e =>
    obtain ⟨h1, h2⟩ := an h
    refine sp_some ?_ (ih e h2 X G ok).1
    have h1 := nt h1
    cases l <;> first | rfl | cases h1
theorem ck_ok (tb : Tb) (i : I) (sc : Scope) (syn : Syn) : ck tb i sc syn = true → ∀ (X : Cx) (G : Gc), XOk tb X G sc → Good X G syn i := by
  fun_induction ck tb i sc syn
  case case1 =>
    intro h X G ok
    obtain ⟨h, h3⟩ := an h
    obtain ⟨h1, h2⟩ := an h
    exact good_e (se_var (ok.at_ h1) (ok.vis h2) (okN_ok h3).1 (okN_ok h3).2.1) rfl
  case case2 =>
    intro h X G ok
    obtain ⟨h, h3⟩ := an h
    obtain ⟨h1, h2⟩ := an h
    obtain ⟨v, u, hm, r, hc⟩ := ok.glob _ (inP_ok h2)
    exact good_e (se_glob (ok.gl h1) hm r (okN_ok h3).1 hc) rfl
  case case3 =>
    intro h X G ok
    cases of_decide_eq_true h
    exact good_e se_int rfl
  case case4 =>
    intro h X G ok
    obtain ⟨h1, h2⟩ := an h
    cases sEq_iff.mp h1
    exact good_e (se_str h2) rfl
  case case5 =>
    intro h X G ok
    cases beq_iff_eq.mp h
    exact good_e se_bl rfl
  case case6 =>
    intro h X G ok
    exact good_e se_non rfl
  case case7 ih2 ih1 =>
    intro h X G ok
    obtain ⟨h, h3⟩ := an h
    obtain ⟨h1, h2⟩ := an h
    exact good_e (se_bin (bop_ok h1) (ih2 h2 X G ok).1 (ih1 h3 X G ok).1) rfl
  case case8 ih =>
    intro h X G ok
    exact good_e (se_neg (ih h X G ok).1) rfl
  case case9 ih =>
    intro h X G ok
    exact good_e (se_not (ih h X G ok).1) rfl
  case case10 ih2 ih1 =>
    intro h X G ok
    obtain ⟨h, h4⟩ := an h
    obtain ⟨h, h3⟩ := an h
    obtain ⟨h1, h2⟩ := an h
    exact good_e (se_cmp (cop_ok ok.un h1) (nt h2) (ih2 h3 X G ok).1 (ih1 h4 X G ok).1) rfl
  case case11 ih3 ih2 ih1 =>
    intro h X G ok
    obtain ⟨h, h6⟩ := an h
    obtain ⟨h, h5⟩ := an h
    obtain ⟨h, h4⟩ := an h
    obtain ⟨h, h3⟩ := an h
    obtain ⟨h1, h2⟩ := an h
    exact good_e (se_cmp2 (cop_ok ok.un h1) (cop_ok ok.un h2) (nt h3) (ih3 h4 X G ok).1 (ih2 h5 X G ok).1 (ih1 h6 X G ok).1) rfl
  case case12 r p ih2 ih1 =>
    intro h X G ok
    obtain ⟨h1, h2⟩ := an h
    cases r with
    | nil => exact good_e (se_and1 (ih2 h1 X G ok).1 (ih1 h2 X G ok).1) rfl
    | cons c es => exact good_e (se_and (ih2 h1 X G ok).1 (ih1 h2 X G ok).1) rfl
  case case13 r p ih2 ih1 =>
    intro h X G ok
    obtain ⟨h1, h2⟩ := an h
    cases r with
    | nil => exact good_e (se_or1 (ih2 h1 X G ok).1 (ih1 h2 X G ok).1) rfl
    | cons c es => exact good_e (se_or (ih2 h1 X G ok).1 (ih1 h2 X G ok).1) rfl
  case case14 ih =>
    intro h X G ok
    exact good_e (se_tup (SAs.sa (ih h X G ok))) rfl
  case case15 ih =>
    intro h X G ok
    exact good_e (se_lst (SAs.sa (ih h X G ok))) rfl
  case case16 =>
    intro h X G ok
    exact good_e se_dk0 rfl
  case case17 =>
    intro h X G ok
    exact good_e se_dt0 rfl
  case case18 ih2 ih1 =>
    intro h X G ok
    obtain ⟨h, h3⟩ := an h
    obtain ⟨h1, h2⟩ := an h
    exact good_e (se_idx (by have := ok.un; omega) h1 (ih2 h2 X G ok).1 (ih1 h3 X G ok).1) rfl
  case case19 ih3 ih2 ih1 =>
    intro h X G ok
    obtain ⟨h, h3⟩ := an h
    obtain ⟨h1, h2⟩ := an h
    exact good_e (se_sl (ih3 h1 X G ok).1 (sp_of ok ih2 h2) (sp_of ok ih1 h3)) rfl
  case case20 ih =>
    intro h X G ok
    obtain ⟨h, h4⟩ := an h
    obtain ⟨h, h3⟩ := an h
    obtain ⟨h, h2⟩ := an h
    obtain ⟨h0, h1⟩ := an h
    exact good_e (good_call ok (nt h0) h1 h2 h3 (ih h4 X G ok)) rfl
  case case21 b a sc x p1 ea es p ih3 ih2 ihR ih1 =>
    intro h X G ok
    obtain ⟨hh, h2⟩ := an h
    obtain ⟨h0, h1⟩ := an hh
    clear hh
    by_cases hs : b.simple = true
    · have h2 : (b.simple && ck tb a sc (.a (ea :: es))) = true := by cases b <;> first | exact h2 | cases hs
      exact good_e (good_bi ok h0 h1 hs (ih1 (an h2).2 X G ok)) rfl
    · have cm : b.cool = false → X.calm = true := fun hb => ok.calm (by
        rw [hb, Bool.or_false] at h0
        exact nt h0)
      cases b <;> first | (exact absurd rfl hs) | skip
      case isI ts =>
        clear h ih1
        obtain ⟨rfl, hg, hm⟩ := ok.blt h1
        obtain ⟨h2, h4⟩ := an (show (isIC tb sc es ts && ck tb a sc (.a [ea])) = true from h2)
        unfold isIC at h2
        split at h2
        · obtain ⟨rfl, hg2, hm2⟩ := ok.blt h2
          cases ih3 h4 X G ok with
          | cons s1 s2 s3 => cases s3; exact good_e (se_isI1 hg hm hg2 hm2 s1 s2) rfl
        · obtain ⟨h2, h5⟩ := an h2
          obtain ⟨pt, rfl, rfl, hg2, hm2⟩ := tys_ok ok h2
          cases ih3 h4 X G ok with
          | cons s1 s2 s3 =>
            cases s3
            exact good_e (se_isIT hg hm hg2 hm2 (by have := Nat.le_of_ble_eq_true h5; simpa using this) s1 s2) rfl
        · cases h2
      case listRev =>
        clear h
        obtain ⟨rfl, hg, hm⟩ := ok.blt h1
        have h5 : (match revC tb sc "reversed" (ea :: es) with
          | some e1 => ck tb a sc (.a [e1])
          | none => false) = true := h2
        clear h2
        cases hr : revC tb sc "reversed" (ea :: es) with
        | none => rw [hr] at h5; cases h5
        | some e1 =>
          rw [hr] at h5
          obtain ⟨p2, pos2, he, hg2, hm2⟩ := rev_ok ok hr
          cases he
          cases ih2 e1 h5 X G ok with
          | cons s1 s2 s3 => cases s3; exact good_e (se_lstRev (cm rfl) hg hm hg2 hm2 s1 s2) rfl
      case listRng =>
        clear h
        obtain ⟨rfl, hg, hm⟩ := ok.blt h1
        have h5 : (match argsC tb sc "range" (ea :: es) with
          | some as => twoC as && ck tb a sc (.a as)
          | none => false) = true := h2
        clear h2
        cases hr : argsC tb sc "range" (ea :: es) with
        | none => rw [hr] at h5; cases h5
        | some as =>
          rw [hr] at h5
          obtain ⟨h5, h6⟩ := an (show (twoC as && ck tb a sc (.a as)) = true from h5)
          obtain ⟨p2, pos2, he, hg2, hm2⟩ := args_ok ok hr
          cases he
          have sas := ihR as h6 X G ok
          unfold twoC at h5
          split at h5
          · cases sas with
            | cons s1 s2 s3 => cases s3; exact good_e (se_lstRg1 (cm rfl) hg hm hg2 hm2 s1 s2) rfl
          · cases sas with
            | cons s1 s2 s3 => cases s3 with
              | cons t1 t2 t3 => cases t3; exact good_e (se_lstRg2 (cm rfl) hg hm hg2 hm2 s1 s2 t1 t2) rfl
          · cases h5
      case lenSet =>
        clear h
        obtain ⟨rfl, hg, hm⟩ := ok.blt h1
        have h5 : (match revC tb sc "set" (ea :: es) with
          | some e1 => ck tb a sc (.a [e1])
          | none => false) = true := h2
        clear h2
        cases hr : revC tb sc "set" (ea :: es) with
        | none => rw [hr] at h5; cases h5
        | some e1 =>
          rw [hr] at h5
          obtain ⟨p2, pos2, he, hg2, hm2⟩ := rev_ok ok hr
          cases he
          cases ih2 e1 h5 X G ok with
          | cons s1 s2 s3 => cases s3; exact good_e (se_lenSet (cm rfl) hg hm hg2 hm2 s1 s2) rfl
      all_goals first | (exact absurd (an h2).1 hs)
  case case22 ih2 ih1 =>
    intro h X G ok
    obtain ⟨h, h7⟩ := an h
    obtain ⟨h, h6⟩ := an h
    obtain ⟨h, h5⟩ := an h
    obtain ⟨h, h4⟩ := an h
    obtain ⟨h, h3⟩ := an h
    obtain ⟨h1, h2⟩ := an h
    exact good_e (good_me ok h1 h2 (nt h3) (by have := Nat.le_of_ble_eq_true h4; simp only [List.length_cons]; omega) h5 (ih2 h6 X G ok).1 (ih1 h7 X G ok)) rfl
  case case23 ih =>
    intro h X G ok
    obtain ⟨h, h8⟩ := an h
    obtain ⟨h, h7⟩ := an h
    obtain ⟨h, h6⟩ := an h
    obtain ⟨h, h5⟩ := an h
    obtain ⟨h, h4⟩ := an h
    obtain ⟨h, h3⟩ := an h
    obtain ⟨h1, h2⟩ := an h
    exact good_e (good_mu ok h1 h2 rfl (by have := Nat.le_of_ble_eq_true h3; omega) h4 (se_var (ok.at_ h5) (ok.vis h6) (okN_ok h7).1 (okN_ok h7).2.1) (ih h8 X G ok)) rfl
  case case24 e vs s t sc elt tg iter ifs as scope p ih4 ih3 ih2 ih1 =>
    intro h X G ok
    obtain ⟨h, h6⟩ := an h
    obtain ⟨h, h5⟩ := an h
    obtain ⟨h, h4⟩ := an h
    obtain ⟨h, h3⟩ := an h
    obtain ⟨h, h2⟩ := an h
    obtain ⟨h0, h1⟩ := an h
    obtain ⟨h1, hun⟩ := an h1
    cases of_decide_eq_true h1
    have hs : SI X G tg iter s := by
      split at h4
      · rename_i hi
        obtain ⟨k1, k2⟩ := an h4
        exact si_src hi k1 (ih4 k2 X G ok).1
      · exact ih3 h4 X G ok
    refine good_lc ok (nt h0) hun h2 h3 hs (fun X G ok => (ih2 h5 X G ok).1) ?_
    split at h6
    · exact .inl ⟨rfl, h6⟩
    · obtain ⟨k1, k2⟩ := an h6
      exact .inr ⟨_, rfl, nt k1, fun X G ok => (ih1 _ k2 X G ok).1⟩
    · cases h6
  case case25 =>
    intro h X G ok
    exact SAs.nil
  case case26 ih2 ih1 =>
    intro h X G ok
    obtain ⟨h, h3⟩ := an h
    obtain ⟨h1, h2⟩ := an h
    exact SAs.cons (ih2 h2 X G ok).1 h1 (ih1 h3 X G ok)
  case case27 es p ih =>
    intro h X G ok
    obtain ⟨h, h3⟩ := an h
    obtain ⟨h1, h2⟩ := an h
    obtain ⟨rfl, hg, hm⟩ := ok.blt h1
    have ha := ih h3 X G ok
    split at h2
    · cases ha with
      | cons s1 s2 s3 => cases s3; exact si_rng1 hg hm (SAs.cons s1 s2 .nil).sa
    · cases ha with
      | cons s1 s2 s3 => cases s3 with
        | cons t1 t2 t3 => cases t3; exact si_rng2 hg hm (SAs.cons s1 s2 (.cons t1 t2 .nil)).sa
    · cases h2
  case case28 ih =>
    intro h X G ok
    obtain ⟨h, h3⟩ := an h
    obtain ⟨h1, h2⟩ := an h
    obtain ⟨rfl, hg, hm⟩ := ok.blt h1
    exact si_enum hg hm (ih h3 X G ok).1 h2
  case case29 ih2 ih1 =>
    intro h X G ok
    obtain ⟨h, h5⟩ := an h
    obtain ⟨h, h4⟩ := an h
    obtain ⟨h, h3⟩ := an h
    obtain ⟨h1, h2⟩ := an h
    obtain ⟨rfl, hg, hm⟩ := ok.blt h1
    exact si_zip hg hm (ih2 h4 X G ok).1 (ih1 h5 X G ok).1 h2 h3
  case case30 ih =>
    intro h X G ok
    obtain ⟨h, h3⟩ := an h
    obtain ⟨h1, h2⟩ := an h
    obtain ⟨rfl, hg, hm⟩ := ok.blt h1
    exact si_rev hg hm (ih h3 X G ok).1 h2
  case case31 ih =>
    intro h X G ok
    obtain ⟨h, h7⟩ := an h
    obtain ⟨h, h6⟩ := an h
    obtain ⟨h, h5⟩ := an h
    obtain ⟨h, h4⟩ := an h
    obtain ⟨h, h3⟩ := an h
    obtain ⟨h1, h2⟩ := an h
    have e1 := sEq_iff.mp h1
    subst e1
    obtain ⟨a, ys, hm, ht, hT⟩ := ok.tup _ (inP_ok h5)
    exact good_e (se_gIx (ok.gl h3) hm (okN_ok h4).1 ht hT (ih h7 X G ok).1 h6 h2) rfl
  case case32 ih =>
    intro h X G ok
    obtain ⟨h, h5⟩ := an h
    obtain ⟨h, h4⟩ := an h
    obtain ⟨h, h3⟩ := an h
    obtain ⟨h1, h2⟩ := an h
    obtain ⟨a, ys, hm, ht, hT⟩ := ok.tup _ (inP_ok h4)
    exact good_e (se_gAt (ok.gl h2) hm (okN_ok h3).1 ht hT (ih h5 X G ok).1 h1) rfl
  case case33 ih2 ih1 =>
    intro h X G ok
    obtain ⟨h1, h2⟩ := an h
    exact good_e (se_dispK (ih2 h1 X G ok).1 (ih1 h2 X G ok).1) rfl
  case case34 ih2 ih1 =>
    intro h X G ok
    obtain ⟨h1, h2⟩ := an h
    exact good_e (se_dispT (by have := ok.un; omega) (ih2 h1 X G ok).1 (ih1 h2 X G ok).1) rfl
  case case35 ih =>
    intro h X G ok
    obtain ⟨h1, h2⟩ := an h
    have e := of_decide_eq_true h1
    subst e
    exact good_e (se_revL (ih h2 X G ok).1) rfl
  case case36 ih =>
    intro h X G ok
    obtain ⟨h, h4⟩ := an h
    obtain ⟨h, h3⟩ := an h
    obtain ⟨h1, h2⟩ := an h
    exact good_e (good_isE ok h1 h2 h3 (ih h4 X G ok).1) rfl
  case case37 ih =>
    intro h X G ok
    obtain ⟨h, h3⟩ := an h
    obtain ⟨h1, h2⟩ := an h
    have e := sEq_iff.mp h1
    subst e
    exact good_e (se_atE ok.sub (ih h3 X G ok).1 (base_of (nt h2))) rfl
  case case38 ih2 ih1 =>
    intro h X G ok
    obtain ⟨h, h6⟩ := an h
    obtain ⟨h, h5⟩ := an h
    obtain ⟨h, h4⟩ := an h
    obtain ⟨h, h3⟩ := an h
    obtain ⟨h1, h2⟩ := an h
    obtain ⟨rfl, hg, hm⟩ := ok.blt h1
    obtain ⟨rfl, hg2, hm2⟩ := ok.blt h2
    exact si_ez hg hm hg2 hm2 (ih2 h5 X G ok).1 (ih1 h6 X G ok).1 h3 h4
  case case39 ih =>
    intro h X G ok
    obtain ⟨h, h4⟩ := an h
    obtain ⟨h, h3⟩ := an h
    obtain ⟨h, h2⟩ := an h
    obtain ⟨h0, h1⟩ := an h
    exact good_e (good_callM ok (nt h0) h1 h2 h3 (ih h4 X G ok)) rfl
  case case40 =>
    intro h X G ok
    exact good_e se_stk (by
      rename_i e
      cases e <;> first | rfl | cases h)
  case case41 =>
    intro h
    cases h
end PyI

end
section
set_option autoImplicit false
/-! PyQ: the check of statements. -/
namespace PyI
open PySem PySem.Spec PyProof.Rows L2 RZ RT

inductive SSyn where
  | s (st : Stmt) | ss (sts : List Stmt)
def I.isFrz : I → Bool
  | .frz _ => true
  | _ => false
def notTup : Expr → Bool
  | .Tuple _ _ _ => false
  | .List _ _ => false
  | _ => true
def asgC (tb : Tb) (sc : Scope) (x : Str) (l : Nat) (e : Expr) : Bool := match e with
  | .ListComp _ _ scope p => (match swaps sc scope x l p.line with
    | true => isLoc sc x
    | false => true)
  | e => notComp e
def ckS (tb : Tb) (sc : Scope) : I → SSyn → Bool
  | .done, .ss [] => true
  | .seq a b, .ss sts => (match a.isFrz with
    | true => ckS tb sc b (.ss sts)
    | false => (match sts with
      | st :: r => ckS tb sc a (.s st) && ckS tb sc b (.ss r)
      | [] => false))
  | .pass, .s (.Pass _) => true
  | .pass, .s (.Expr (.Constant (.str _) _ _) _) => true
  | .expr a, .s (.Expr e _) => notComp e && ck tb a sc (.e e)
  | .asg k a, .s (.Assign [.Name x p] e _) => sAtP tb k x && isTg sc x && asgC tb sc x p.line e && ck tb a sc (.e e)
  | .asgT is a, .s (.Assign [.Tuple es _ _] e _) => !tb.hot && (Nat.ble 2 is.length && is.all (unp tb)) && namesG tb sc es is && notTup e && ck tb a sc (.e e)
  | .put k a b, .s (.Assign [.Subscript (.Name x _) ea _] eb _) => sAt tb.N k x && isVis sc x && okN x && notSlice ea && ck tb a sc (.e ea) && ck tb b sc (.e eb)
  | .if_ c a b, .s (.If ec sa sb _) => ck tb c sc (.e ec) && ckS tb sc a (.ss sa) && ckS tb sc b (.ss sb)
  | .for_ vs s b, .s (.For tg iter body [] _) => !tb.hot && (tgtC tb sc tg vs && vs.all (unp tb)) && (if isSrc s then notSet iter && ck tb s sc (.e iter) else ck tb s sc (.it tg iter)) && ckS tb sc b (.ss body)
  | .while_ c b, .s (.While ec body [] _) => ck tb c sc (.e ec) && ckS tb sc b (.ss body)
  | .ret a, .s (.Return (some e) _) => ck tb a sc (.e e)
  | .retN, .s (.Return none _) => true
  | .raise c, .s (.Raise (some (.Call (.Name x _) [.Constant (.str _) _ _] [] _)) none _) => !tb.hot && sEq x c && isGl sc x && okN x && inS tb.excs x && inS tb.excs0 x
  | .try_ b c (some i) h, .s (.Try body [.ExceptHandler (some (.Name x _)) (some n) (st0 :: rest) _] [] [] _) => !tb.hot && sEq x c && isGl sc x && okN x && inS tb.excs x && !sEq x "ValueError" && sAtP tb i n && isLoc sc n && ckS tb sc b (.ss body) && ckS { tb with hot := true } sc h (.ss (st0 :: rest))
  | .try_ b c none h, .s (.Try body [.ExceptHandler (some (.Name x _)) none (st0 :: rest) _] [] [] _) => !tb.hot && sEq x c && isGl sc x && okN x && inS tb.excs x && !sEq x "ValueError" && ckS tb sc b (.ss body) && ckS { tb with hot := true } sc h (.ss (st0 :: rest))
  | .stk, .s _ => true
  | .raiseA c a, .s (.Raise (some (.Call (.Name x _) [e] [] _)) none _) => !tb.hot && sEq x c && isGl sc x && okN x && inS tb.excs x && inS (tb.excsA.map (·.1)) x && notStar e && ck tb a sc (.e e)
  | .retM k, .s (.Return (some (.Name x _)) _) => sAt tb.N k x && isVis sc x && okN x
  | _, _ => false
def GoodS (X : Cx) (G : Gc) : SSyn → I → Prop
  | .s st, i => PS X st (TS X.K G i)
  | .ss sts, i => PSs X sts (TS X.K G i)
theorem isFrz_eq {i : I} (h : i.isFrz = true) : ∃ k, i = .frz k := by cases i <;> first | exact ⟨_, rfl⟩ | cases h
theorem good_asg {tb : Tb} {X : Cx} {G : Gc} {sc : Scope} {k : Nat} {x : Str} {p pos : Pos} {e : Expr} {i : I} (ok : XOk tb X G sc) (fn : ∀ x, X.fn x = true) (h1 : sAtP tb k x = true) (h2 : isTg sc x = true) (h3 : asgC tb sc x p.line e = true) (h : Good X G (.e e) i) :
    PS X (.Assign [.Name x p] e pos) (TS X.K G (.asg k i)) := by
  have hl : L2.Loc X.env.scope x := by rw [ok.scp]; exact isTg_ok h2
  obtain ⟨h1, hun⟩ := an h1
  have hun := ok.unp hun
  by_cases hc : isLc e = true
  · cases e <;> first | (cases hc; done) | skip
    rename_i elt gs scope lp
    have hk : X.env.scope.kind = .function := by rw [ok.scp]; exact ok.kind
    have hsw : swapsWith (.ListComp elt gs scope lp) (some (.Name x p)) pos.line X.env = pure (swaps sc scope x p.line lp.line) := by rw [sw_lc hk, ok.scp]
    have h3 : (match swaps sc scope x p.line lp.line with | true => isLoc sc x | false => true) = true := h3
    cases hs : swaps sc scope x p.line lp.line with
    | true =>
      rw [hs] at h3 hsw
      exact h.2 hc k x p pos (ok.at_ h1) (ok.loc h3) hsw hun
    | false =>
      rw [hs] at hsw
      exact ss_asg ok.nd (ok.at_ h1) hl h.1 hsw (.inl (fn x)) hun
  · have hn : notComp e = true := by
      cases e <;> first | exact h3 | exact absurd rfl hc
    exact ss_asg ok.nd (ok.at_ h1) hl h.1 (sw_no hn) (.inl (fn x)) hun
theorem evS_stk (cx : Cxt) (env : Nv) : evS cx .stk env = .stuck := by
  unfold evS
  rfl
theorem ss_stk {X : Cx} {G : Gc} {st : Stmt} : PS X st (TS X.K G .stk) := ⟨fun pins s σ H E I q => by
  obtain ⟨F, env, S, P⟩ := q
  rw [evS_stk] at P
  exact P.elim⟩
theorem XOk.tryB {tb : Tb} {X : Cx} {G : Gc} {sc : Scope} {W : WX} {pn : List (Addr × Obj)} {xe : Value → Shared → Prop} (ok : XOk tb X G sc) (tk : Takes (X.tr pn xe) W) : XOk tb (X.tr pn xe) (G.by W) sc :=
  ⟨ok.scp, ok.kind, ok.N, ok.nd, ok.calm, ok.un, tk, ok.free, ok.tup, ok.glob, ok.call, ok.sub, ok.exc, ok.exc0, ok.callM, ok.pin, ok.excA⟩
theorem XOk.suiteB {tb : Tb} {X : Cx} {G : Gc} {sc : Scope} (ok : XOk tb X G sc) (a : Addr) (pn : List (Addr × Obj)) : XOk { tb with hot := true } (X.suite a pn) G.no sc :=
  ⟨ok.scp, ok.kind, ok.N, ok.nd, (fun z => nomatch z), ok.un, takes0, ok.free, ok.tup, ok.glob, (fun z => nomatch z), ok.sub, ok.exc, ok.exc0, (fun z => nomatch z), ok.pin, fun z => nomatch z⟩
theorem XOk.exN {tb : Tb} {X : Cx} {G : Gc} {sc : Scope} {x : Str} (ok : XOk tb X G sc) (h1 : isGl sc x = true) (h2 : okN x = true) (h3 : inS tb.excs x = true) : Names X x (.ref (He.ga X.K x)) := ⟨ok.gl h1, (okN_ok h2).1, .inl (ok.exc _ (inS_ok h3)).1⟩
theorem XOk.exS {tb : Tb} {X : Cx} {G : Gc} {sc : Scope} {x : Str} (ok : XOk tb X G sc) (h : (!sEq x "ValueError") = true) : ∀ y t, G.cx.sub y x = some t → PySem.W.exmOne X.K (.ref (He.ga X.K y)) (.ref (He.ga X.K x)) = some t := fun y t e => (ok.sub y x t e).2.2 fun z => by
  subst z
  rw [sEq_iff.mpr rfl] at h
  cases h
theorem ckS_ok (tb : Tb) (sc : Scope) (i : I) (syn : SSyn) : ckS tb sc i syn = true → ∀ (X : Cx) (G : Gc), XOk tb X G sc → PassesOwn (model X.prog X.w) X.A X.env X.xe → (∀ x, X.fn x = true) → X.stack = X.env :: X.outer → X.env.frame = some X.env.locals → GoodS X G syn i := by
  fun_induction ckS tb sc i syn
  case case1 =>
    intro h X G ok hp fn hst hfr
    exact ss_nil
  case case2 hf ih =>
    intro h X G ok hp fn hst hfr
    obtain ⟨k, rfl⟩ := isFrz_eq hf
    exact ss_frz (ih h X G ok hp fn hst hfr)
  case case3 hf ih2 ih1 =>
    intro h X G ok hp fn hst hfr
    obtain ⟨h1, h2⟩ := an h
    exact ss_cons (ih2 h1 X G ok hp fn hst hfr) (ih1 h2 X G ok hp fn hst hfr)
  case case4 =>
    intro h
    cases h
  case case5 =>
    intro h X G ok hp fn hst hfr
    exact ss_pass
  case case6 =>
    intro h X G ok hp fn hst hfr
    exact ss_doc
  case case7 =>
    intro h X G ok hp fn hst hfr
    obtain ⟨h1, h2⟩ := an h
    exact ss_expr (ck_ok _ _ sc _ h2 X G ok).1 (sw_no h1)
  case case8 =>
    intro h X G ok hp fn hst hfr
    obtain ⟨h, h4⟩ := an h
    obtain ⟨h, h3⟩ := an h
    obtain ⟨h1, h2⟩ := an h
    exact good_asg ok fn h1 h2 h3 (ck_ok _ _ sc _ h4 X G ok)
  case case9 e p2 =>
    intro h X G ok hp fn hst hfr
    obtain ⟨h, h4⟩ := an h
    obtain ⟨h, h3⟩ := an h
    obtain ⟨h, h2⟩ := an h
    obtain ⟨h0, h1⟩ := an h
    obtain ⟨h1, hun⟩ := an h1
    refine ss_asgT (ok.calm (nt h0)) ok.nd (names_okG ok fn h2) (Nat.le_of_ble_eq_true h1) (ck_ok _ _ sc _ h4 X G ok).1 sw_tup ?_ (ok.unps hun)
    cases e <;> first | rfl | cases h3
  case case10 k a b x p ea p2 eb p3 =>
    intro h X G ok hp fn hst hfr
    obtain ⟨h, h6⟩ := an h
    obtain ⟨h, h5⟩ := an h
    obtain ⟨h, h4⟩ := an h
    obtain ⟨h, h3⟩ := an h
    obtain ⟨h1, h2⟩ := an h
    refine ss_put (by have := ok.un; omega) (se_var (ok.at_ h1) (ok.vis h2) (okN_ok h3).1 (okN_ok h3).2.1) (ck_ok _ _ sc _ h5 X G ok).1 (ck_ok _ _ sc _ h6 X G ok).1 sw_sub ?_ ?_ rfl
    · cases eb <;> rfl
    · intro v
      cases ea <;> first | rfl | cases h4
  case case11 ih2 ih1 =>
    intro h X G ok hp fn hst hfr
    obtain ⟨h, h3⟩ := an h
    obtain ⟨h1, h2⟩ := an h
    exact ss_if (ck_ok _ _ sc _ h1 X G ok).1 (ih2 h2 X G ok hp fn hst hfr) (ih1 h3 X G ok hp fn hst hfr)
  case case12 ih =>
    intro h X G ok hp fn hst hfr
    obtain ⟨h, h3⟩ := an h
    obtain ⟨h, h2⟩ := an h
    obtain ⟨h0, h1⟩ := an h
    obtain ⟨h1, hun⟩ := an h1
    refine ss_for hp (ok.calm (nt h0)) ok.nd (tgt_ok ok h1).1 ?_ (ih h3 X G ok hp fn hst hfr) (ok.unps hun)
    split at h2
    · rename_i hi
      obtain ⟨k1, k2⟩ := an h2
      exact si_src hi k1 (ck_ok _ _ sc _ k2 X G ok).1
    · exact ck_ok _ _ sc _ h2 X G ok
  case case13 ih =>
    intro h X G ok hp fn hst hfr
    obtain ⟨h1, h2⟩ := an h
    exact ss_while hp (ck_ok _ _ sc _ h1 X G ok).1 (ih h2 X G ok hp fn hst hfr)
  case case14 =>
    intro h X G ok hp fn hst hfr
    exact ss_ret (ck_ok _ _ sc _ h X G ok).1
  case case15 =>
    intro h X G ok hp fn hst hfr
    exact ss_retN
  case case16 =>
    intro h X G ok hp fn hst hfr
    obtain ⟨h, h6⟩ := an h
    obtain ⟨h, h5⟩ := an h
    obtain ⟨h, h4⟩ := an h
    obtain ⟨h, h3⟩ := an h
    obtain ⟨h1, h2⟩ := an h
    have e := sEq_iff.mp h2
    subst e
    obtain ⟨g1, g2⟩ := ok.exc _ (inS_ok h5)
    exact ss_raise (ok.calm (nt h1)) ok.takes PySem.F.excBase_ValueError (ok.exc0 _ (inS_ok h6)) g2 g1 (ok.gl h3) (okN_ok h4).1
  case case17 ih2 ih1 =>
    intro h X G ok hp fn hst hfr
    obtain ⟨h, h10⟩ := an h
    obtain ⟨h, h9⟩ := an h
    obtain ⟨h, h8⟩ := an h
    obtain ⟨h, h7⟩ := an h
    obtain ⟨h, h6⟩ := an h
    obtain ⟨h, h5⟩ := an h
    obtain ⟨h, h4⟩ := an h
    obtain ⟨h, h3⟩ := an h
    obtain ⟨h1, h2⟩ := an h
    have e := sEq_iff.mp h2
    subst e
    obtain ⟨h7, hun⟩ := an h7
    exact ss_tryK hst hfr ok.nd (ok.at_ h7) (ok.unp hun) (ok.loc h8) (ok.exN h3 h4 h5) ok.takes (ok.exS h6) (fun W pn xe tk hpx => ih2 h9 (X.tr pn xe) (G.by W) (ok.tryB tk) hpx fn hst hfr)
      (fun a pn => ih1 h10 (X.suite a pn) G.no (ok.suiteB a pn) PassesOwn.never fn hst hfr)
  case case18 ih2 ih1 =>
    intro h X G ok hp fn hst hfr
    obtain ⟨h, h8⟩ := an h
    obtain ⟨h, h7⟩ := an h
    obtain ⟨h, h6⟩ := an h
    obtain ⟨h, h5⟩ := an h
    obtain ⟨h, h4⟩ := an h
    obtain ⟨h, h3⟩ := an h
    obtain ⟨h1, h2⟩ := an h
    have e := sEq_iff.mp h2
    subst e
    exact ss_tryO hst hfr (ok.exN h3 h4 h5) ok.takes (ok.exS h6) (fun W pn xe tk hpx => ih2 h7 (X.tr pn xe) (G.by W) (ok.tryB tk) hpx fn hst hfr)
      (fun a pn => ih1 h8 (X.suite a pn) G.no (ok.suiteB a pn) PassesOwn.never fn hst hfr)
  case case19 =>
    intro h X G ok hp fn hst hfr
    exact ss_stk
  case case20 =>
    intro h X G ok hp fn hst hfr
    obtain ⟨h, h8⟩ := an h
    obtain ⟨h, h7⟩ := an h
    obtain ⟨h, h6⟩ := an h
    obtain ⟨h, h5⟩ := an h
    obtain ⟨h, h4⟩ := an h
    obtain ⟨h, h3⟩ := an h
    obtain ⟨h1, h2⟩ := an h
    have e := sEq_iff.mp h2
    subst e
    obtain ⟨g1, g2⟩ := ok.exc _ (inS_ok h5)
    obtain ⟨q, hq, rfl⟩ := List.mem_map.mp (inS_ok h6)
    exact ss_raiseA (ok.calm (nt h1)) ok.takes (fun hd => ok.excA (nt h1) hd q hq) g1 (ok.gl h3) (okN_ok h4).1 (ck_ok _ _ sc _ h8 X G ok).1 h7
  case case21 =>
    intro h X G ok hp fn hst hfr
    obtain ⟨h, h3⟩ := an h
    obtain ⟨h1, h2⟩ := an h
    exact ss_retM (ok.at_ h1) (ok.vis h2) (okN_ok h3).1 (okN_ok h3).2.1
  case case22 =>
    intro h
    cases h
end PyI

end
section
set_option autoImplicit false
/-! PyR: a text of defs: what it computes; the defs keep their promise. -/
namespace PyI
open PySem PySem.Spec PyProof.Rows L2 RZ RT

/-- one def: how many parameters; all its names, the parameters first; its body -/
structure FnI where
  np : Nat
  N : List Str
  body : I
  /-- does it change the list handed to it as the last thing? -/
  io : Bool
/-- a text: its defs; the entries (a def, the defaults that fill up); the module's constants -/
structure Pg where
  fns : List FnI
  ents : List (Nat × Nat × List D)
  globs : List (Nat × D)
  tups : List (Nat × List Str)
  /-- the classes of exceptions, each with those under which it stands -/
  excs : List (Str × List Str)
/-- does class y stand under class c? -/
def ancOf : List (Str × List Str) → Str → Option (List Str)
  | [], _ => none
  | (x, as) :: r, y => match sEq x y with
    | true => some as
    | false => ancOf r y
def subOf (l : List (Str × List Str)) (y c : Str) : Option Bool := match ancOf l y with
  | none => none
  | some as => (match sEq c "ValueError" with
    | true => some true
    | false => (match inS (l.map (·.1)) c with
      | true => some (inS as c)
      | false => none))
def look {α : Type} : List (Nat × α) → Nat → Option α
  | [], _ => none
  | (m, a) :: r, n => match Nat.beq m n with
    | true => some a
    | false => look r n
theorem look_mem {α : Type} : ∀ {l : List (Nat × α)} {n : Nat} {a : α}, look l n = some a → (n, a) ∈ l
  | [], _, _, h => by cases h
  | (m, b) :: r, n, a, h => by
    unfold look at h
    split at h
    · rename_i e
      cases h
      rw [Nat.eq_of_beq_eq_true e]
      exact List.mem_cons_self
    · exact List.mem_cons_of_mem _ (look_mem h)
def fin (o : Out (Fl × Nv)) : Out Res := match o with
  | .stuck => .stuck
  | .ok (.next, _) => .ok (.val .non)
  | .ok (.ret (.val d), _) => .ok (.val d)
  | .ok (.ret (.new c), _) => .ok (.new c)
  | .ok (.ret (.ref _), _) => .stuck
  | .exc x => .exc x
/-- the end of a def that changes the list in slot q -/
def finM (q : Nat) (o : Out (Fl × Nv)) : Out (Option D × Cell) := match o with
  | .ok (.next, e) => (Out.of (ownAt e q)).bind fun c => .ok (some .non, c)
  | .ok (.ret (.val d), e) => (Out.of (ownAt e q)).bind fun c => .ok (some d, c)
  | .ok (.ret (.ref i), e) => if i = q then (Out.of (ownAt e q)).bind fun c => .ok (none, c) else .stuck
  | _ => .stuck
theorem finM_nox (q : Nat) (o : Out (Fl × Nv)) (x : Exn) : finM q o ≠ .exc x := by
  have key : ∀ (e : Nv) (r : Option D), ((Out.of (ownAt e q)).bind fun c => Out.ok (r, c)) ≠ .exc x := fun e r => by
    cases ownAt e q with
    | none => exact fun z => nomatch z
    | some c => exact fun z => nomatch z
  unfold finM
  split
  · exact key _ _
  · exact key _ _
  · split
    · exact key _ _
    · exact fun z => nomatch z
  · exact fun z => nomatch z
def startE (n : Nat) (ds : List D) : Nv := ds.map Slot.val ++ List.replicate (n - ds.length) Slot.emp
def startM (n : Nat) (ds : List D) (c : Cell) : Nv := ds.map Slot.val ++ (Slot.own c :: List.replicate (n - (ds.length + 1)) Slot.emp)
noncomputable def Pg.cxt (p : Pg) (k : Nat) (c : Nat → List D → Out Res) (m : Nat → List D → Cell → Out (Option D × Cell)) : Cxt := ⟨fun n es => match look p.ents n with
    | some q => c q.1 (es ++ q.2)
    | none => .stuck, fun n => look p.globs n, fun n => look p.tups n, subOf p.excs, Nat.ble 2 k, fun n es c0 => match look p.ents n with
    | some q => m q.1 es c0
    | none => .stuck⟩
noncomputable def Pg.run (p : Pg) : Nat → (Nat → List D → Out Res) × (Nat → List D → Cell → Out (Option D × Cell))
  | 0 => (fun _ _ => .stuck, fun _ _ _ => .stuck)
  | k + 1 => (fun i ds => match p.fns[i]? with
      | none => .stuck
      | some f => if ds.length = f.np then fin (evS (p.cxt k (p.run k).1 (p.run k).2) f.body (startE f.N.length ds)) else .stuck,
    fun i ds c => match p.fns[i]? with
      | none => .stuck
      | some f => if f.io = true ∧ ds.length + 1 = f.np then finM ds.length (evS (p.cxt k (p.run k).1 (p.run k).2) f.body (startM f.N.length ds c)) else .stuck)
/-- what def i says of ds, at most k calls deep -/
noncomputable def Pg.call (p : Pg) (k : Nat) : Nat → List D → Out Res := (p.run k).1
/-- .. and of a list that it changes -/
noncomputable def Pg.callM (p : Pg) (k : Nat) : Nat → List D → Cell → Out (Option D × Cell) := (p.run k).2
noncomputable def Pg.cx (p : Pg) (k : Nat) : Cxt := p.cxt k (p.call k) (p.callM k)
/-- an entry's call -/
noncomputable def Pg.ent (p : Pg) (k n : Nat) (ds : List D) : Out Res := match look p.ents n with
  | some q => p.call k q.1 (ds ++ q.2)
  | none => .stuck
theorem Pg.call_succ (p : Pg) (k i : Nat) (ds : List D) : p.call (k + 1) i ds = match p.fns[i]? with
    | none => .stuck
    | some f => if ds.length = f.np then fin (evS (p.cx k) f.body (startE f.N.length ds)) else .stuck := rfl
theorem Pg.callM_succ (p : Pg) (k i : Nat) (ds : List D) (c : Cell) : p.callM (k + 1) i ds c = match p.fns[i]? with
    | none => .stuck
    | some f => if f.io = true ∧ ds.length + 1 = f.np then finM ds.length (evS (p.cx k) f.body (startM f.N.length ds c)) else .stuck := rfl
theorem Pg.callM_nox (p : Pg) : ∀ (k i : Nat) (ds : List D) (c : Cell) (x : Exn), p.callM k i ds c ≠ .exc x
  | 0, _, _, _, _, h => nomatch h
  | k + 1, i, ds, c, x, h => by
    rw [Pg.callM_succ] at h
    split at h
    · cases h
    · split at h
      · exact finM_nox _ _ _ h
      · cases h

/-! ### static checks of one def -/
def hasS : List Str → Str → Bool
  | [], _ => false
  | y :: r, x => sEq y x || hasS r x
def nodupS : List Str → Bool
  | [] => true
  | x :: r => !hasS r x && nodupS r
theorem hasS_iff {x : Str} : ∀ {l : List Str}, hasS l x = true ↔ x ∈ l
  | [] => by simp [hasS]
  | y :: r => by
    show (sEq y x || hasS r x) = true ↔ _
    rw [Bool.or_eq_true, sEq_iff, hasS_iff, List.mem_cons]
    exact or_congr ⟨Eq.symm, Eq.symm⟩ Iff.rfl
theorem nodupS_ok : ∀ {l : List Str}, nodupS l = true → l.Nodup
  | [], _ => .nil
  | x :: r, h => by
    obtain ⟨h1, h2⟩ := an (show (!hasS r x && nodupS r) = true from h)
    refine List.nodup_cons.mpr ⟨fun z => ?_, nodupS_ok h2⟩
    rw [hasS_iff.mpr z] at h1
    cases h1
def eqS : List Str → List Str → Bool
  | [], [] => true
  | x :: xs, y :: ys => sEq x y && eqS xs ys
  | _, _ => false
theorem eqS_ok : ∀ {a b : List Str}, eqS a b = true → a = b
  | [], [], _ => rfl
  | [], _ :: _, h => by cases h
  | _ :: _, [], h => by cases h
  | x :: xs, y :: ys, h => by
    obtain ⟨h1, h2⟩ := an (show (sEq x y && eqS xs ys) = true from h)
    rw [sEq_iff.mp h1, eqS_ok h2]
def psOf (d : He.DefD) : List Str := d.params.args.map (·.arg)
def isFun (k : ScopeKind) : Bool := match k with
  | .function => true
  | _ => false
def notFree (k : NameKind) : Bool := match k with
  | .free => false
  | _ => true
/-- the tables for one def -/
def Tb.of (tb : Tb) (f : FnI) : Tb := { tb with N := f.N, hot := false, pin := if f.io then some (f.np - 1) else none }
/-- the def's frame, its body -/
def fnC (tb : Tb) (f : FnI) (d : He.DefD) : Bool :=
  isFun d.scope.kind && !d.scope.isCoroutine && !d.scope.isGenerator && nodupS f.N && eqS (f.N.take (psOf d).length) (psOf d) && (psOf d).all (isTg d.scope) && d.scope.names.all (fun y => notFree y.2) &&
  Nat.beq f.np (psOf d).length && ckS (tb.of f) d.scope f.body (.ss d.body)
theorem fnC_scope {tb : Tb} {f : FnI} {d : He.DefD} (h : fnC tb f d = true) : FnScope f.N (psOf d) d.scope ∧ f.np = (psOf d).length ∧ ckS (tb.of f) d.scope f.body (.ss d.body) = true := by
  obtain ⟨h, h9⟩ := an h
  obtain ⟨h, h8⟩ := an h
  obtain ⟨h, h7⟩ := an h
  obtain ⟨h, h6⟩ := an h
  obtain ⟨h, h5⟩ := an h
  obtain ⟨h, h4⟩ := an h
  obtain ⟨h, h3⟩ := an h
  obtain ⟨h1, h2⟩ := an h
  refine ⟨⟨?_, nt h2, nt h3, nodupS_ok h4, eqS_ok h5, fun x hx => isTg_ok (List.all_eq_true.mp h6 x hx), fun y hy e => ?_⟩, Nat.eq_of_beq_eq_true h8, h9⟩
  · unfold isFun at h1
    split at h1 <;> first | assumption | cases h1
  · have := List.all_eq_true.mp h7 y hy
    rw [e] at this
    cases this
/-- a constant as a fact -/
def gFa (x : Str) : D → He.Fa
  | .int i => .int x i
  | .str z => .str x z
  | _ => .free x
def gOk : Option D → Bool
  | some (.int _) => true
  | some (.str z) => strOk z
  | _ => false
/-- the facts that the head is to find -/
def faOf (p : Pg) (tb : Tb) : List He.Fa := (tb.fns ++ tb.fnsM).map (fun q => He.Fa.glo q.1) ++ (tb.frees.map He.Fa.free ++ (tb.globs.map (fun q => gFa q.1 ((look p.globs q.2).getD .non)) ++ (tb.tups.map (fun q => He.Fa.glo q.1) ++ tb.excs.map fun c => He.Fa.glo c)))
/-- the module's tuples of texts -/
def exOf (p : Pg) (tb : Tb) (K : PySem.W.Frag) : Bool := (tb.tups.all fun q => tuC K q.1 ((look p.tups q.2).getD [])) && (tb.excs.all fun c => excFB K (He.ga K c)) && (tb.excs0.all fun c => PySem.W.excIn K (He.ga K c) PySem.HandSPX.veTail "ValueError.__new__") &&
  (p.excs.all fun q => excFB K (He.ga K q.1) && decide (PySem.W.kitOne K (.ref (He.ga K q.1)) (clsW K "ValueError") = some true) &&
    p.excs.all fun c => decide (PySem.W.kitOne K (.ref (He.ga K q.1)) (clsW K c.1) = some (inS q.2 c.1)) && decide (PySem.W.exmOne K (.ref (He.ga K q.1)) (.ref (He.ga K c.1)) = some (inS q.2 c.1))) &&
  tb.excsA.all fun q => oexB K (He.ga K q.1) && winB K (He.ga K q.2.1) && decide (PySem.W.findIn K (.ref (He.ga K q.1)) "__init__" = some (some (.ref (He.fAd K (q.1, some ("__init__" : Str)))))) && decide (PySem.W.typeIn K (.ref (He.fAd K (q.1, some ("__init__" : Str)))) = some (.type "function"))
def dvD : He.Dv → D
  | .int i => .int i
  | .bl b => .bl b
  | _ => .non
def dvOk : He.Dv → Bool
  | .int _ => true
  | .bl _ => true
  | .non => true
  | _ => false
/-- an entry's name is its def's name -/
def entC (p : Pg) (defs : List He.DefD) (x : Str) (n : Nat) : Bool := match look p.ents n with
  | some q => (match defs[q.1]? with
    | some d => sEq d.at_.1 x && d.at_.2.isNone && sEq d.name x
    | none => false)
  | none => false
/-- a statement of a class's body -/
def mth (s : Stmt) (j : Nat) : Stmt := match s with
  | .ClassDef _ _ _ body _ _ _ _ _ _ _ => body.getD j (.Pass ⟨0, 0, 0, 0⟩)
  | _ => .Pass ⟨0, 0, 0, 0⟩
/-- no code: a def that is never run by the evaluator -/
def isStk : I → Bool
  | .stk => true
  | _ => false
/-- an own __init__ -/
def initC (w : Str) (d : He.DefD) : Bool := isFun d.scope.kind && !d.scope.isCoroutine && !d.scope.isGenerator && eqS (psOf d) ["self", "at"] && isTg d.scope "self" && isTg d.scope "at" && isVis d.scope "self" && isVis d.scope "at" && d.scope.names.all (fun y => notFree y.2) && isGl d.scope w && okN w && initBody w d.body
def initE (p : Pg) (tb : Tb) (defs : List He.DefD) (q : Str × Str × Nat × Nat) : Bool := match defs[q.2.2.1]? with
  | none => false
  | some d => sEq d.at_.1 q.1 && (match d.at_.2 with | some m => sEq m "__init__" | none => false) && initC q.2.1 d && inS tb.excs q.1 && inS tb.excs q.2.1 && (match look p.ents q.2.2.2 with
    | some (i, []) => Nat.beq i q.2.2.1
    | _ => false)
def entM (p : Pg) (defs : List He.DefD) (x : Str) (n : Nat) : Bool := entC p defs x n && (match look p.ents n with
  | some (_, []) => true
  | _ => false)
def pgC (p : Pg) (tb : Tb) (defs : List He.DefD) : Bool :=
  tb.fnsM.all (fun q => entM p defs q.1 q.2) && tb.excsA.all (initE p tb defs) && Nat.beq p.fns.length defs.length && (p.fns.zip defs).all (fun q => isStk q.1.body || fnC tb q.1 q.2) && tb.fns.all (fun q => entC p defs q.1 q.2) && tb.globs.all (fun q => gOk (look p.globs q.2)) && tb.tups.all (fun q => (look p.tups q.2).isSome)

/-! ### the promises -/
section
variable {P : Program} {w : World} {K : PySem.W.Frag} {mg : Str → Option Value} {base : Heap}
theorem start_sim {H : Hp} {F : Addr → Prop} {vs : List V} {ds : List D} {N : List Str} (fo : FOk F H) (r : RepL K F H vs ds) : Sim K ⟨H, fun _ => false⟩ F H (start N vs) (startE N.length ds) := by
  have hl := r.length
  have noOwn : ∀ (i : Nat) (c : Cell), (startE N.length ds)[i]? ≠ some (Slot.own c) := fun i c e => by
    unfold startE at e
    rw [List.getElem?_append] at e
    split at e
    · rw [List.getElem?_map] at e
      cases h : ds[i]? with
      | none => rw [h] at e; cases e
      | some d => rw [h] at e; cases e
    · rw [List.getElem?_replicate] at e
      split at e <;> cases e
  refine ⟨?_, fun i d e => ?_, fun i c e => absurd e (noOwn i c), fun i j c c' a e => absurd e (noOwn i c), fun b z => z, fo⟩
  · unfold L2.start startE
    simp [hl]
  · unfold startE at e
    unfold L2.start
    rw [List.getElem?_append] at e ⊢
    rw [List.length_map] at e ⊢
    rw [hl]
    split at e
    · rename_i hi
      rw [if_pos hi]
      rw [List.getElem?_map] at e ⊢
      obtain ⟨d', hd, hd2⟩ := Option.map_eq_some_iff.mp e
      cases hd2
      obtain ⟨v, h1, h2⟩ := r.get' hd
      exact ⟨v, by rw [h1]; rfl, h2⟩
    · rw [List.getElem?_replicate] at e
      split at e <;> cases e
/-- what the entries need: their functions' binding -/
def BindsAll (p : Pg) (defs : List He.DefD) (K : PySem.W.Frag) : Prop := ∀ e ∈ p.ents, ∀ (d : He.DefD) (fd : FuncData), defs[e.2.1]? = some d → FunD K d.name d.qual d.params d.body d.scope (d.dvs K) (d.kws K) (He.fAd K d.at_) fd →
  ∃ (dvs : List V) (dus : List Value), Vals dvs dus ∧ Binds K fd (psOf d) dus ∧ ∀ F H, RepL K F H dvs e.2.2
theorem mem_fact {fa : List He.Fa} {fn : List He.DefD} (c : He.SaysD fa fn K) {f : He.Fa} (h : f ∈ fa) : f.ok K = true := by
  have c1 := (He.ba (show ((fa.all fun f => f.ok K) && fn.all fun d => d.ok K) = true from congrArg (fun z : He.AlD => z.1) c)).1
  exact List.all_eq_true.mp c1 f h
theorem ex_parts {p : Pg} {tb : Tb} (h : exOf p tb K = true) : (tb.tups.all fun q => tuC K q.1 ((look p.tups q.2).getD [])) = true ∧ (∀ c ∈ tb.excs, ExcF K (He.ga K c)) ∧ (∀ c ∈ tb.excs0, PySem.W.excIn K (He.ga K c) PySem.HandSPX.veTail "ValueError.__new__" = true) ∧ SubOk K (subOf p.excs) := by
  obtain ⟨h, _⟩ := an h
  obtain ⟨h, h4⟩ := an h
  obtain ⟨h, h3⟩ := an h
  obtain ⟨h1, h2⟩ := an h
  refine ⟨h1, fun c hc => excFB_ok (List.all_eq_true.mp h2 c hc), fun c hc => List.all_eq_true.mp h3 c hc, fun y c t e => ?_⟩
  have anc : ∀ {l : List (Str × List Str)} {as : List Str}, ancOf l y = some as → (y, as) ∈ l := fun {l as} => by
    induction l with
    | nil => exact fun z => nomatch z
    | cons q r ih =>
      obtain ⟨x, bs⟩ := q
      intro z
      unfold ancOf at z
      split at z
      · rename_i hx
        cases z
        rw [sEq_iff.mp hx]
        exact List.mem_cons_self
      · exact List.mem_cons_of_mem _ (ih z)
  unfold subOf at e
  split at e
  · cases e
  · rename_i as ha
    have hm := List.all_eq_true.mp h4 _ (anc ha)
    obtain ⟨hm, g3⟩ := an hm
    obtain ⟨g1, g2⟩ := an hm
    refine ⟨excFB_ok g1, ?_⟩
    split at e
    · rename_i hv
      cases e
      rw [sEq_iff.mp hv]
      exact ⟨of_decide_eq_true g2, fun z => absurd rfl z⟩
    · split at e
      · rename_i hv hi
        cases e
        obtain ⟨q, hq, hqc⟩ := List.mem_map.mp (inS_ok hi)
        have g4 := List.all_eq_true.mp g3 q hq
        obtain ⟨g5, g6⟩ := an g4
        rw [hqc] at g5 g6
        exact ⟨of_decide_eq_true g5, fun _ => of_decide_eq_true g6⟩
      · cases e
theorem tup_fact {p : Pg} {tb : Tb} {defs : List He.DefD} {h : Heap} (hc5 : tb.tups.all (fun q => (look p.tups q.2).isSome) = true) (c : He.SaysD (faOf p tb) defs K) (hx : exOf p tb K = true) (X : K.In h) (Gm : h.Ns mainGlobals mg) (q : Str × Nat) (hq : q ∈ tb.tups) :
    ∃ (a : Addr) (ys : List Str), mg q.1 = some (.ref a) ∧ look p.tups q.2 = some ys ∧ TupAt K a ys := by
  have h1 := List.all_eq_true.mp hc5 q hq
  have h2 := List.all_eq_true.mp (ex_parts hx).1 q hq
  cases hl : look p.tups q.2 with
  | none => rw [hl] at h1; cases h1
  | some ys =>
    rw [hl] at h2
    refine ⟨_, ys, He.glo_ok X Gm (mem_fact c (List.mem_append_right _ (List.mem_append_right _ (List.mem_append_right _ (List.mem_append_left _ (List.mem_map.mpr ⟨q, hq, rfl⟩)))))), rfl, tuC_ok h2⟩
theorem init_link {p : Pg} {tb : Tb} {defs : List He.DefD} {h : Heap} {Xc : Cx} (hc : tb.excsA.all (initE p tb defs) = true) (c : He.SaysD (faOf p tb) defs K) (hx : exOf p tb K = true) (X : K.In h) (Gm : h.Ns mainGlobals mg) (hB : BindsAll p defs K)
    (hr : Room 2 Xc.A) (q : Str × Str × Nat × Nat) (hq : q ∈ tb.excsA) (e1 : Xc.prog = P := by rfl) (e2 : Xc.w = w := by rfl) (e3 : Xc.K = K := by rfl) (e4 : Xc.mg = mg := by rfl) (e5 : Xc.base = base := by rfl) : InitOk Xc q.1 := by
  subst e1 e2 e3 e4 e5
  have h0 := List.all_eq_true.mp hc q hq
  have h1 := List.all_eq_true.mp (an hx).2 q hq
  obtain ⟨h1, g4⟩ := an h1
  obtain ⟨h1, g3⟩ := an h1
  obtain ⟨g1, g2⟩ := an h1
  unfold initE at h0
  cases hd : defs[q.2.2.1]? with
  | none => rw [hd] at h0; cases h0
  | some d =>
  rw [hd] at h0
  simp only at h0
  obtain ⟨h0, f6⟩ := an h0
  obtain ⟨h0, f5⟩ := an h0
  obtain ⟨h0, f4⟩ := an h0
  obtain ⟨h0, f3⟩ := an h0
  obtain ⟨f1, f2⟩ := an h0
  have hat : d.at_ = (q.1, some ("__init__" : Str)) := by
    obtain ⟨⟨a1, a2⟩, _, _, _, _, _, _, _⟩ := d
    cases a2 with
    | none => cases f2
    | some m =>
      have z1 := sEq_iff.mp f1
      have z2 := sEq_iff.mp f2
      simp only at z1 z2
      rw [z1, z2]
  unfold initC at f3
  obtain ⟨f3, b12⟩ := an f3
  obtain ⟨f3, b11⟩ := an f3
  obtain ⟨f3, b10⟩ := an f3
  obtain ⟨f3, b9⟩ := an f3
  obtain ⟨f3, b8⟩ := an f3
  obtain ⟨f3, b7⟩ := an f3
  obtain ⟨f3, b6⟩ := an f3
  obtain ⟨f3, b5⟩ := an f3
  obtain ⟨f3, b4⟩ := an f3
  obtain ⟨f3, b3⟩ := an f3
  obtain ⟨b1, b2⟩ := an f3
  have hps := eqS_ok b4
  have T := (ex_parts hx).2.1 q.1 (inS_ok f4)
  obtain ⟨fd, F⟩ := c.def_ q.2.2.1 hd
  have hbi : Binds Xc.K fd (psOf d) [] := by
    revert f6
    split
    · rename_i i hl
      intro f6
      cases Nat.eq_of_beq_eq_true f6
      obtain ⟨dvs, dus, hv, hb, hrep⟩ := hB (q.2.2.2, q.2.2.1, []) (look_mem hl) d fd hd F
      have z1 : dvs = [] := by have := hrep (fun _ => False) (fun _ => none); cases this; rfl
      subst z1
      cases hv
      exact hb
    · intro f6; cases f6
  rw [hps] at hbi
  have S : FnScope ["self", "at"] ["self", "at"] d.scope := by
    refine ⟨?_, nt b2, nt b3, nodupS_ok (by decide +kernel), rfl, fun x hx => ?_, fun y hy e => ?_⟩
    · unfold isFun at b1
      split at b1 <;> first | assumption | cases b1
    · rcases List.mem_cons.mp hx with rfl | hx
      · exact isTg_ok b5
      · rcases List.mem_cons.mp hx with rfl | hx
        · exact isTg_ok b6
        · cases hx
    · have := List.all_eq_true.mp b9 y hy
      rw [e] at this
      cases this
  have gw : Xc.mg q.2.1 = some (.ref (He.ga Xc.K q.2.1)) := He.glo_ok X Gm (mem_fact c (List.mem_append_right _ (List.mem_append_right _ (List.mem_append_right _ (List.mem_append_right _ (List.mem_map.mpr ⟨_, inS_ok f5, rfl⟩))))))
  rw [hat] at F
  exact ⟨He.fAd Xc.K (q.1, some ("__init__" : Str)), fd, oexB_ok g1, of_decide_eq_true g3, of_decide_eq_true g4, init_fn F S (isVis_ok b7) (isVis_ok b8) b10 b12 gw (okN_ok b11).1 (winB_ok g2) (oexB_ok g1) T.at_, hr, hbi⟩
/-- what a def may lean on: the others keep their promises -/
theorem ent_link {p : Pg} {tb : Tb} {defs : List He.DefD} {h : Heap} (c : He.SaysD (faOf p tb) defs K) (X : K.In h) (Gm : h.Ns mainGlobals mg) (hB : BindsAll p defs K) {q : Str × Nat} (hq : q ∈ tb.fns ++ tb.fnsM) (he : entC p defs q.1 q.2 = true) :
    ∃ (i' : Nat) (dd : List D) (d' : He.DefD) (fd' : FuncData) (dvs : List V) (dus : List Value), look p.ents q.2 = some (i', dd) ∧ defs[i']? = some d' ∧ FunD K d'.name d'.qual d'.params d'.body d'.scope (d'.dvs K) (d'.kws K) (He.fAd K d'.at_) fd' ∧ Vals dvs dus ∧ Binds K fd' (psOf d') dus ∧ (∀ F H, RepL K F H dvs dd) ∧ mg q.1 = some (.ref (He.fAd K d'.at_)) := by
  unfold entC at he
  cases h1 : look p.ents q.2 with
  | none => rw [h1] at he; cases he
  | some en =>
    obtain ⟨i', dd⟩ := en
    rw [h1] at he
    cases h2 : defs[i']? with
    | none => simp only [h2] at he; cases he
    | some d' =>
      simp only [h2] at he
      obtain ⟨he, he3⟩ := an he
      obtain ⟨he1, he2⟩ := an he
      obtain ⟨fd', F'⟩ := c.def_ i' h2
      obtain ⟨dvs, dus, hv, hb, hr'⟩ := hB (q.2, i', dd) (look_mem h1) d' fd' h2 F'
      have hat : He.fAd K d'.at_ = He.ga K q.1 := by
        obtain ⟨⟨a1, a2⟩, _, _, _, _, _, _, _⟩ := d'
        cases sEq_iff.mp he1
        cases a2 with
        | none => rfl
        | some _ => cases he2
      refine ⟨i', dd, d', fd', dvs, dus, rfl, h2, F', hv, hb, hr', ?_⟩
      rw [hat]
      exact He.glo_ok X Gm (mem_fact c (List.mem_append_left _ (List.mem_map.mpr ⟨q, hq, rfl⟩)))
theorem own_go {K : PySem.W.Frag} {H0 : Bs} {hh : Nat → Bool} {σ σ' : L2.St} {F0 F' : Addr → Prop} {H H' : Hp} {env env' : Nv} {O : Addr → Prop} (s : StpS K H0 hh σ F0 H env σ' F' H' env') (ho : ∀ b, Own σ env b → O b) (hn : ∀ b, O b → ¬ F' b) : Go O F0 H F' H' := by
  refine ⟨fun b o e no => s.keep b o e (fun z => no (ho b z)), s.stay, s.up, fun b z => ?_, fun k b z => s.sim.fro b z⟩
  rcases s.new b z with z1 | z1 | z1
  · exact .inl z1
  · exact .inr z1
  · exact absurd z (hn b (ho b z1))
theorem start_simM {H : Hp} {F : Addr → Prop} {xs : List V} {ds : List D} {N : List Str} {a : Addr} {c : Cell} {pin : Nat → Bool} (fo : FOk F H) (r : RepL K F H xs ds) (hc : CellAt K F H a c) (nF : ¬ F a) :
    Sim K ⟨L2.del H a, pin⟩ F H (start N (xs ++ [V.ref a])) (startM N.length ds c) ∧ (start N (xs ++ [V.ref a]))[ds.length]? = some (some (V.ref a)) ∧ ∀ b, Own (start N (xs ++ [V.ref a])) (startM N.length ds c) b → b = a := by
  have hl := r.length
  have es : ∀ {i : Nat} {s : Slot}, (startM N.length ds c)[i]? = some s → (∃ d, ds[i]? = some d ∧ s = .val d) ∨ (i = ds.length ∧ s = .own c) ∨ s = .emp := fun {i s} e => by
    unfold startM at e
    rw [List.getElem?_append, List.length_map] at e
    split at e
    · rw [List.getElem?_map] at e
      obtain ⟨d, h1, h2⟩ := Option.map_eq_some_iff.mp e
      exact .inl ⟨d, h1, h2.symm⟩
    · rename_i hi
      cases hj : i - ds.length with
      | zero =>
        rw [hj] at e
        cases e
        exact .inr (.inl ⟨by omega, rfl⟩)
      | succ m =>
        rw [hj, List.getElem?_cons_succ, List.getElem?_replicate] at e
        split at e
        · cases e; exact .inr (.inr rfl)
        · cases e
  have own1 : ∀ {i : Nat} {c1 : Cell}, (startM N.length ds c)[i]? = some (Slot.own c1) → i = ds.length ∧ c1 = c := fun {i c1} e => by
    rcases es e with ⟨d, _, z⟩ | ⟨h1, z⟩ | z
    · cases z
    · cases z; exact ⟨h1, rfl⟩
    · cases z
  have at_ : (start N (xs ++ [V.ref a]))[ds.length]? = some (some (V.ref a)) := by
    unfold L2.start
    rw [List.getElem?_append, List.length_map, List.length_append, List.length_singleton, hl, if_pos (by omega), List.getElem?_map, List.getElem?_append_right (by omega), hl, Nat.sub_self]; rfl
  refine ⟨⟨?_, fun i d e => ?_, fun i c1 e => ?_, fun i j c1 c2 b e1 e2 _ _ => (own1 e1).1.trans (own1 e2).1.symm, fun b z => ?_, fo⟩, at_, fun b ⟨i, c1, e1, e2⟩ => ?_⟩
  · unfold L2.start startM
    simp [hl]
  · rcases es e with ⟨d', h1, z⟩ | ⟨h1, z⟩ | z
    · cases z
      obtain ⟨v, g1, g2⟩ := r.get' h1
      refine ⟨v, ?_, g2⟩
      have hi : i < ds.length := (List.getElem?_eq_some_iff.mp h1).1
      unfold L2.start
      rw [List.getElem?_append, List.length_map, List.length_append, if_pos (by rw [hl]; omega), List.getElem?_map, List.getElem?_append_left (by omega), g1]; rfl
    · cases z
    · cases z
  · obtain ⟨rfl, rfl⟩ := own1 e
    exact ⟨a, at_, hc, nF, L2.del_same⟩
  · by_cases hb : b = a
    · subst hb; exact L2.del_same
    · exact (L2.del_ne hb).trans z
  · obtain ⟨rfl, rfl⟩ := own1 e1
    rw [at_] at e2
    cases e2
    rfl
theorem link2 {p : Pg} {tb : Tb} {defs : List He.DefD} {h : Heap} (hc : pgC p tb defs = true) (c : He.SaysD (faOf p tb) defs K) (hx : exOf p tb K = true) (X : K.In h) (Gm : h.Ns mainGlobals mg) (hB : BindsAll p defs K) :
    ∀ (k i : Nat) (d : He.DefD) (fd : FuncData), defs[i]? = some d → FunD K d.name d.qual d.params d.body d.scope (d.dvs K) (d.kws K) (He.fAd K d.at_) fd → FnOk P w K mg base (L2.CX P w) k (He.fAd K d.at_) fd (psOf d) (spI K (p.call k i)) ∧ FnOk P w K mg base (L2.CX P w) k (He.fAd K d.at_) fd (psOf d) (spM K (p.callM k i)) := by
  obtain ⟨hc, hc5⟩ := an hc
  obtain ⟨hc, hc4⟩ := an hc
  obtain ⟨hc, hc3⟩ := an hc
  obtain ⟨hc, hc2⟩ := an hc
  obtain ⟨hc0, hc1⟩ := an hc
  obtain ⟨hcM, hc0⟩ := an hc0
  have hlen := Nat.eq_of_beq_eq_true hc1
  have vac : ∀ (k i : Nat) (d : He.DefD) (fd : FuncData), (∀ ds, p.call k i ds = .stuck) → (∀ ds c, p.callM k i ds c = .stuck) → FnOk P w K mg base (L2.CX P w) k (He.fAd K d.at_) fd (psOf d) (spI K (p.call k i)) ∧ FnOk P w K mg base (L2.CX P w) k (He.fAd K d.at_) fd (psOf d) (spM K (p.callM k i)) := fun k i d fd h1 h2 => by
    refine ⟨⟨fun vs H Q E q => ?_, fun A outer s H args us vs Q E _ _ _ _ q => ?_⟩, fun vs H Q E q => ?_, fun A outer s H args us vs Q E _ _ _ _ q => ?_⟩
    · obtain ⟨F0, ds, _, _, q⟩ := q; rw [h1] at q; exact q.elim
    · obtain ⟨F0, ds, _, _, q⟩ := q; rw [h1] at q; exact q.elim
    · obtain ⟨F0, ds, c0, xs, a, _, _, _, _, _, q⟩ := q; rw [h2] at q; exact q.elim
    · obtain ⟨F0, ds, c0, xs, a, _, _, _, _, _, q⟩ := q; rw [h2] at q; exact q.elim
  intro k
  induction k with
  | zero => exact fun i d fd hd F => vac 0 i d fd (fun _ => rfl) (fun _ _ => rfl)
  | succ k ih =>
    intro i d fd hd F
    obtain ⟨f, hf⟩ : ∃ f, p.fns[i]? = some f := by
      have hi : i < defs.length := (List.getElem?_eq_some_iff.mp hd).1
      exact ⟨p.fns[i]'(by omega), by simp [show i < p.fns.length by omega]⟩
    have hfo : (isStk f.body || fnC tb f d) = true := by
      have hz : (p.fns.zip defs)[i]? = some (f, d) := by
        rw [List.getElem?_zip_eq_some]; exact ⟨hf, hd⟩
      exact List.all_eq_true.mp hc2 _ (List.mem_of_getElem? hz)
    have hcall : ∀ ds, p.call (k + 1) i ds = if ds.length = f.np then fin (evS (p.cx k) f.body (startE f.N.length ds)) else .stuck := fun ds => by rw [Pg.call_succ, hf]
    have hcallM : ∀ ds c, p.callM (k + 1) i ds c = if f.io = true ∧ ds.length + 1 = f.np then finM ds.length (evS (p.cx k) f.body (startM f.N.length ds c)) else .stuck := fun ds c => by rw [Pg.callM_succ, hf]
    by_cases hstk : isStk f.body = true
    · have hb : f.body = .stk := by
        cases hbb : f.body <;> first | rfl | (rw [hbb] at hstk; cases hstk)
      refine vac (k + 1) i d fd (fun ds => ?_) fun ds c => ?_
      · rw [hcall, hb, evS_stk]
        split <;> rfl
      · rw [hcallM, hb, evS_stk]
        split <;> rfl
    have hfc : fnC tb f d = true := by
      rcases Bool.or_eq_true_iff.mp hfo with z | z
      · exact absurd z hstk
      · exact z
    obtain ⟨S, hnp, hck⟩ := fnC_scope hfc
    have body : ∀ (cdv : Value) (A : Around) (outer : List PySem.Env) (s : Shared) (H : Hp) (E : XK) (hr : Room k (A.deeper (envOfC d.qual d.scope s.heap.objs.size (He.fAd K d.at_) cdv))) (B : Bs), (∀ i, B.pin i = true → (tb.of f).pin = some i) →
        PSs (cxOf (L2.CX P w) P w K mg base f.N d.qual d.scope (He.fAd K d.at_) cdv A outer s H E) d.body (TS K ⟨B, fun c d _ H' => E c d H', p.cx k⟩ f.body) := fun cdv A outer s H E hr B hpin => by
      refine ckS_ok (tb.of f) d.scope f.body _ hck (cxOf (L2.CX P w) P w K mg base f.N d.qual d.scope (He.fAd K d.at_) cdv A outer s H E) ⟨B, fun c d _ H' => E c d H', p.cx k⟩ ?_ (passes_of rfl) (fun _ => rfl) rfl rfl
      refine ⟨rfl, S.kind, rfl, S.nd, fun _ => rfl, ?_, takes_of rfl rfl rfl rfl, fun x hx => ?_, fun q hq => tup_fact hc5 c hx X Gm q hq, fun q hq => ?_, fun _ q hq => ?_, (ex_parts hx).2.2.2, fun y hy => ⟨?_, (ex_parts hx).2.1 y hy⟩, (ex_parts hx).2.2.1, fun _ q hq => ?_, hpin, fun _ hdp q hq => init_link hc0 c hx X Gm hB (by
          have hk2 : 2 ≤ k := Nat.ble_eq.mp hdp
          exact hr.mono hk2) q hq⟩
      · have := hr.un
        show (A.deeper _).units + 66 < cLine
        omega
      · exact He.free_ok X Gm (mem_fact c (List.mem_append_right _ (List.mem_append_left _ (List.mem_map.mpr ⟨x, hx, rfl⟩))))
      · have hg := List.all_eq_true.mp hc4 q hq
        have hfact : (gFa q.1 ((look p.globs q.2).getD .non)).ok K = true := mem_fact c (List.mem_append_right _ (List.mem_append_right _ (List.mem_append_left _ (List.mem_map.mpr ⟨q, hq, rfl⟩))))
        cases hq2 : look p.globs q.2 with
        | none => rw [hq2] at hg; cases hg
        | some dg =>
          rw [hq2] at hg
          have e1 : (look p.globs q.2).getD .non = dg := by rw [hq2]; rfl
          rw [e1] at hfact
          cases dg <;> first | (cases hg; done) | skip
          · rename_i j
            obtain ⟨t, ht⟩ := He.int_ok X Gm hfact
            refine ⟨.int j, _, ht, ⟨t, rfl⟩, fun d hd F H => ?_⟩
            have hd : look p.globs q.2 = some d := hd
            rw [hq2] at hd; cases hd
            exact .int j
          · rename_i z
            obtain ⟨t, ht⟩ := He.str_ok X Gm hfact
            refine ⟨.str z, _, ht, ⟨t, rfl⟩, fun d hd F H => ?_⟩
            have hd : look p.globs q.2 = some d := hd
            rw [hq2] at hd; cases hd
            exact .str hg
      · obtain ⟨i', dd, d', fd', dvs, dus, h1, h2, F', hv, hb, hr', hm⟩ := ent_link c X Gm hB (List.mem_append_left _ hq) (List.all_eq_true.mp hc3 q hq)
        refine ⟨k, He.fAd K d'.at_, fd', psOf d', p.call k i', dd, dvs, dus, (ih i' d' fd' h2 F').1, hr, hm, F'.kp, hb, hv, fun ds => ?_, hr'⟩
        show (match look p.ents q.2 with | some q => p.call k q.1 (ds ++ q.2) | none => .stuck) = _
        rw [h1]
      · exact He.glo_ok X Gm (mem_fact c (List.mem_append_right _ (List.mem_append_right _ (List.mem_append_right _ (List.mem_append_right _ (List.mem_map.mpr ⟨y, hy, rfl⟩))))))
      · obtain ⟨hm1, hm2⟩ := an (List.all_eq_true.mp hcM q hq)
        obtain ⟨i', dd, d', fd', dvs, dus, h1, h2, F', hv, hb, hr', hm⟩ := ent_link c X Gm hB (List.mem_append_right _ hq) hm1
        rw [h1] at hm2
        have hdd : dd = [] := by
          cases dd with
          | nil => rfl
          | cons _ _ => cases hm2
        subst hdd
        have z1 : dvs = [] := by have := hr' (fun _ => False) (fun _ => none); cases this; rfl
        subst z1
        cases hv
        refine ⟨k, He.fAd K d'.at_, fd', psOf d', p.callM k i', (ih i' d' fd' h2 F').2, hr, hm, F'.kp, hb, fun ds c0 => ?_, p.callM_nox k i'⟩
        show (match look p.ents q.2 with | some q => p.callM k q.1 ds c0 | none => .stuck) = _
        rw [h1]
    constructor
    · refine F.ok S (fun vs H Q E q => ?_) (fun cdv A outer s H vs Q E hr q => ⟨_, body cdv A outer s H E hr ⟨H, fun _ => false⟩ (fun _ z => nomatch z), ?_⟩)
      · obtain ⟨F0, ds, fo, r, q⟩ := q
        rw [hcall] at q
        by_cases hl : ds.length = f.np
        · rw [r.length, hl, hnp]
        · rw [if_neg hl] at q; exact q.elim
      · obtain ⟨F0, ds, fo, r, q⟩ := q
        rw [hcall] at q
        by_cases hl : ds.length = f.np
        · rw [if_pos hl] at q
          refine ⟨F0, startE f.N.length ds, start_sim fo r, ?_⟩
          have noOwn : ∀ b, ¬ Own (start f.N vs) (startE f.N.length ds) b := fun b ⟨i, c, e, _⟩ => by
            unfold startE at e
            rw [List.getElem?_append] at e
            split at e
            · rw [List.getElem?_map] at e
              cases h : ds[i]? with
              | none => rw [h] at e; cases e
              | some d => rw [h] at e; cases e
            · rw [List.getElem?_replicate] at e
              split at e <;> cases e
          have go : ∀ {hh : Nat → Bool} {σ' : L2.St} {F' : Addr → Prop} {H' : Hp} {env' : Nv}, StpS K ⟨H, fun _ => false⟩ hh (start f.N vs) F0 H (startE f.N.length ds) σ' F' H' env' → Go noO F0 H F' H' := fun s => own_go s (fun b z => (noOwn b z).elim) fun b z => z.elim
          show PostS K ⟨⟨H, fun _ => false⟩, fun c d _ H' => E c d H', p.cx k⟩ _ _ F0 H _ _ (evS (p.cx k) f.body (startE f.N.length ds))
          cases ev : evS (p.cx k) f.body (startE f.N.length ds) with
          | stuck => rw [ev] at q; exact q.elim
          | exc x => rw [ev] at q; exact fun σ' F' env' c d H' s hx => q F' c d H' (go s) hx
          | ok fe =>
            obtain ⟨fl, env'⟩ := fe
            rw [ev] at q
            cases fl with
            | next => exact fun σ' F' H' s => q F' .non H' (go s) .non
            | ret rr =>
              cases rr with
              | val d => exact fun σ' F' H' v s hv => q F' v H' (go s) hv
              | new c => exact fun σ' F' H' v s hv => q F' v H' (go s) hv
              | ref i => exact q.elim
        · rw [if_neg hl] at q; exact q.elim
    · refine F.ok S (fun vs H Q E q => ?_) (fun cdv A outer s H vs Q E hr q => ?_)
      · obtain ⟨F0, ds, c0, xs, a, fo, rfl, r, g1, g2, q⟩ := q
        rw [hcallM] at q
        by_cases hl : f.io = true ∧ ds.length + 1 = f.np
        · rw [List.length_append, r.length, List.length_singleton, hl.2, hnp]
        · rw [if_neg hl] at q; exact q.elim
      · obtain ⟨F0, ds, c0, xs, a, fo, rfl, r, g1, g2, q⟩ := q
        rw [hcallM] at q
        by_cases hl : f.io = true ∧ ds.length + 1 = f.np
        case neg => rw [if_neg hl] at q; exact q.elim
        rw [if_pos hl] at q
        obtain ⟨S0, at_, own_⟩ := start_simM (N := f.N) (pin := fun j => decide (j = ds.length)) fo r g1 g2
        refine ⟨_, body cdv A outer s H E hr ⟨L2.del H a, fun j => decide (j = ds.length)⟩ (fun j z => ?_), F0, startM f.N.length ds c0, S0, ?_⟩
        · have hj : j = ds.length := of_decide_eq_true z
          show (if f.io = true then some (f.np - 1) else none) = some j
          rw [if_pos hl.1, hj]
          congr 1
          omega
        · show PostS K ⟨⟨L2.del H a, fun j => decide (j = ds.length)⟩, fun c d _ H' => E c d H', p.cx k⟩ _ _ F0 H _ _ (evS (p.cx k) f.body (startM f.N.length ds c0))
          have fin_ : ∀ {hh : Nat → Bool} {σ' : L2.St} {F' : Addr → Prop} {H' : Hp} {env' : Nv} {c' : Cell}, StpS K ⟨L2.del H a, fun j => decide (j = ds.length)⟩ hh (start f.N (xs ++ [V.ref a])) F0 H (startM f.N.length ds c0) σ' F' H' env' → ownAt env' ds.length = some c' → σ'[ds.length]? = some (some (V.ref a)) ∧ Go (fun b => b = a) F0 H F' H' ∧ CellAt K F' H' a c' ∧ ¬ F' a := fun {hh σ' F' H' env' c'} s e => by
            have e1 : env'[ds.length]? = some (.own c') := by
              unfold ownAt at e
              split at e
              · rename_i c1 h1; cases e; exact h1
              · cases e
            obtain ⟨a', k1, k2, k3, _⟩ := s.sim.own _ _ e1
            have k4 := s.pin ds.length (decide_eq_true rfl)
            have k5 : σ'[ds.length]? = some (some (V.ref a)) := k4.trans at_
            rw [k5] at k1
            cases k1
            exact ⟨k5, own_go s own_ (fun b z => by subst z; exact k3), k2, k3⟩
          cases ev : evS (p.cx k) f.body (startM f.N.length ds c0) with
          | stuck => rw [ev] at q; exact q.elim
          | exc x => rw [ev] at q; exact q.elim
          | ok fe =>
            obtain ⟨fl, env'⟩ := fe
            rw [ev] at q
            cases fl with
            | next =>
              cases ho : ownAt env' ds.length with
              | none => simp only [finM, ho] at q; exact q.elim
              | some c' =>
                simp only [finM, ho] at q
                intro σ' F' H' s
                obtain ⟨_, z1, z2, z3⟩ := fin_ s ho
                exact q F' .non H' z1 z2 z3 .non
            | ret rr =>
              cases rr with
              | val d =>
                cases ho : ownAt env' ds.length with
                | none => simp only [finM, ho] at q; exact q.elim
                | some c' =>
                  simp only [finM, ho] at q
                  intro σ' F' H' v s hv
                  obtain ⟨_, z1, z2, z3⟩ := fin_ s ho
                  exact q F' v H' z1 z2 z3 hv
              | new c => exact q.elim
              | ref i =>
                by_cases hi : i = ds.length
                case neg => simp only [finM, if_neg hi] at q
                subst hi
                cases ho : ownAt env' ds.length with
                | none => simp only [finM, if_true, ho] at q; exact q.elim
                | some c' =>
                  simp only [finM, if_true, ho] at q
                  intro σ' F' H' v s hv
                  obtain ⟨z0, z1, z2, z3⟩ := fin_ s ho
                  obtain ⟨a1, rfl, h2⟩ := hv (decide_eq_true rfl)
                  rw [z0] at h2
                  cases h2
                  exact q F' _ H' z1 z2 z3 rfl
theorem link {p : Pg} {tb : Tb} {defs : List He.DefD} {h : Heap} (hc : pgC p tb defs = true) (c : He.SaysD (faOf p tb) defs K) (hx : exOf p tb K = true) (X : K.In h) (Gm : h.Ns mainGlobals mg) (hB : BindsAll p defs K) :
    ∀ (k i : Nat) (d : He.DefD) (fd : FuncData), defs[i]? = some d → FunD K d.name d.qual d.params d.body d.scope (d.dvs K) (d.kws K) (He.fAd K d.at_) fd → FnOk P w K mg base (L2.CX P w) k (He.fAd K d.at_) fd (psOf d) (spI K (p.call k i)) := fun k i d fd h1 h2 => (link2 hc c hx X Gm hB k i d fd h1 h2).1
end
end PyI

end
section
set_option autoImplicit false
/-! PyS: the end of a law. -/
namespace PyI
open PySem PySem.Spec PyProof.Rows L2 RZ RT

/-- as walk_ofE, the exceptions' wish by the world -/
theorem walk_ofW {l : PySem.W.OpenLaw} {n k : Nat} {q : Program} {loose : List Str} {XP : (Str → Option Value) → Heap → Prop} {YP : World → Heap → Prop} {d : DefRec} {CX : World → CXT} {x : Str}
    (hn : l.most = some n) (hn2 : n ≤ sizeLine) (hdf : d.params.defaults = []) (hr : Room k callerA)
    (F : ∀ (w : World) (mg : Str → Option Value) (fa : Addr) (h : Heap), YP w h → h.Ns mainGlobals mg → mg d.name = some (.ref fa) →
      ∃ (K : PySem.W.Frag) (fd : FuncData) (sp : Sp), K.In h ∧ (∀ (s : Shared) (u : Value), BindsTo s fd ⟨[u], []⟩ [(x, u)]) ∧
        (∀ (H : Hp) (a : Addr) (ns : List Int), ns.length ≤ n → (∀ m ∈ ns, Builtin.Int.intBits m ≤ 1048576) → Only H → SqL K H a (ns.map V.int) → sp [.ref a] H (fun v _ => v = .bl true) fun _ _ _ => False) ∧
        ∀ base : Heap, K.In base → base.Ns mainGlobals mg → FnOk l.prog w K mg base (CX w) k fa fd [x] sp)
    (hCX : ∀ (w : World) (H : Hp) (s : Shared) (e : Value) (s' : Shared), CX w [] H s (fun _ _ _ => False) e s' → False) :
    PySem.W.WalkO q loose XP YP l.row.toRowW d [] (fun f vs => PySem.call f vs) := by
  refine Att.attach_callB hn hdf fun w s₀ s₁ mg mb fa o pm cd doc a vs ns G Y ho hd hcd hmg hobj hints hlen hbits hg => ?_
  obtain ⟨K, fd, sp, KX, hb, hsp, hF⟩ := F w mg fa _ Y G.T.g hmg
  exact law_call KX G.T.g G.T.b G.T.builtins G.T.nolimit hg hobj hints (Nat.le_trans hlen hn2) hr hF hb (fun H hO hS => hsp H a ns hlen hbits hO hS) fun H e s' => hCX w H s₁ e s'
/-- the bits of a script's number -/
def bitsB : Nat := 1048576
theorem bits_ok {m : Int} (h : Builtin.Int.intBits m ≤ 1048576) : m.natAbs < 2 ^ bitsB := by
  unfold Builtin.Int.intBits at h
  unfold bitsB
  split at h
  · rename_i e
    have e := eq_of_beq e
    subst e
    exact Nat.two_pow_pos _
  · exact Nat.lt_of_lt_of_le Nat.lt_log2_self (Nat.pow_le_pow_right (by decide) h)
theorem ints_rep {K : PySem.W.Frag} {F : Addr → Prop} {H : Hp} : ∀ ns : List Int, RepL K F H (ns.map V.int) (ns.map D.int)
  | [] => .nil
  | n :: ns => .cons (.int n) (ints_rep ns)
theorem law_walk {l : PySem.W.OpenLaw} {q : Program} {loose : List Str} {XP : (Str → Option Value) → Heap → Prop} {d : DefRec} {x : Str} {p : Pg} {tb : Tb} {defs : List He.DefD} {i k m n : Nat} {dd : He.DefD}
    (hn : l.most = some 63) (hdf : d.params.defaults = []) (hr : Room k callerA) (hc : pgC p tb defs = true) (hB : ∀ K, BindsAll p defs K) (hd : defs[i]? = some dd) (hat : dd.at_ = (d.name, none)) (hps : psOf dd = [x]) (hin : tb.fns[m]? = some (d.name, n))
    (hb : ∀ (K : PySem.W.Frag) (fd : FuncData), FunD K dd.name dd.qual dd.params dd.body dd.scope (dd.dvs K) (dd.kws K) (He.fAd K dd.at_) fd → ∀ (s : Shared) (u : Value), BindsTo s fd ⟨[u], []⟩ [(x, u)])
    (plain : ∀ ns : List Int, ns.length ≤ 63 → (∀ m ∈ ns, m.natAbs < 2 ^ bitsB) → p.call k i [.lst (ns.map D.int)] = .ok (.val (.bl true))) :
    PySem.W.WalkO q loose XP (hookM 4 (faOf p tb) defs (exOf p tb)).says l.row.toRowW d [] (fun f vs => PySem.call f vs) := by
  refine walk_ofW (k := k) (x := x) (CX := fun w => L2.CX l.prog w) hn (by rw [sizeLine_eq]; decide) hdf hr (fun w mg fa h Y G hmg => ?_) (fun w H s e s' z => ?_)
  · obtain ⟨K, KX, c, hex⟩ := Y
    obtain ⟨fd, F⟩ := c.def_ i hd
    have e : fa = He.fAd K dd.at_ := by
      have g := He.glo_ok KX G (mem_fact c (List.mem_append_left _ (List.mem_map.mpr ⟨_, List.mem_append_left _ (List.mem_of_getElem? hin), rfl⟩)))
      have g2 := hmg.symm.trans g
      cases g2
      rw [hat]; rfl
    subst e
    refine ⟨K, fd, spI K (p.call k i), KX, hb K fd F, fun H a ns hl hb2 _ hS => ?_, fun base hKb hGb => ?_⟩
    · refine ⟨fun b => b = a ∧ H a ≠ none, [.lst (ns.map D.int)], fun b z => by rw [z.1]; exact z.2, .cons (.lst ?_ (ints_rep ns)) .nil, ?_⟩
      · rcases hS with (hS | hS) | hS
        · exact .inl ⟨hS, rfl, by rw [hS]; exact fun z => nomatch z⟩
        · exact .inr (.inl hS)
        · exact .inr (.inr hS)
      · rw [plain ns hl fun m hm => bits_ok (hb2 m hm)]
        intro F' v H' _ hv
        cases (show Rep K F' H' v (.bl true) from hv)
        rfl
    · have := link (P := l.prog) (w := w) (base := base) hc c hex KX G (hB K) k i dd fd hd F
      rw [hps] at this
      exact this
  · obtain ⟨_, _, _, _, _, _, _, _, _, _, _, _, z⟩ := z
    exact z
end PyI

end
section
set_option autoImplicit false
/-! PyT: to compute with the evaluator: rules for simp; loops. -/
namespace PyI
open PySem PySem.Spec PyProof.Rows L2 RZ RT

section
variable {cx : Cxt} {env e1 : Nv} {i : Nat} {d : D} {c : Cell} {a b : I}
@[simp] theorem get_val (d : D) : Res.get env (.val d) = some d := rfl
@[simp] theorem get_new (c : Cell) : Res.get env (.new c) = some c.d := rfl
@[simp] theorem get_ref' (i : Nat) : Res.get env (.ref i) = match env[i]? with
    | some (.own c) => some c.d
    | _ => none := rfl
@[simp] theorem out_ref' (i : Nat) : Res.out env (.ref i) = match env[i]? with
    | some (.own c) => some (.new c)
    | _ => none := rfl
theorem get_ref (h : env[i]? = some (Slot.own c)) : Res.get env (.ref i) = some c.d := by simp [Res.get, h]
@[simp] theorem cell_lst (ds : List D) : (Cell.lst ds).d = .lst ds := rfl
@[simp] theorem cell_dK (kvs : List (Key × D)) : (Cell.dK kvs).d = .dK (kvs.map (·.1)) (kvs.map (·.2)) := rfl
@[simp] theorem cell_dT (kvs : List (List Key × D)) : (Cell.dT kvs).d = .dT (kvs.map (·.1)) (kvs.map (·.2)) := rfl
@[simp] theorem out_val (d : D) : Res.out env (.val d) = some (.val d) := rfl
@[simp] theorem out_new (c : Cell) : Res.out env (.new c) = some (.new c) := rfl
@[simp] theorem bool_bl' (b : Bool) : Res.bool (.val (.bl b)) = some b := rfl
@[simp] theorem slot_val (d : D) : slotOf (.val d) = some (.val d) := rfl
@[simp] theorem slot_new (c : Cell) : slotOf (.new c) = some (.own c) := rfl
@[simp] theorem noRef_nil : noRef [] = some [] := rfl
@[simp] theorem noRef_val (d : D) (rs : List Res) : noRef (.val d :: rs) = (noRef rs).map (d :: ·) := rfl
@[simp] theorem noRef_new (c : Cell) (rs : List Res) : noRef (.new c :: rs) = (noRef rs).map (c.d :: ·) := rfl
@[simp] theorem deref_nil : deref env [] = some [] := rfl
@[simp] theorem deref_val (d : D) (rs : List Res) : deref env (.val d :: rs) = (deref env rs).map (d :: ·) := by
  show (do let x ← some d; let xs ← deref env rs; some (x :: xs)) = _
  cases deref env rs <;> rfl
@[simp] theorem deref_new (c : Cell) (rs : List Res) : deref env (.new c :: rs) = (deref env rs).map (c.d :: ·) := by
  show (do let x ← some c.d; let xs ← deref env rs; some (x :: xs)) = _
  cases deref env rs <;> rfl
@[simp] theorem deref_ref (i : Nat) (rs : List Res) : deref env (.ref i :: rs) = (Res.get env (.ref i)).bind fun d => (deref env rs).map (d :: ·) := by
  show (do let x ← Res.get env (.ref i); let xs ← deref env rs; some (x :: xs)) = _
  cases Res.get env (.ref i) with
  | none => rfl
  | some d => cases deref env rs <;> rfl
@[simp] theorem lent_val (rs : List Res) (d : D) : lent rs (.ok (.val d)) = if !anyRef rs || d.solid then .ok (.val d) else .stuck := rfl
@[simp] theorem lent_new (rs : List Res) (c : Cell) : lent rs (.ok (.new c)) = if !anyRef rs || c.solid then .ok (.new c) else .stuck := rfl
@[simp] theorem lent_exc (rs : List Res) (x : Exn) : lent rs (.exc x) = .exc x := rfl
@[simp] theorem anyRef_nil : anyRef [] = false := rfl
@[simp] theorem anyRef_val (d : D) (rs : List Res) : anyRef (.val d :: rs) = anyRef rs := rfl
@[simp] theorem anyRef_new (c : Cell) (rs : List Res) : anyRef (.new c :: rs) = anyRef rs := rfl
@[simp] theorem anyRef_ref (i : Nat) (rs : List Res) : anyRef (.ref i :: rs) = true := rfl
@[simp] theorem solid_int (i : Int) : (D.int i).solid = true := rfl
@[simp] theorem solid_str (x : Str) : (D.str x).solid = true := rfl
@[simp] theorem solid_bl (x : Bool) : (D.bl x).solid = true := rfl
@[simp] theorem solid_non : D.non.solid = true := rfl
@[simp] theorem solid_tup (ds : List D) : (D.tup ds).solid = D.solidL ds := by unfold D.solid; rfl
@[simp] theorem solidL_nil : D.solidL [] = true := by unfold D.solidL; rfl
@[simp] theorem solidL_cons (d : D) (ds : List D) : D.solidL (d :: ds) = (d.solid && D.solidL ds) := by rw [D.solidL]
@[simp] theorem refsOf_nil : refsOf [] = [] := rfl
@[simp] theorem refsOf_val (d : D) (rs : List Res) : refsOf (.val d :: rs) = refsOf rs := rfl
@[simp] theorem refsOf_new (c : Cell) (rs : List Res) : refsOf (.new c :: rs) = refsOf rs := rfl
@[simp] theorem refsOf_ref (i : Nat) (rs : List Res) : refsOf (.ref i :: rs) = i :: refsOf rs := rfl
@[simp] theorem fin_retv (d : D) (e : Nv) : fin (.ok (.ret (.val d), e)) = .ok (.val d) := rfl
@[simp] theorem fin_retn (c : Cell) (e : Nv) : fin (.ok (.ret (.new c), e)) = .ok (.new c) := rfl
@[simp] theorem fin_next (e : Nv) : fin (.ok (.next, e)) = .ok (.val .non) := rfl
@[simp] theorem fin_exc (x : Exn) : fin (.exc x) = .exc x := rfl
@[simp] theorem fin_stuck : fin .stuck = .stuck := rfl

/-! ### expressions -/
@[simp] theorem ev_var (h : Nat) : evE cx (.var h) env = match env[h]? with
    | some (.val d) => .ok (.val d, env)
    | some (.own _) => .ok (.ref h, env)
    | _ => .stuck := by rw [evE] <;> rfl
@[simp] theorem ev_kI (k : Int) : evE cx (.kI k) env = .ok (.val (.int k), env) := by rw [evE]
@[simp] theorem ev_kS (k : Str) : evE cx (.kS k) env = .ok (.val (.str k), env) := by rw [evE]
@[simp] theorem ev_kB (k : Bool) : evE cx (.kB k) env = .ok (.val (.bl k), env) := by rw [evE]
@[simp] theorem ev_kN : evE cx .kN env = .ok (.val .non, env) := by rw [evE]
@[simp] theorem ev_glob (n : Nat) : evE cx (.glob n) env = (Out.of (cx.glob n)).bind fun d => .ok (.val d, env) := by rw [evE]
@[simp] theorem ev_bin (o : BOp) : evE cx (.bin o a b) env = (evE cx a env).bind fun ra => (evE cx b ra.2).bind fun rb =>
      (Out.of (ra.1.get rb.2)).bind fun x => (Out.of (rb.1.get rb.2)).bind fun y => (opBin o x y).bind fun r => .ok (r, rb.2) := by rw [evE]
@[simp] theorem ev_neg : evE cx (.neg a) env = (evE cx a env).bind fun ra => (Out.of (ra.1.get ra.2)).bind fun x => (opNeg x).bind fun r => .ok (.val r, ra.2) := by rw [evE]
@[simp] theorem ev_not : evE cx (.not_ a) env = (evE cx a env).bind fun ra => (Out.of ra.1.bool).bind fun b => .ok (.val (.bl (!b)), ra.2) := by rw [evE]
@[simp] theorem ev_cmp (o : COp) : evE cx (.cmp o a b) env = (evE cx a env).bind fun ra => (evE cx b ra.2).bind fun rb =>
      (Out.of (ra.1.get rb.2)).bind fun x => (Out.of (rb.1.get rb.2)).bind fun y => (opCmp o x y).bind fun r => .ok (.val (.bl r), rb.2) := by rw [evE]
@[simp] theorem ev_cmp2 (o1 o2 : COp) (c : I) : evE cx (.cmp2 o1 o2 a b c) env = (evE cx a env).bind fun ra => (evE cx b ra.2).bind fun rb =>
      (Out.of (ra.1.get rb.2)).bind fun x => (Out.of (rb.1.get rb.2)).bind fun y => (opCmp o1 x y).bind fun t => match t with
        | false => .ok (.val (.bl false), rb.2)
        | true => (evE cx c rb.2).bind fun rc => (Out.of (rb.1.get rc.2)).bind fun y => (Out.of (rc.1.get rc.2)).bind fun z => (opCmp o2 y z).bind fun r => .ok (.val (.bl r), rc.2) := by rw [evE] <;> rfl
@[simp] theorem ev_and : evE cx (.and_ a b) env = (evE cx a env).bind fun ra => (Out.of ra.1.bool).bind fun t => match t with
      | false => .ok (.val (.bl false), ra.2)
      | true => evE cx b ra.2 := by rw [evE] <;> rfl
@[simp] theorem ev_or : evE cx (.or_ a b) env = (evE cx a env).bind fun ra => (Out.of ra.1.bool).bind fun t => match t with
      | true => .ok (.val (.bl true), ra.2)
      | false => evE cx b ra.2 := by rw [evE] <;> rfl
@[simp] theorem ev_tup : evE cx (.tup a) env = (evA cx a env).bind fun r => (Out.of (noRef r.1)).bind fun ds => if ds.length ≤ 16777216 then .ok (.val (.tup ds), r.2) else .stuck := by rw [evE]
@[simp] theorem ev_lst : evE cx (.lst a) env = (evA cx a env).bind fun r => (Out.of (noRef r.1)).bind fun ds => if ds.length ≤ 16777216 then .ok (.new (.lst ds), r.2) else .stuck := by rw [evE]
@[simp] theorem ev_dk0 : evE cx .dk0 env = .ok (.new (.dK []), env) := by rw [evE]
@[simp] theorem ev_dt0 : evE cx .dt0 env = .ok (.new (.dT []), env) := by rw [evE]
@[simp] theorem ev_idx : evE cx (.idx a b) env = (evE cx a env).bind fun ra => (evE cx b ra.2).bind fun rb =>
      (Out.of (ra.1.get rb.2)).bind fun x => (Out.of (rb.1.get rb.2)).bind fun y => (opIdx x y).bind fun r => .ok (.val r, rb.2) := by rw [evE]
@[simp] theorem ev_sl (l h : I) : evE cx (.sl a l h) env = (evE cx a env).bind fun ra => (evP cx l ra.2).bind fun rl => (evP cx h rl.2).bind fun rh =>
      (Out.of (ra.1.get rh.2)).bind fun x => (opSl x rl.1 rh.1).bind fun r => .ok (r, rh.2) := by rw [evE]
@[simp] theorem ev_call (n : Nat) : evE cx (.call n a) env = (evA cx a env).bind fun r => (Out.of (deref r.2 r.1)).bind fun ds => (lent r.1 (cx.call n ds)).bind fun v => .ok (v, r.2) := by rw [evE]
@[simp] theorem ev_bi (n : Bi) : evE cx (.bi n a) env = (evA cx a env).bind fun r => (Out.of (deref r.2 r.1)).bind fun ds => (opBi n ds).bind fun v => .ok (v, r.2) := by rw [evE]
@[simp] theorem ev_me (m : Me) (o : I) : evE cx (.me m o a) env = (evE cx o env).bind fun ro => (Out.of (ro.1.get ro.2)).bind fun x0 => if m.fits x0 = true then
      (evA cx a ro.2).bind fun r => (Out.of (ro.1.get r.2)).bind fun x => (Out.of (deref r.2 r.1)).bind fun ds => (opMe m x ds).bind fun v => .ok (v, r.2)
      else .stuck := by rw [evE]
@[simp] theorem ev_mu (m : Mu) (i : Nat) : evE cx (.mu m i a) env = match env[i]? with
      | some (.own c0) => if m.fits c0 = true then (evA cx a env).bind fun r => (Out.of (noRef r.1)).bind fun ds => match r.2[i]? with
        | some (.own c) => (opMu m c ds).bind fun q => .ok (.val q.1, r.2.set i (.own q.2))
        | _ => .stuck
        else .stuck
      | _ => .stuck := by rw [evE] <;> rfl
theorem ev_lc (vs : List Nat) (src tst e : I) : evE cx (.lc e vs src tst) env = (evIt cx src env).bind fun r =>
      if r.1.2.any (fun i => e.hits i || tst.hits i || vs.contains i) || decide (16777216 < r.1.1.length) then .stuck else
      (noExc (lcM (bindV vs) (evTs cx tst) (fun en => (evE cx e en).bind fun x => (Out.of (noRef [x.1])).bind fun d => .ok (d.headD .non, x.2)) vs r.1.1 (wipeS r.2 vs))).bind fun q =>
        .ok (.new (.lst q.1), backS r.2 q.2 vs) := by rw [evE]
@[simp] theorem ev_nil : evA cx .nil env = .ok ([], env) := by rw [evA]
@[simp] theorem ev_cons : evA cx (.cons a b) env = (evE cx a env).bind fun ra => (evA cx b ra.2).bind fun rb => .ok (ra.1 :: rb.1, rb.2) := by rw [evA]
@[simp] theorem evP_none : evP cx .none_ env = .ok (none, env) := by rw [evP]
@[simp] theorem evTs_none : evTs cx .none_ env = .ok (true, env) := by rw [evTs]
@[simp] theorem evIt_rng : evIt cx (.iRng a) env = (evA cx a env).bind fun r => (Out.of (noRef r.1)).bind fun ds => (Out.of (opRng ds)).bind fun is => .ok ((is, []), r.2) := by rw [evIt]
@[simp] theorem evIt_enum : evIt cx (.iEnum a) env = (evE cx a env).bind fun r => (Out.of (r.1.get r.2)).bind fun d => (Out.of (lstOf d)).bind fun ds => .ok ((enumD 0 ds, refsOf [r.1]), r.2) := by rw [evIt]
@[simp] theorem evIt_zip : evIt cx (.iZip a b) env = (evE cx a env).bind fun ra => (evE cx b ra.2).bind fun rb => (Out.of (ra.1.get rb.2)).bind fun x => (Out.of (rb.1.get rb.2)).bind fun y =>
      (Out.of (zipOf x y)).bind fun q => .ok ((zipD q.1 q.2, refsOf [ra.1, rb.1]), rb.2) := by rw [evIt]
@[simp] theorem evIt_rev : evIt cx (.iRev a) env = (evE cx a env).bind fun r => (Out.of (r.1.get r.2)).bind fun d => (Out.of (seqOf d)).bind fun ds => .ok ((ds.reverse, refsOf [r.1]), r.2) := by rw [evIt]
@[simp] theorem evIt_var (n : Nat) : evIt cx (.var n) env = (evE cx (.var n) env).bind fun r => (Out.of (r.1.get r.2)).bind fun d => (Out.of (itemsIt d)).bind fun ds => .ok ((ds, refsOf [r.1]), r.2) := evIt_eq _ _ rfl _
@[simp] theorem evIt_kS (n : Str) : evIt cx (.kS n) env = .ok ((n.cps.toList.map fun c => .str ⟨#[c]⟩, []), env) := by rw [evIt_eq _ _ rfl, ev_kS]; rfl
@[simp] theorem evIt_glob (n : Nat) : evIt cx (.glob n) env = (evE cx (.glob n) env).bind fun r => (Out.of (r.1.get r.2)).bind fun d => (Out.of (itemsIt d)).bind fun ds => .ok ((ds, refsOf [r.1]), r.2) := evIt_eq _ _ rfl _
@[simp] theorem evIt_bin (o : BOp) : evIt cx (.bin o a b) env = (evE cx (.bin o a b) env).bind fun r => (Out.of (r.1.get r.2)).bind fun d => (Out.of (itemsIt d)).bind fun ds => .ok ((ds, refsOf [r.1]), r.2) := evIt_eq _ _ rfl _
@[simp] theorem evIt_tup : evIt cx (.tup a) env = (evE cx (.tup a) env).bind fun r => (Out.of (r.1.get r.2)).bind fun d => (Out.of (itemsIt d)).bind fun ds => .ok ((ds, refsOf [r.1]), r.2) := evIt_eq _ _ rfl _
@[simp] theorem evIt_lst : evIt cx (.lst a) env = (evE cx (.lst a) env).bind fun r => (Out.of (r.1.get r.2)).bind fun d => (Out.of (itemsIt d)).bind fun ds => .ok ((ds, refsOf [r.1]), r.2) := evIt_eq _ _ rfl _
@[simp] theorem evIt_idx : evIt cx (.idx a b) env = (evE cx (.idx a b) env).bind fun r => (Out.of (r.1.get r.2)).bind fun d => (Out.of (itemsIt d)).bind fun ds => .ok ((ds, refsOf [r.1]), r.2) := evIt_eq _ _ rfl _
@[simp] theorem evIt_sl (l h : I) : evIt cx (.sl a l h) env = (evE cx (.sl a l h) env).bind fun r => (Out.of (r.1.get r.2)).bind fun d => (Out.of (itemsIt d)).bind fun ds => .ok ((ds, refsOf [r.1]), r.2) := evIt_eq _ _ rfl _
@[simp] theorem evIt_call (n : Nat) : evIt cx (.call n a) env = (evE cx (.call n a) env).bind fun r => (Out.of (r.1.get r.2)).bind fun d => (Out.of (itemsIt d)).bind fun ds => .ok ((ds, refsOf [r.1]), r.2) := evIt_eq _ _ rfl _
@[simp] theorem evIt_bi (n : Bi) : evIt cx (.bi n a) env = (evE cx (.bi n a) env).bind fun r => (Out.of (r.1.get r.2)).bind fun d => (Out.of (itemsIt d)).bind fun ds => .ok ((ds, refsOf [r.1]), r.2) := evIt_eq _ _ rfl _
@[simp] theorem evIt_me (m : Me) (o : I) : evIt cx (.me m o a) env = (evE cx (.me m o a) env).bind fun r => (Out.of (r.1.get r.2)).bind fun d => (Out.of (itemsIt d)).bind fun ds => .ok ((ds, refsOf [r.1]), r.2) := evIt_eq _ _ rfl _
theorem evIt_lc (vs : List Nat) (e s t : I) : evIt cx (.lc e vs s t) env = (evE cx (.lc e vs s t) env).bind fun r => (Out.of (r.1.get r.2)).bind fun d => (Out.of (itemsIt d)).bind fun ds => .ok ((ds, refsOf [r.1]), r.2) := evIt_eq _ _ rfl _
theorem evT_eq : evT cx a env = (evE cx a env).bind fun ra => (Out.of ra.1.bool).bind fun b => .ok (b, ra.2) := rfl

/-! ### statements -/
@[simp] theorem evS_pass : evS cx .pass env = .ok (.next, env) := by rw [evS]
@[simp] theorem evS_done : evS cx .done env = .ok (.next, env) := by rw [evS]
@[simp] theorem evS_expr : evS cx (.expr a) env = (evE cx a env).bind fun r => .ok (.next, r.2) := by rw [evS]
@[simp] theorem evS_asg : evS cx (.asg i a) env = (evE cx a env).bind fun r => (Out.of (slotOf r.1)).bind fun s => .ok (.next, r.2.set i s) := by rw [evS]
@[simp] theorem evS_asgT (is : List Nat) : evS cx (.asgT is a) env = (evE cx a env).bind fun r => match r.1 with
    | .val (.tup ds) => (Out.of (bindV is (.tup ds) r.2)).bind fun e => .ok (.next, e)
    | _ => .stuck := by rw [evS] <;> rfl
@[simp] theorem evS_put : evS cx (.put i a b) env = (evE cx b env).bind fun rv => (Out.of (noRef [rv.1])).bind fun d => match rv.2[i]? with
    | some (.own _) => (evE cx a rv.2).bind fun rk => match rk.1, rk.2[i]? with
      | .val kd, some (.own c) => (Out.of (c.put kd (d.headD .non))).bind fun c' => .ok (.next, rk.2.set i (.own c'))
      | _, _ => .stuck
    | _ => .stuck := by rw [evS] <;> rfl
@[simp] theorem evS_if (c : I) : evS cx (.if_ c a b) env = (evT cx c env).bind fun t => match t.1 with
    | true => evS cx a t.2
    | false => evS cx b t.2 := by rw [evS] <;> rfl
@[simp] theorem evS_for (vs : List Nat) : evS cx (.for_ vs a b) env = (evIt cx a env).bind fun r => if r.1.2.any (fun i => b.hits i || vs.contains i) then .stuck else forM (bindV vs) (evS cx b) r.1.1 r.2 := by rw [evS]
@[simp] theorem evS_while : evS cx (.while_ a b) env = whileM (evT cx a) (evS cx b) env := by rw [evS]
@[simp] theorem evS_ret : evS cx (.ret a) env = (evE cx a env).bind fun r => (Out.of (r.1.out r.2)).bind fun v => .ok (.ret v, r.2) := by rw [evS]
@[simp] theorem evS_retN : evS cx .retN env = .ok (.ret (.val .non), env) := by rw [evS]
@[simp] theorem evS_frz : evS cx (.frz i) env = match env[i]? with
    | some (.own c) => .ok (.next, env.set i (.val c.d))
    | _ => .ok (.next, env) := by rw [evS] <;> rfl
@[simp] theorem evS_seq : evS cx (.seq a b) env = (evS cx a env).bind fun r => match r.1 with
    | .next => evS cx b r.2
    | .ret v => .ok (.ret v, r.2) := by rw [evS] <;> rfl
end

/-! ### operators -/
@[simp] theorem op_add_i (i j : Int) : opBin .add (.int i) (.int j) = .ok (.val (.int (i + j))) := rfl
@[simp] theorem op_sub_i (i j : Int) : opBin .sub (.int i) (.int j) = .ok (.val (.int (i - j))) := rfl
@[simp] theorem op_mul_i {i j : Int} (h : (-(2 ^ 64) < j ∧ j < 2 ^ 64) ∨ (-(2 ^ 64) < i ∧ i < 2 ^ 64)) : opBin .mul (.int i) (.int j) = .ok (.val (.int (i * j))) := by
  show (intMul i j).val = _
  unfold intMul mulOk
  have h : j.natAbs < 2 ^ 64 ∨ i.natAbs < 2 ^ 64 := by omega
  rw [if_pos (by rw [decide_eq_true h]; rfl)]
  rfl
@[simp] theorem op_mod_i {i j : Int} (h : 0 < j) : opBin .mod (.int i) (.int j) = .ok (.val (.int (i % j))) := by
  show (if 0 < j then Out.ok (Res.val (.int (i % j))) else .stuck) = _
  rw [if_pos h]
@[simp] theorem op_fdiv_i {i j : Int} (h : 0 < j) (h2 : j < 1073741824) : opBin .fdiv (.int i) (.int j) = .ok (.val (.int (i / j))) := by
  show (if 0 < j ∧ j < 1073741824 then Out.ok (Res.val (.int (i / j))) else .stuck) = _
  rw [if_pos ⟨h, h2⟩]
@[simp] theorem op_pow_i {i j : Int} (h : 0 ≤ j) (h2 : j ≤ 1000000) (h3 : i.natAbs < 2 ^ 64) : opBin .pow (.int i) (.int j) = .ok (.val (.int (i ^ j.toNat))) := by
  show (if 0 ≤ j ∧ j.toNat ≤ 1000000 ∧ i.natAbs < 2 ^ 64 then Out.ok (Res.val (.int (i ^ j.toNat))) else .stuck) = _
  rw [if_pos ⟨h, by omega, h3⟩]
@[simp] theorem op_add_l (x y : List D) : opBin .add (.lst x) (.lst y) = lstAdd x y := rfl
@[simp] theorem op_add_t (x y : List D) : opBin .add (.tup x) (.tup y) = (tupAdd x y).val := rfl
@[simp] theorem op_add_s (x y : Str) : opBin .add (.str x) (.str y) = (strAdd x y).val := rfl
@[simp] theorem lstAdd_ok {x y : List D} (h : x.length + y.length ≤ 16777216) : lstAdd x y = .ok (.new (.lst (x ++ y))) := by unfold lstAdd; rw [if_pos h]
@[simp] theorem tupAdd_ok {x y : List D} (h : x.length + y.length ≤ 16777216) : tupAdd x y = .ok (.tup (x ++ y)) := by unfold tupAdd; rw [if_pos h]
@[simp] theorem strAdd_ok {x y : Str} (h : x.length + y.length ≤ 16777216) : strAdd x y = .ok (.str (x ++ y)) := by unfold strAdd; rw [if_pos h]
@[simp] theorem opNeg_i (i : Int) : opNeg (.int i) = .ok (.int (-i)) := rfl
@[simp] theorem lt_i (i j : Int) : opCmp .lt (.int i) (.int j) = .ok (decide (i < j)) := rfl
@[simp] theorem le_i (i j : Int) : opCmp .le (.int i) (.int j) = .ok (decide (i ≤ j)) := rfl
@[simp] theorem gt_i (i j : Int) : opCmp .gt (.int i) (.int j) = .ok (decide (j < i)) := rfl
@[simp] theorem ge_i (i j : Int) : opCmp .ge (.int i) (.int j) = .ok (decide (j ≤ i)) := rfl
theorem eq_d {a b : D} (h : eqOk a b = true) : opCmp .eq a b = .ok (D.eqv a b) := by
  show (if eqOk a b = true then Out.ok (D.eqv a b) else .stuck) = _
  rw [if_pos h]
theorem ne_d {a b : D} (h : eqOk a b = true) : opCmp .ne a b = .ok (!D.eqv a b) := by
  show (if eqOk a b = true then Out.ok (!D.eqv a b) else .stuck) = _
  rw [if_pos h]
@[simp] theorem eqv_ii (i j : Int) : D.eqv (.int i) (.int j) = decide (i = j) := by unfold D.eqv; rfl
@[simp] theorem eqv_ss (i j : Str) : D.eqv (.str i) (.str j) = (i == j) := by unfold D.eqv; rfl
@[simp] theorem eq_ii (i j : Int) : opCmp .eq (.int i) (.int j) = .ok (decide (i = j)) := by rw [eq_d rfl, eqv_ii]
@[simp] theorem ne_ii (i j : Int) : opCmp .ne (.int i) (.int j) = .ok (!decide (i = j)) := by rw [ne_d rfl, eqv_ii]
@[simp] theorem eq_ss (i j : Str) : opCmp .eq (.str i) (.str j) = .ok (i == j) := by rw [eq_d rfl, eqv_ss]
@[simp] theorem ne_ss (i j : Str) : opCmp .ne (.str i) (.str j) = .ok (!(i == j)) := by rw [ne_d rfl, eqv_ss]
theorem isI_ok' {d : D} (ts : List Ty) (h : ∀ c a, d ≠ .exn c a) : opBi (.isI ts) [d] = .ok (.val (.bl (ts.any fun t => t.is d))) := by
  cases d <;> first | rfl | exact absurd rfl (h _ _)
@[simp] theorem isI_int (ts : List Ty) (i : Int) : opBi (.isI ts) [.int i] = .ok (.val (.bl (ts.any fun t => t.is (.int i)))) := rfl
@[simp] theorem isI_str (ts : List Ty) (i : Str) : opBi (.isI ts) [.str i] = .ok (.val (.bl (ts.any fun t => t.is (.str i)))) := rfl
@[simp] theorem isI_bl (ts : List Ty) (i : Bool) : opBi (.isI ts) [.bl i] = .ok (.val (.bl (ts.any fun t => t.is (.bl i)))) := rfl
@[simp] theorem isI_tup (ts : List Ty) (i : List D) : opBi (.isI ts) [.tup i] = .ok (.val (.bl (ts.any fun t => t.is (.tup i)))) := rfl
@[simp] theorem isI_lst (ts : List Ty) (i : List D) : opBi (.isI ts) [.lst i] = .ok (.val (.bl (ts.any fun t => t.is (.lst i)))) := rfl
@[simp] theorem isI_non (ts : List Ty) : opBi (.isI ts) [.non] = .ok (.val (.bl (ts.any fun t => t.is .non))) := rfl
@[simp] theorem isI_dK (ts : List Ty) (ks : List Key) (i : List D) : opBi (.isI ts) [.dK ks i] = .ok (.val (.bl (ts.any fun t => t.is (.dK ks i)))) := rfl
@[simp] theorem is_int (t : Ty) (i : Int) : t.is (.int i) = match t with | .int => true | _ => false := by cases t <;> rfl
@[simp] theorem is_bl (t : Ty) (i : Bool) : t.is (.bl i) = match t with | .int => true | .bool => true | _ => false := by cases t <;> rfl
@[simp] theorem is_str (t : Ty) (i : Str) : t.is (.str i) = match t with | .str => true | _ => false := by cases t <;> rfl
@[simp] theorem is_tup (t : Ty) (i : List D) : t.is (.tup i) = match t with | .tuple => true | _ => false := by cases t <;> rfl
@[simp] theorem is_lst (t : Ty) (i : List D) : t.is (.lst i) = match t with | .list => true | _ => false := by cases t <;> rfl
@[simp] theorem is_dK (t : Ty) (ks : List Key) (i : List D) : t.is (.dK ks i) = match t with | .dict => true | _ => false := by cases t <;> rfl
@[simp] theorem is_non (t : Ty) : t.is .non = false := by cases t <;> rfl
@[simp] theorem opOrd_1 (c : Nat) : opOrd ⟨#[c]⟩ = .ok (.val (.int c)) := rfl
@[simp] theorem listRev_l (ds : List D) : opBi .listRev [.lst ds] = .ok (.new (.lst ds.reverse)) := rfl
@[simp] theorem intsOf_map (ns : List Int) : intsOf (ns.map D.int) = some ns := by
  induction ns with
  | nil => rfl
  | cons n ns ih => show (intsOf (ns.map D.int)).map (n :: ·) = _; rw [ih]; rfl
theorem lt_ints (ns ms : List Int) : opCmp .lt (.lst (ns.map D.int)) (.lst (ms.map D.int)) = .ok (HT.lexLt ns ms) := by
  show (Out.of (intsOf (ns.map D.int))).bind (fun ns => (Out.of (intsOf (ms.map D.int))).bind fun ms => .ok (HT.lexLt ns ms)) = _
  rw [intsOf_map, intsOf_map]; rfl
@[simp] theorem plain_int (i : Int) : (D.int i).plain = true := by unfold D.plain; rfl
@[simp] theorem plain_str (i : Str) : (D.str i).plain = true := by unfold D.plain; rfl
@[simp] theorem plain_bl (i : Bool) : (D.bl i).plain = true := by unfold D.plain; rfl
@[simp] theorem plain_non : D.non.plain = true := by unfold D.plain; rfl
@[simp] theorem plain_tup (ds : List D) : (D.tup ds).plain = D.plainL ds := by rw [D.plain]
@[simp] theorem plain_lst (ds : List D) : (D.lst ds).plain = D.plainL ds := by rw [D.plain]
@[simp] theorem plainL_nil : D.plainL [] = true := by unfold D.plainL; rfl
@[simp] theorem plainL_cons (d : D) (ds : List D) : D.plainL (d :: ds) = (d.plain && D.plainL ds) := by rw [D.plainL]
@[simp] theorem depth_int (i : Int) : (D.int i).depth = 0 := by unfold D.depth; rfl
@[simp] theorem depth_str (i : Str) : (D.str i).depth = 0 := by unfold D.depth; rfl
@[simp] theorem depth_bl (i : Bool) : (D.bl i).depth = 0 := by unfold D.depth; rfl
@[simp] theorem depth_non : D.non.depth = 0 := by unfold D.depth; rfl
@[simp] theorem depth_tup (ds : List D) : (D.tup ds).depth = D.depthL ds + 1 := by rw [D.depth]
@[simp] theorem depth_lst (ds : List D) : (D.lst ds).depth = D.depthL ds + 1 := by rw [D.depth]
@[simp] theorem depthL_nil : D.depthL [] = 0 := by unfold D.depthL; rfl
@[simp] theorem depthL_cons (d : D) (ds : List D) : D.depthL (d :: ds) = max d.depth (D.depthL ds) := by rw [D.depthL]
theorem plainL_all {ds : List D} (h : ∀ d ∈ ds, d.plain = true) : D.plainL ds = true := by
  induction ds with
  | nil => simp
  | cons d ds ih => simp [h d List.mem_cons_self, ih fun x hx => h x (List.mem_cons_of_mem _ hx)]
theorem depthL_le {ds : List D} {n : Nat} (h : ∀ d ∈ ds, d.depth ≤ n) : D.depthL ds ≤ n := by
  induction ds with
  | nil => simp
  | cons d ds ih =>
    have := h d List.mem_cons_self
    have := ih fun x hx => h x (List.mem_cons_of_mem _ hx)
    simp; omega
@[simp] theorem plainL_ints (ns : List Int) : D.plainL (ns.map D.int) = true := plainL_all fun d hd => by obtain ⟨n, _, rfl⟩ := List.mem_map.mp hd; simp
@[simp] theorem depthL_ints (ns : List Int) : D.depthL (ns.map D.int) = 0 := Nat.le_zero.mp (depthL_le fun d hd => by obtain ⟨n, _, rfl⟩ := List.mem_map.mp hd; simp)
@[simp] theorem eqv_ll (x y : List D) : D.eqv (.lst x) (.lst y) = D.eqvL x y := by unfold D.eqv; rfl
@[simp] theorem eqv_tt (x y : List D) : D.eqv (.tup x) (.tup y) = D.eqvL x y := by unfold D.eqv; rfl
@[simp] theorem eqvL_nn : D.eqvL [] [] = true := by unfold D.eqvL; rfl
@[simp] theorem eqvL_nc (y : D) (ys : List D) : D.eqvL [] (y :: ys) = false := by unfold D.eqvL; rfl
@[simp] theorem eqvL_cn (y : D) (ys : List D) : D.eqvL (y :: ys) [] = false := by unfold D.eqvL; rfl
@[simp] theorem eqvL_cc (x y : D) (xs ys : List D) : D.eqvL (x :: xs) (y :: ys) = (D.eqv x y && D.eqvL xs ys) := by rw [D.eqvL]
theorem eqvL_ints : ∀ ns ms : List Int, D.eqvL (ns.map D.int) (ms.map D.int) = decide (ns = ms)
  | [], [] => by simp
  | [], _ :: _ => by simp
  | _ :: _, [] => by simp
  | n :: ns, m :: ms => by simp [eqvL_ints ns ms]
mutual
theorem eqv_refl : ∀ d : D, d.plain = true → D.eqv d d = true
  | .non, _ => by unfold D.eqv; rfl
  | .bl b, _ => by unfold D.eqv; simp
  | .int i, _ => by simp
  | .str s, _ => by simp
  | .tup ds, h => by rw [eqv_tt]; exact eqvL_refl ds (by simpa using h)
  | .lst ds, h => by rw [eqv_ll]; exact eqvL_refl ds (by simpa using h)
  | .dK _ _, h => by unfold D.plain at h; cases h
  | .dT _ _, h => by unfold D.plain at h; cases h
  | .exn _ _, h => by unfold D.plain at h; cases h
theorem eqvL_refl : ∀ ds : List D, D.plainL ds = true → D.eqvL ds ds = true
  | [], _ => by simp
  | d :: ds, h => by
    rw [plainL_cons, Bool.and_eq_true] at h
    rw [eqvL_cc, eqv_refl d h.1, eqvL_refl ds h.2]; rfl
end
theorem eqOk_of' {a b : D} (h1 : a.plain = true) (h2 : b.plain = true) (h3 : a.depth ≤ 64) : eqOk a b = true := by
  unfold eqOk
  rw [h1, h2, decide_eq_true h3]; simp
@[simp] theorem eqv_bb (a b : Bool) : D.eqv (.bl a) (.bl b) = (a == b) := by unfold D.eqv; rfl
@[simp] theorem eq_bb (a b : Bool) : opCmp .eq (.bl a) (.bl b) = .ok (a == b) := by rw [eq_d rfl, eqv_bb]
@[simp] theorem ne_bb (a b : Bool) : opCmp .ne (.bl a) (.bl b) = .ok (!(a == b)) := by rw [ne_d rfl, eqv_bb]
@[simp] theorem mu_append (ds : List D) (d : D) : opMu .append (.lst ds) [d] = if ds.length < 16777216 then .ok (.non, .lst (ds ++ [d])) else .stuck := rfl
@[simp] theorem mu_clear (ds : List D) : opMu .clear (.lst ds) [] = .ok (.non, .lst []) := rfl
@[simp] theorem fits_append (ds : List D) : Mu.fits .append (.lst ds) = true := rfl
@[simp] theorem fits_clear (ds : List D) : Mu.fits .clear (.lst ds) = true := rfl
@[simp] theorem fits_extend (ds : List D) : Mu.fits .extend (.lst ds) = true := rfl
@[simp] theorem fits_pop (ds : List D) : Mu.fits .pop (.lst ds) = true := rfl
@[simp] theorem len_l (ds : List D) : opBi .len [.lst ds] = .ok (.val (.int ds.length)) := rfl
@[simp] theorem len_t (ds : List D) : opBi .len [.tup ds] = .ok (.val (.int ds.length)) := rfl
@[simp] theorem len_s {s : Str} (h : s.length ≤ 16777216) : opBi .len [.str s] = .ok (.val (.int s.length)) := by
  show (if s.length ≤ 16777216 then Out.ok (Res.val (.int s.length)) else .stuck) = _
  rw [if_pos h]
@[simp] theorem tuple_l (ds : List D) : opBi .tuple [.lst ds] = .ok (.val (.tup ds)) := rfl
@[simp] theorem tuple_t (ds : List D) : opBi .tuple [.tup ds] = .ok (.val (.tup ds)) := rfl
@[simp] theorem list_l (ds : List D) : opBi .list [.lst ds] = .ok (.new (.lst ds)) := rfl
@[simp] theorem list_t (ds : List D) : opBi .list [.tup ds] = .ok (.new (.lst ds)) := rfl
@[simp] theorem abs_i (i : Int) : opBi .abs [.int i] = .ok (.val (.int (if i < 0 then -i else i))) := rfl
@[simp] theorem min_i (i j : Int) : opBi .min2 [.int i, .int j] = .ok (.val (.int (if j < i then j else i))) := rfl
@[simp] theorem max_i (i j : Int) : opBi .max2 [.int i, .int j] = .ok (.val (.int (if j > i then j else i))) := rfl
@[simp] theorem int_i (i : Int) : opBi .int [.int i] = .ok (.val (.int i)) := rfl
@[simp] theorem int_b (i : Bool) : opBi .int [.bl i] = .ok (.val (.int (if i then 1 else 0))) := rfl
@[simp] theorem sl_l (ds : List D) (lo hi : Option Int) : opSl (.lst ds) lo hi = .ok (.new (.lst (cutD ds lo hi))) := rfl
@[simp] theorem sl_t (ds : List D) (lo hi : Option Int) : opSl (.tup ds) lo hi = .ok (.val (.tup (cutD ds lo hi))) := rfl
@[simp] theorem items_l (ds : List D) : itemsIt (.lst ds) = some ds := rfl
@[simp] theorem items_t (ds : List D) : itemsIt (.tup ds) = some ds := rfl
@[simp] theorem bind_one (i : Nat) (d : D) (env : Nv) : bindV [i] d env = some (env.set i (.val d)) := rfl
@[simp] theorem bind_two (i j : Nat) (a b : D) (env : Nv) : bindV [i, j] (.tup [a, b]) env = some ((env.set i (.val a)).set j (.val b)) := rfl
/-! ### loops -/
@[simp] theorem forM_nil (bd : D → Nv → Option Nv) (body : Nv → Out (Fl × Nv)) (env : Nv) : forM bd body [] env = .ok (.next, env) := rfl
theorem forM_cons (bd : D → Nv → Option Nv) (body : Nv → Out (Fl × Nv)) (d : D) (ds : List D) (env : Nv) : forM bd body (d :: ds) env = (Out.of (bd d env)).bind fun e1 => (body e1).bind fun r => match r.1 with
    | .next => forM bd body ds r.2
    | .ret v => .ok (.ret v, r.2) := rfl
/-- a loop that comes through: P holds of the state by what is walked -/
theorem forM_inv {bd : D → Nv → Option Nv} {body : Nv → Out (Fl × Nv)} (P : List D → Nv → Prop) : ∀ {ds : List D} (pre : List D) {env : Nv}, P pre env →
    (∀ (p : List D) (d : D) (env : Nv), (∃ s, pre ++ ds = p ++ d :: s) → P p env → ∃ e1 e2, bd d env = some e1 ∧ body e1 = .ok (.next, e2) ∧ P (p ++ [d]) e2) → ∃ e', forM bd body ds env = .ok (.next, e') ∧ P (pre ++ ds) e'
  | [], pre, env, h, _ => ⟨env, rfl, by simpa using h⟩
  | d :: ds, pre, env, h, k => by
    obtain ⟨e1, e2, h1, h2, h3⟩ := k pre d env ⟨ds, rfl⟩ h
    obtain ⟨e', h4, h5⟩ := forM_inv P (ds := ds) (pre ++ [d]) h3 fun p d' en hs hp => k p d' en (by simpa using hs) hp
    refine ⟨e', ?_, by simpa using h5⟩
    rw [forM_cons, h1]
    simp only [Out.of_some, Out.bd_ok, h2]
    exact h4
/-- .. in a state that each turn leaves as it was, but for the loop's own names: the state's shape Q -/
theorem forM_same {bd : D → Nv → Option Nv} {body : Nv → Out (Fl × Nv)} (Q : Nv → Prop) {ds : List D} {env : Nv} (h : Q env) (k : ∀ (d : D) (env : Nv), d ∈ ds → Q env → ∃ e1 e2, bd d env = some e1 ∧ body e1 = .ok (.next, e2) ∧ Q e2) :
    ∃ e', forM bd body ds env = .ok (.next, e') ∧ Q e' := by
  obtain ⟨e', h1, h2⟩ := forM_inv (fun _ e => Q e) (ds := ds) [] (env := env) h fun p d en ⟨s, hs⟩ hp => k d en (by
    have : d ∈ [] ++ ds := by rw [hs]; simp
    simpa using this) hp
  exact ⟨e', h1, h2⟩
/-- a comprehension without a test whose elements are told one by one -/
theorem lcM_map {bd : D → Nv → Option Nv} {tst : Nv → Out (Bool × Nv)} {elt : Nv → Out (D × Nv)} {vs : List Nat} {env : Nv} (f : D → D) : ∀ {ds : List D}, (∀ d ∈ ds, ∃ e1, bd d env = some e1 ∧ tst e1 = .ok (true, e1) ∧ elt e1 = .ok (f d, e1) ∧ wipeS e1 vs = env) →
    lcM bd tst elt vs ds env = .ok (ds.map f, env)
  | [], _ => rfl
  | d :: ds, h => by
    obtain ⟨e1, h1, h2, h3, h4⟩ := h d List.mem_cons_self
    have ih := lcM_map f (ds := ds) fun x hx => h x (List.mem_cons_of_mem _ hx)
    unfold lcM
    rw [h1]
    simp only [Out.of_some, Out.bd_ok, h2, h3, h4, ih, List.map_cons]
/-- .. with a test -/
theorem lcM_filter {bd : D → Nv → Option Nv} {tst : Nv → Out (Bool × Nv)} {elt : Nv → Out (D × Nv)} {vs : List Nat} {env : Nv} (p : D → Bool) (f : D → D) : ∀ {ds : List D}, (∀ d ∈ ds, ∃ e1, bd d env = some e1 ∧ tst e1 = .ok (p d, e1) ∧ (p d = true → elt e1 = .ok (f d, e1)) ∧ wipeS e1 vs = env) →
    lcM bd tst elt vs ds env = .ok ((ds.filter p).map f, env)
  | [], _ => rfl
  | d :: ds, h => by
    obtain ⟨e1, h1, h2, h3, h4⟩ := h d List.mem_cons_self
    have ih := lcM_filter p f (ds := ds) fun x hx => h x (List.mem_cons_of_mem _ hx)
    unfold lcM
    rw [h1]
    simp only [Out.of_some, Out.bd_ok, h2]
    cases hp : p d with
    | false => simp only [h4, ih, List.filter_cons, hp, Bool.false_eq_true, if_false]
    | true => simp only [h3 hp, Out.bd_ok, h4, ih, List.filter_cons, hp, if_true, List.map_cons]
/-- a comprehension, told item by item -/
theorem lc_filter {cx : Cxt} {env env1 : Nv} {e src tst : I} {vs : List Nat} {ds : List D} {refs : List Nat} (p : D → Bool) (f : D → D) (hs : evIt cx src env = .ok ((ds, refs), env1)) (hr : refs.any (fun i => e.hits i || tst.hits i || vs.contains i) = false) (hlen : ds.length ≤ 16777216)
    (h : ∀ d ∈ ds, ∃ e1, bindV vs d (wipeS env1 vs) = some e1 ∧ evTs cx tst e1 = .ok (p d, e1) ∧ (p d = true → ∃ r, evE cx e e1 = .ok (r, e1) ∧ noRef [r] = some [f d]) ∧ wipeS e1 vs = wipeS env1 vs) :
    evE cx (.lc e vs src tst) env = .ok (.new (.lst ((ds.filter p).map f)), backS env1 (wipeS env1 vs) vs) := by
  have hc : decide (16777216 < ds.length) = false := decide_eq_false (by omega)
  rw [ev_lc, hs]
  simp only [Out.bd_ok, hr, hc, Bool.or_self, Bool.false_eq_true, if_false]
  rw [lcM_filter p f fun d hd => ?_]
  · rfl
  · obtain ⟨e1, h1, h2, h3, h4⟩ := h d hd
    refine ⟨e1, h1, h2, fun hp => ?_, h4⟩
    obtain ⟨r, h5, h6⟩ := h3 hp
    rw [h5]
    simp only [Out.bd_ok, h6, Out.of_some, List.headD_cons]
theorem lc_map {cx : Cxt} {env env1 : Nv} {e src : I} {vs : List Nat} {ds : List D} {refs : List Nat} (f : D → D) (hs : evIt cx src env = .ok ((ds, refs), env1)) (hr : refs.any (fun i => e.hits i || I.hits i .none_ || vs.contains i) = false) (hlen : ds.length ≤ 16777216)
    (h : ∀ d ∈ ds, ∃ e1 r, bindV vs d (wipeS env1 vs) = some e1 ∧ evE cx e e1 = .ok (r, e1) ∧ noRef [r] = some [f d] ∧ wipeS e1 vs = wipeS env1 vs) :
    evE cx (.lc e vs src .none_) env = .ok (.new (.lst (ds.map f)), backS env1 (wipeS env1 vs) vs) := by
  have := lc_filter (tst := .none_) (fun _ => true) f hs hr hlen fun d hd => by
    obtain ⟨e1, r, h1, h2, h3, h4⟩ := h d hd
    exact ⟨e1, h1, evTs_none, fun _ => ⟨r, h2, h3⟩, h4⟩
  rw [List.filter_eq_self.mpr (fun _ _ => rfl)] at this
  exact this
theorem boolsOf_map {α : Type} (f : α → Bool) (l : List α) : boolsOf (l.map fun x => D.bl (f x)) = some (l.map f) := by
  induction l with
  | nil => rfl
  | cons x l ih => show (boolsOf (l.map fun x => D.bl (f x))).map (f x :: ·) = _; rw [ih]; rfl
theorem all_map {α : Type} (f : α → Bool) (l : List α) : opBi .all [.lst (l.map fun x => D.bl (f x))] = .ok (.val (.bl (l.all f))) := by
  show (Out.of (boolsOf (l.map fun x => D.bl (f x)))).bind (fun bs => Out.ok (Res.val (.bl (bs.all id)))) = _
  rw [boolsOf_map]
  simp [List.all_map]
theorem any_map {α : Type} (f : α → Bool) (l : List α) : opBi .any [.lst (l.map fun x => D.bl (f x))] = .ok (.val (.bl (l.any f))) := by
  show (Out.of (boolsOf (l.map fun x => D.bl (f x)))).bind (fun bs => Out.ok (Res.val (.bl (bs.any id)))) = _
  rw [boolsOf_map]
  simp [List.any_map]
theorem strIn_one (c : Nat) (z : Str) : strIn ⟨#[c]⟩ z = decide (c ∈ z.cps.toList) := PySem.StrLaws.found_one z c
def chars (s : Str) : List D := s.cps.toList.map fun c => .str ⟨#[c]⟩
@[simp] theorem items_s (s : Str) : itemsIt (.str s) = some (chars s) := rfl
theorem chars_len (s : Str) : (chars s).length = s.length := by unfold chars; rw [List.length_map, Array.length_toList]; rfl
theorem opIn_s (x y : Str) : opCmp .isIn (.str x) (.str y) = .ok (strIn x y) := rfl
theorem opNotIn_s (x y : Str) : opCmp .notIn (.str x) (.str y) = .ok (!strIn x y) := rfl
end PyI

end
section
set_option autoImplicit false
/-! PyW: what holds behind a run, told frame by frame (the frames are constants, so that simp stays at the head). -/
namespace PyI
open PySem PySem.Spec PyProof.Rows L2 RZ RT

def Wp {α : Type} (o : Out α) (Q : α → Prop) (E : Exn → Prop) : Prop := match o with
  | .stuck => False
  | .ok a => Q a
  | .exc x => E x
theorem wp_ok {α : Type} (a : α) (Q : α → Prop) (E : Exn → Prop) : Wp (.ok a) Q E = Q a := rfl
theorem wp_exc {α : Type} (x : Exn) (Q : α → Prop) (E : Exn → Prop) : Wp (.exc x) Q E = E x := rfl
theorem wp_stuck {α : Type} (Q : α → Prop) (E : Exn → Prop) : Wp .stuck Q E = False := rfl
theorem wp_bind {α β : Type} (o : Out α) (f : α → Out β) (Q : β → Prop) (E : Exn → Prop) : Wp (o.bind f) Q E = Wp o (fun a => Wp (f a) Q E) E := by cases o <;> rfl
theorem Wp.mono {α : Type} {o : Out α} {Q R : α → Prop} {E : Exn → Prop} (h : Wp o Q E) (k : ∀ a, Q a → R a) : Wp o R E := by
  cases o with
  | stuck => exact h
  | ok a => exact k a h
  | exc x => exact h
theorem Wp.mono2 {α : Type} {o : Out α} {Q R : α → Prop} {E E2 : Exn → Prop} (h : Wp o Q E) (k : ∀ a, Q a → R a) (k2 : ∀ x, E x → E2 x) : Wp o R E2 := by
  cases o with
  | stuck => exact h
  | ok a => exact k a h
  | exc x => exact k2 x h
abbrev noE : Exn → Prop := fun _ => False
theorem Wp.ex {α : Type} {o : Out α} {Q : α → Prop} (h : Wp o Q noE) : ∃ a, o = .ok a ∧ Q a := by
  cases o with
  | stuck => exact h.elim
  | ok a => exact ⟨a, rfl, h⟩
  | exc x => exact h.elim
theorem eq_of_wp {α : Type} {o : Out α} {v : α} (h : Wp o (fun r => r = v) noE) : o = .ok v := by
  obtain ⟨a, h1, rfl⟩ := h.ex; exact h1
theorem wp_of_eq {α : Type} {o : Out α} {v : α} {Q : α → Prop} {E : Exn → Prop} (h : o = .ok v) (q : Q v) : Wp o Q E := by rw [h]; exact q

abbrev KE := Res × Nv → Prop
abbrev KS := Fl × Nv → Prop
abbrev KA := List Res × Nv → Prop
abbrev KP := Option Int × Nv → Prop
abbrev KT := (List D × List Nat) × Nv → Prop
abbrev KX := Exn → Prop
section frames
variable (cx : Cxt) (E : KX)
/-! ### frames of expressions -/
def opK (e : Nv) (Q : KE) : Res → Prop := fun r => Q (r, e)
def dK (e : Nv) (Q : KE) : D → Prop := fun d => Q (.val d, e)
def blK (e : Nv) (Q : KE) : Bool → Prop := fun b => Q (.val (.bl b), e)
def binC (o : BOp) : Option D → Option D → Nv → KE → KX → Prop
  | some x, some y, e, Q, E => Wp (opBin o x y) (opK e Q) E
  | _, _, _, _, _ => False
def binB (o : BOp) (ra : Res) (Q : KE) : KE := fun r => binC o (ra.get r.2) (r.1.get r.2) r.2 Q E
def binA (o : BOp) (b : I) (Q : KE) : KE := fun r => Wp (evE cx b r.2) (binB E o r.1 Q) E
def negB : Option D → Nv → KE → KX → Prop
  | some x, e, Q, E => Wp (opNeg x) (dK e Q) E
  | _, _, _, _ => False
def negA (Q : KE) : KE := fun r => negB (r.1.get r.2) r.2 Q E
def notA (Q : KE) : KE := fun r => match r.1 with
  | .val (.bl b) => Q (.val (.bl (!b)), r.2)
  | _ => False
def cmpC (o : COp) : Option D → Option D → Nv → KE → KX → Prop
  | some x, some y, e, Q, E => Wp (opCmp o x y) (blK e Q) E
  | _, _, _, _, _ => False
def cmpB (o : COp) (ra : Res) (Q : KE) : KE := fun r => cmpC o (ra.get r.2) (r.1.get r.2) r.2 Q E
def cmpA (o : COp) (b : I) (Q : KE) : KE := fun r => Wp (evE cx b r.2) (cmpB E o r.1 Q) E
def c2E (o2 : COp) (rb : Res) (Q : KE) : KE := fun r => cmpC o2 (rb.get r.2) (r.1.get r.2) r.2 Q E
def c2D (o2 : COp) (rb : Res) (c : I) (Q : KE) : KE := fun r => match r.1 with
  | .val (.bl true) => Wp (evE cx c r.2) (c2E E o2 rb Q) E
  | .val (.bl false) => Q (.val (.bl false), r.2)
  | _ => False
def c2B (o1 o2 : COp) (ra : Res) (c : I) (Q : KE) : KE := fun r => cmpC o1 (ra.get r.2) (r.1.get r.2) r.2 (c2D cx E o2 r.1 c Q) E
def c2A (o1 o2 : COp) (b c : I) (Q : KE) : KE := fun r => Wp (evE cx b r.2) (c2B cx E o1 o2 r.1 c Q) E
def andA (b : I) (Q : KE) : KE := fun r => match r.1 with
  | .val (.bl true) => Wp (evE cx b r.2) Q E
  | .val (.bl false) => Q (.val (.bl false), r.2)
  | _ => False
def orA (b : I) (Q : KE) : KE := fun r => match r.1 with
  | .val (.bl false) => Wp (evE cx b r.2) Q E
  | .val (.bl true) => Q (.val (.bl true), r.2)
  | _ => False
def iteA (a b : I) (Q : KE) : KE := fun r => match r.1 with
  | .val (.bl true) => Wp (evE cx a r.2) Q E
  | .val (.bl false) => Wp (evE cx b r.2) Q E
  | _ => False
def tupC : Option (List D) → Nv → KE → Prop
  | some ds, e, Q => ds.length ≤ 16777216 ∧ Q (.val (.tup ds), e)
  | _, _, _ => False
def tupA (Q : KE) : KA := fun r => tupC (noRef r.1) r.2 Q
def lstC : Option (List D) → Nv → KE → Prop
  | some ds, e, Q => ds.length ≤ 16777216 ∧ Q (.new (.lst ds), e)
  | _, _, _ => False
def lstA (Q : KE) : KA := fun r => lstC (noRef r.1) r.2 Q
def consB (ra : Res) (Q : KA) : KA := fun r => Q (ra :: r.1, r.2)
def consA (b : I) (Q : KA) : KE := fun r => Wp (evA cx b r.2) (consB r.1 Q) E
def idxC : Option D → Option D → Nv → KE → KX → Prop
  | some x, some y, e, Q, E => Wp (opIdx x y) (dK e Q) E
  | _, _, _, _, _ => False
def idxB (ra : Res) (Q : KE) : KE := fun r => idxC (ra.get r.2) (r.1.get r.2) r.2 Q E
def idxA (b : I) (Q : KE) : KE := fun r => Wp (evE cx b r.2) (idxB E r.1 Q) E
def slD : Option D → Option Int → Option Int → Nv → KE → KX → Prop
  | some x, lo, hi, e, Q, E => Wp (opSl x lo hi) (opK e Q) E
  | _, _, _, _, _, _ => False
def slC (ra : Res) (lo : Option Int) (Q : KE) : KP := fun r => slD (ra.get r.2) lo r.1 r.2 Q E
def slB (h : I) (ra : Res) (Q : KE) : KP := fun r => Wp (evP cx h r.2) (slC E ra r.1 Q) E
def slA (l h : I) (Q : KE) : KE := fun r => Wp (evP cx l r.2) (slB cx E h r.1 Q) E
def pK (Q : KP) : KE := fun r => match r.1 with
  | .val (.int i) => Q (some i, r.2)
  | _ => False
def lentK (e : Nv) (Q : KE) : Res → Prop := fun r => r.solid = true ∧ Q (r, e)
def callC (n : Nat) : Bool → Option (List D) → Nv → KE → Prop
  | false, some ds, e, Q => Wp (cx.call n ds) (opK e Q) E
  | true, some ds, e, Q => Wp (cx.call n ds) (lentK e Q) E
  | _, _, _, _ => False
def callA (n : Nat) (Q : KE) : KA := fun r => callC cx E n (anyRef r.1) (deref r.2 r.1) r.2 Q
def biC (b : Bi) : Option (List D) → Nv → KE → KX → Prop
  | some ds, e, Q, E => Wp (opBi b ds) (opK e Q) E
  | _, _, _, _ => False
def biA (b : Bi) (Q : KE) : KA := fun r => biC b (deref r.2 r.1) r.2 Q E
def meC (m : Me) : Option D → Option (List D) → Nv → KE → KX → Prop
  | some x, some ds, e, Q, E => Wp (opMe m x ds) (opK e Q) E
  | _, _, _, _, _ => False
def meB (m : Me) (ro : Res) (Q : KE) : KA := fun r => meC m (ro.get r.2) (deref r.2 r.1) r.2 Q E
def meF (m : Me) (a : I) (ro : Res) (Q : KE) : Option D → Nv → Prop
  | some x, e => m.fits x = true ∧ Wp (evA cx a e) (meB E m ro Q) E
  | _, _ => False
def meA (m : Me) (a : I) (Q : KE) : KE := fun r => meF cx E m a r.1 Q (r.1.get r.2) r.2
def muK (i : Nat) (e : Nv) (Q : KE) : D × Cell → Prop := fun q => Q (.val q.1, e.set i (.own q.2))
def muC (m : Mu) (i : Nat) : Option Slot → Option (List D) → Nv → KE → KX → Prop
  | some (.own c), some ds, e, Q, E => Wp (opMu m c ds) (muK i e Q) E
  | _, _, _, _, _ => False
def muB (m : Mu) (i : Nat) (Q : KE) : KA := fun r => muC m i r.2[i]? (noRef r.1) r.2 Q E
def muF (m : Mu) (i : Nat) (a : I) (Q : KE) : Option Slot → Nv → Prop
  | some (.own c), e => m.fits c = true ∧ Wp (evA cx a e) (muB E m i Q) E
  | _, _ => False
def lcK (e : I) (vs : List Nat) (tst : I) (Q : KE) : KT := fun r =>
  r.1.2.any (fun i => e.hits i || tst.hits i || vs.contains i) = false ∧ r.1.1.length ≤ 16777216 ∧
  Wp (noExc (lcM (bindV vs) (evTs cx tst) (fun en => (evE cx e en).bind fun x => (Out.of (noRef [x.1])).bind fun d => .ok (d.headD .non, x.2)) vs r.1.1 (wipeS r.2 vs))) (fun q => Q (.new (.lst q.1), backS r.2 q.2 vs)) E
/-! ### frames of what is walked -/
def rngC : Option (List D) → Nv → KT → Prop
  | some is, e, Q => Q ((is, []), e)
  | _, _, _ => False
def rngB : Option (List D) → Nv → KT → Prop
  | some ds, e, Q => rngC (opRng ds) e Q
  | _, _, _ => False
def rngA (Q : KT) : KA := fun r => rngB (noRef r.1) r.2 Q
def itC : Option (List D) → List Nat → Nv → KT → Prop
  | some ds, rf, e, Q => Q ((ds, rf), e)
  | _, _, _, _ => False
def itB : Option D → List Nat → Nv → KT → Prop
  | some d, rf, e, Q => itC (itemsIt d) rf e Q
  | _, _, _, _ => False
def itA (Q : KT) : KE := fun r => itB (r.1.get r.2) (refsOf [r.1]) r.2 Q
def enC : Option (List D) → List Nat → Nv → KT → Prop
  | some ds, rf, e, Q => Q ((enumD 0 ds, rf), e)
  | _, _, _, _ => False
def enB : Option D → List Nat → Nv → KT → Prop
  | some d, rf, e, Q => enC (lstOf d) rf e Q
  | _, _, _, _ => False
def enA (Q : KT) : KE := fun r => enB (r.1.get r.2) (refsOf [r.1]) r.2 Q
def rvC : Option (List D) → List Nat → Nv → KT → Prop
  | some ds, rf, e, Q => Q ((ds.reverse, rf), e)
  | _, _, _, _ => False
def rvB : Option D → List Nat → Nv → KT → Prop
  | some d, rf, e, Q => rvC (seqOf d) rf e Q
  | _, _, _, _ => False
def rvA (Q : KT) : KE := fun r => rvB (r.1.get r.2) (refsOf [r.1]) r.2 Q
def zpD : Option (List D × List D) → List Nat → Nv → KT → Prop
  | some q, rf, e, Q => Q ((zipD q.1 q.2, rf), e)
  | _, _, _, _ => False
def zpC : Option D → Option D → List Nat → Nv → KT → Prop
  | some x, some y, rf, e, Q => zpD (zipOf x y) rf e Q
  | _, _, _, _, _ => False
def zpB (ra : Res) (Q : KT) : KE := fun r => zpC (ra.get r.2) (r.1.get r.2) (refsOf [ra, r.1]) r.2 Q
def zpA (b : I) (Q : KT) : KE := fun r => Wp (evE cx b r.2) (zpB r.1 Q) E
/-! ### frames of statements -/
def exprK (Q : KS) : KE := fun r => Q (.next, r.2)
def asC (i : Nat) : Option Slot → Nv → KS → Prop
  | some s, e, Q => Q (.next, e.set i s)
  | _, _, _ => False
def asgK (i : Nat) (Q : KS) : KE := fun r => asC i (slotOf r.1) r.2 Q
def asgTC : Option Nv → KS → Prop
  | some e, Q => Q (.next, e)
  | _, _ => False
def asgTK (is : List Nat) (Q : KS) : KE := fun r => match r.1 with
  | .val (.tup ds) => asgTC (bindV is (.tup ds) r.2) Q
  | _ => False
def putD (i : Nat) : Option Cell → Nv → KS → Prop
  | some c, e, Q => Q (.next, e.set i (.own c))
  | _, _, _ => False
def putC (i : Nat) (d : D) (kd : D) : Option Slot → Nv → KS → Prop
  | some (.own c), e, Q => putD i (c.put kd d) e Q
  | _, _, _ => False
def putB (i : Nat) (d : D) (Q : KS) : KE := fun r => match r.1 with
  | .val kd => putC i d kd r.2[i]? r.2 Q
  | _ => False
def putE (i : Nat) (k : I) (Q : KS) : Option (List D) → Option Slot → Nv → Prop
  | some ds, some (.own _), e => Wp (evE cx k e) (putB i (ds.headD .non) Q) E
  | _, _, _ => False
def putA (i : Nat) (k : I) (Q : KS) : KE := fun r => putE cx E i k Q (noRef [r.1]) r.2[i]? r.2
def ifA (a b : I) (Q : KS) : KE := fun r => match r.1 with
  | .val (.bl true) => Wp (evS cx a r.2) Q E
  | .val (.bl false) => Wp (evS cx b r.2) Q E
  | _ => False
def forK (vs : List Nat) (b : I) (Q : KS) : KT := fun r =>
  r.1.2.any (fun i => b.hits i || vs.contains i) = false ∧ Wp (forM (bindV vs) (evS cx b) r.1.1 r.2) Q E
def retC : Option Res → Nv → KS → Prop
  | some v, e, Q => Q (.ret v, e)
  | _, _, _ => False
def retK (Q : KS) : KE := fun r => retC (r.1.out r.2) r.2 Q
def seqK (b : I) (Q : KS) : KS := fun r => match r.1 with
  | .next => Wp (evS cx b r.2) Q E
  | .ret v => Q (.ret v, r.2)
def finK (Q : Res → Prop) : KS := fun r => match r.1 with
  | .next => Q (.val .non)
  | .ret (.val d) => Q (.val d)
  | .ret (.new c) => Q (.new c)
  | .ret (.ref _) => False
end frames

section rules
variable {cx : Cxt} {E : KX} {env e : Nv} {a b c : I} {Q : KE} {S : KS} {A : KA} {P : KP} {T : KT}
/-! ### expressions -/
theorem w_var (h : Nat) : Wp (evE cx (.var h) env) Q E = match env[h]? with
    | some (.val d) => Q (.val d, env)
    | some (.own _) => Q (.ref h, env)
    | _ => False := by
  rw [ev_var]
  rcases env[h]? with _ | (_ | _ | _) <;> rfl
theorem w_kI (k : Int) : Wp (evE cx (.kI k) env) Q E = Q (.val (.int k), env) := by rw [ev_kI]; rfl
theorem w_kS (k : Str) : Wp (evE cx (.kS k) env) Q E = Q (.val (.str k), env) := by rw [ev_kS]; rfl
theorem w_kB (k : Bool) : Wp (evE cx (.kB k) env) Q E = Q (.val (.bl k), env) := by rw [ev_kB]; rfl
theorem w_kN : Wp (evE cx .kN env) Q E = Q (.val .non, env) := by rw [ev_kN]; rfl
theorem w_glob (n : Nat) : Wp (evE cx (.glob n) env) Q E = Wp (Out.of (cx.glob n)) (dK env Q) E := by rw [ev_glob, wp_bind]; rfl
theorem w_of {α : Type} (a : α) (Q : α → Prop) : Wp (Out.of (some a)) Q E = Q a := (rfl)
theorem w_bin (o : BOp) : Wp (evE cx (.bin o a b) env) Q E = Wp (evE cx a env) (binA cx E o b Q) E := by
  rw [ev_bin, wp_bind]
  congr 1; funext ⟨ra, e1⟩
  show Wp ((evE cx b e1).bind _) Q E = Wp (evE cx b e1) _ E
  rw [wp_bind]
  congr 1; funext ⟨rb, e2⟩
  show _ = binC o (ra.get e2) (rb.get e2) e2 Q E
  show Wp ((Out.of (ra.get e2)).bind fun x => (Out.of (rb.get e2)).bind fun y => (opBin o x y).bind fun r => .ok (r, e2)) Q E = _
  cases ra.get e2 with
  | none => rfl
  | some x => cases rb.get e2 with
    | none => rfl
    | some y => show Wp ((opBin o x y).bind _) Q E = _; rw [wp_bind]; rfl
theorem w_binA (o : BOp) (r : Res) : binA cx E o b Q (r, e) = Wp (evE cx b e) (binB E o r Q) E := (rfl)
theorem w_binB (o : BOp) (r s : Res) : binB E o r Q (s, e) = binC o (r.get e) (s.get e) e Q E := (rfl)
theorem w_binC (o : BOp) (x y : D) : binC o (some x) (some y) e Q E = Wp (opBin o x y) (opK e Q) E := (rfl)
theorem w_neg : Wp (evE cx (.neg a) env) Q E = Wp (evE cx a env) (negA E Q) E := by
  rw [ev_neg, wp_bind]
  congr 1; funext ⟨ra, e1⟩
  show Wp ((Out.of (ra.get e1)).bind fun x => (opNeg x).bind fun r => .ok (.val r, e1)) Q E = negB (ra.get e1) e1 Q E
  cases ra.get e1 with
  | none => rfl
  | some x => show Wp ((opNeg x).bind _) Q E = _; rw [wp_bind]; rfl
theorem w_negA (r : Res) : negA E Q (r, e) = negB (r.get e) e Q E := (rfl)
theorem w_negB (x : D) : negB (some x) e Q E = Wp (opNeg x) (dK e Q) E := (rfl)
theorem w_not : Wp (evE cx (.not_ a) env) Q E = Wp (evE cx a env) (notA Q) E := by
  rw [ev_not, wp_bind]
  congr 1; funext ⟨ra, e1⟩
  cases ra with
  | val d => cases d <;> rfl
  | new _ => rfl
  | ref _ => rfl
theorem w_notA (b : Bool) : notA Q (.val (.bl b), e) = Q (.val (.bl (!b)), e) := (rfl)
theorem w_cmp (o : COp) : Wp (evE cx (.cmp o a b) env) Q E = Wp (evE cx a env) (cmpA cx E o b Q) E := by
  rw [ev_cmp, wp_bind]
  congr 1; funext ⟨ra, e1⟩
  show Wp ((evE cx b e1).bind _) Q E = Wp (evE cx b e1) _ E
  rw [wp_bind]
  congr 1; funext ⟨rb, e2⟩
  show Wp ((Out.of (ra.get e2)).bind fun x => (Out.of (rb.get e2)).bind fun y => (opCmp o x y).bind fun r => .ok (.val (.bl r), e2)) Q E = cmpC o (ra.get e2) (rb.get e2) e2 Q E
  cases ra.get e2 with
  | none => rfl
  | some x => cases rb.get e2 with
    | none => rfl
    | some y => show Wp ((opCmp o x y).bind _) Q E = _; rw [wp_bind]; rfl
theorem w_cmpA (o : COp) (r : Res) : cmpA cx E o b Q (r, e) = Wp (evE cx b e) (cmpB E o r Q) E := (rfl)
theorem w_cmpB (o : COp) (r s : Res) : cmpB E o r Q (s, e) = cmpC o (r.get e) (s.get e) e Q E := (rfl)
theorem w_cmpC (o : COp) (x y : D) : cmpC o (some x) (some y) e Q E = Wp (opCmp o x y) (blK e Q) E := (rfl)
theorem w_cmp2 (o1 o2 : COp) : Wp (evE cx (.cmp2 o1 o2 a b c) env) Q E = Wp (evE cx a env) (c2A cx E o1 o2 b c Q) E := by
  rw [ev_cmp2, wp_bind]
  congr 1; funext ⟨ra, e1⟩
  show Wp ((evE cx b e1).bind _) Q E = Wp (evE cx b e1) _ E
  rw [wp_bind]
  congr 1; funext ⟨rb, e2⟩
  show Wp ((Out.of (ra.get e2)).bind fun x => (Out.of (rb.get e2)).bind fun y => (opCmp o1 x y).bind fun t => match t with
        | false => .ok (.val (.bl false), e2)
        | true => (evE cx c e2).bind fun rc => (Out.of (rb.get rc.2)).bind fun y => (Out.of (rc.1.get rc.2)).bind fun z => (opCmp o2 y z).bind fun r => .ok (.val (.bl r), rc.2)) Q E = cmpC o1 (ra.get e2) (rb.get e2) e2 (c2D cx E o2 rb c Q) E
  cases ra.get e2 with
  | none => rfl
  | some x => cases hb : rb.get e2 with
    | none => rfl
    | some y =>
      show Wp ((opCmp o1 x y).bind _) Q E = Wp (opCmp o1 x y) _ E
      rw [wp_bind]
      congr 1; funext t
      cases t with
      | false => rfl
      | true =>
        show Wp ((evE cx c e2).bind _) Q E = Wp (evE cx c e2) _ E
        rw [wp_bind]
        congr 1; funext ⟨rc, e3⟩
        show Wp ((Out.of (rb.get e3)).bind fun y => (Out.of (rc.get e3)).bind fun z => (opCmp o2 y z).bind fun r => .ok (.val (.bl r), e3)) Q E = cmpC o2 (rb.get e3) (rc.get e3) e3 Q E
        cases rb.get e3 with
        | none => rfl
        | some x => cases rc.get e3 with
          | none => rfl
          | some y => show Wp ((opCmp o2 x y).bind _) Q E = _; rw [wp_bind]; rfl
theorem w_c2A (o1 o2 : COp) (r : Res) : c2A cx E o1 o2 b c Q (r, e) = Wp (evE cx b e) (c2B cx E o1 o2 r c Q) E := (rfl)
theorem w_c2B (o1 o2 : COp) (r s : Res) : c2B cx E o1 o2 r c Q (s, e) = cmpC o1 (r.get e) (s.get e) e (c2D cx E o2 s c Q) E := (rfl)
theorem w_c2Dt (o2 : COp) (r : Res) : c2D cx E o2 r c Q (.val (.bl true), e) = Wp (evE cx c e) (c2E E o2 r Q) E := (rfl)
theorem w_c2Df (o2 : COp) (r : Res) : c2D cx E o2 r c Q (.val (.bl false), e) = Q (.val (.bl false), e) := (rfl)
theorem w_c2E (o2 : COp) (r s : Res) : c2E E o2 r Q (s, e) = cmpC o2 (r.get e) (s.get e) e Q E := (rfl)
theorem w_and : Wp (evE cx (.and_ a b) env) Q E = Wp (evE cx a env) (andA cx E b Q) E := by
  rw [ev_and, wp_bind]
  congr 1; funext ⟨ra, e1⟩
  cases ra with
  | val d => cases d with
    | bl t => cases t <;> rfl
    | _ => rfl
  | new _ => rfl
  | ref _ => rfl
theorem w_andT : andA cx E b Q (.val (.bl true), e) = Wp (evE cx b e) Q E := (rfl)
theorem w_andF : andA cx E b Q (.val (.bl false), e) = Q (.val (.bl false), e) := (rfl)
theorem w_or : Wp (evE cx (.or_ a b) env) Q E = Wp (evE cx a env) (orA cx E b Q) E := by
  rw [ev_or, wp_bind]
  congr 1; funext ⟨ra, e1⟩
  cases ra with
  | val d => cases d with
    | bl t => cases t <;> rfl
    | _ => rfl
  | new _ => rfl
  | ref _ => rfl
theorem w_orT : orA cx E b Q (.val (.bl true), e) = Q (.val (.bl true), e) := (rfl)
theorem w_orF : orA cx E b Q (.val (.bl false), e) = Wp (evE cx b e) Q E := (rfl)
theorem w_ite : Wp (evE cx (.ite c a b) env) Q E = Wp (evE cx c env) (iteA cx E a b Q) E := by
  rw [evE, wp_bind]
  congr 1; funext ⟨ra, e1⟩
  cases ra with
  | val d => cases d with
    | bl t => cases t <;> rfl
    | _ => rfl
  | new _ => rfl
  | ref _ => rfl
theorem w_iteT : iteA cx E a b Q (.val (.bl true), e) = Wp (evE cx a e) Q E := (rfl)
theorem w_iteF : iteA cx E a b Q (.val (.bl false), e) = Wp (evE cx b e) Q E := (rfl)
theorem w_tup : Wp (evE cx (.tup a) env) Q E = Wp (evA cx a env) (tupA Q) E := by
  rw [ev_tup, wp_bind]
  congr 1; funext ⟨ra, e1⟩
  show Wp ((Out.of (noRef ra)).bind fun ds => if ds.length ≤ 16777216 then .ok (.val (.tup ds), e1) else .stuck) Q E = tupC (noRef ra) e1 Q
  cases noRef ra with
  | none => rfl
  | some ds =>
    show Wp (if ds.length ≤ 16777216 then .ok (.val (.tup ds), e1) else .stuck) Q E = (ds.length ≤ 16777216 ∧ Q (.val (.tup ds), e1))
    by_cases h : ds.length ≤ 16777216
    · rw [if_pos h, wp_ok]; simp only [h, true_and]
    · rw [if_neg h, wp_stuck]; simp only [h, false_and]
theorem w_tupA (rs : List Res) : tupA Q (rs, e) = tupC (noRef rs) e Q := (rfl)
theorem w_tupC {ds : List D} (h : ds.length ≤ 16777216) : tupC (some ds) e Q = Q (.val (.tup ds), e) := by
  show (ds.length ≤ 16777216 ∧ Q (.val (.tup ds), e)) = _
  simp only [h, true_and]
theorem w_lst : Wp (evE cx (.lst a) env) Q E = Wp (evA cx a env) (lstA Q) E := by
  rw [ev_lst, wp_bind]
  congr 1; funext ⟨ra, e1⟩
  show Wp ((Out.of (noRef ra)).bind fun ds => if ds.length ≤ 16777216 then .ok (.new (.lst ds), e1) else .stuck) Q E = lstC (noRef ra) e1 Q
  cases noRef ra with
  | none => rfl
  | some ds =>
    show Wp (if ds.length ≤ 16777216 then .ok (.new (.lst ds), e1) else .stuck) Q E = (ds.length ≤ 16777216 ∧ Q (.new (.lst ds), e1))
    by_cases h : ds.length ≤ 16777216
    · rw [if_pos h, wp_ok]; simp only [h, true_and]
    · rw [if_neg h, wp_stuck]; simp only [h, false_and]
theorem w_lstA (rs : List Res) : lstA Q (rs, e) = lstC (noRef rs) e Q := (rfl)
theorem w_lstC {ds : List D} (h : ds.length ≤ 16777216) : lstC (some ds) e Q = Q (.new (.lst ds), e) := by
  show (ds.length ≤ 16777216 ∧ Q (.new (.lst ds), e)) = _
  simp only [h, true_and]
theorem w_dk0 : Wp (evE cx .dk0 env) Q E = Q (.new (.dK []), env) := by rw [ev_dk0]; rfl
theorem w_dt0 : Wp (evE cx .dt0 env) Q E = Q (.new (.dT []), env) := by rw [ev_dt0]; rfl
theorem w_nil : Wp (evA cx .nil env) A E = A ([], env) := by rw [ev_nil]; rfl
theorem w_cons : Wp (evA cx (.cons a b) env) A E = Wp (evE cx a env) (consA cx E b A) E := by
  rw [ev_cons, wp_bind]
  congr 1; funext ⟨ra, e1⟩
  show Wp ((evA cx b e1).bind _) A E = Wp (evA cx b e1) _ E
  rw [wp_bind]
  rfl
theorem w_consA (r : Res) : consA cx E b A (r, e) = Wp (evA cx b e) (consB r A) E := (rfl)
theorem w_consB (r : Res) (rs : List Res) : consB r A (rs, e) = A (r :: rs, e) := (rfl)
theorem w_idx : Wp (evE cx (.idx a b) env) Q E = Wp (evE cx a env) (idxA cx E b Q) E := by
  rw [ev_idx, wp_bind]
  congr 1; funext ⟨ra, e1⟩
  show Wp ((evE cx b e1).bind _) Q E = Wp (evE cx b e1) _ E
  rw [wp_bind]
  congr 1; funext ⟨rb, e2⟩
  show Wp ((Out.of (ra.get e2)).bind fun x => (Out.of (rb.get e2)).bind fun y => (opIdx x y).bind fun r => .ok (.val r, e2)) Q E = idxC (ra.get e2) (rb.get e2) e2 Q E
  cases ra.get e2 with
  | none => rfl
  | some x => cases rb.get e2 with
    | none => rfl
    | some y => show Wp ((opIdx x y).bind _) Q E = _; rw [wp_bind]; rfl
theorem w_idxA (r : Res) : idxA cx E b Q (r, e) = Wp (evE cx b e) (idxB E r Q) E := (rfl)
theorem w_idxB (r s : Res) : idxB E r Q (s, e) = idxC (r.get e) (s.get e) e Q E := (rfl)
theorem w_idxC (x y : D) : idxC (some x) (some y) e Q E = Wp (opIdx x y) (dK e Q) E := (rfl)
theorem w_sl (l h : I) : Wp (evE cx (.sl a l h) env) Q E = Wp (evE cx a env) (slA cx E l h Q) E := by
  rw [ev_sl, wp_bind]
  congr 1; funext ⟨ra, e1⟩
  show Wp ((evP cx l e1).bind _) Q E = Wp (evP cx l e1) _ E
  rw [wp_bind]
  congr 1; funext ⟨lo, e2⟩
  show Wp ((evP cx h e2).bind _) Q E = Wp (evP cx h e2) _ E
  rw [wp_bind]
  congr 1; funext ⟨hi, e3⟩
  show Wp ((Out.of (ra.get e3)).bind fun x => (opSl x lo hi).bind fun r => .ok (r, e3)) Q E = slD (ra.get e3) lo hi e3 Q E
  cases ra.get e3 with
  | none => rfl
  | some x => show Wp ((opSl x lo hi).bind _) Q E = _; rw [wp_bind]; rfl
theorem w_slA (l h : I) (r : Res) : slA cx E l h Q (r, e) = Wp (evP cx l e) (slB cx E h r Q) E := (rfl)
theorem w_slB (h : I) (r : Res) (lo : Option Int) : slB cx E h r Q (lo, e) = Wp (evP cx h e) (slC E r lo Q) E := (rfl)
theorem w_slC (r : Res) (lo hi : Option Int) : slC E r lo Q (hi, e) = slD (r.get e) lo hi e Q E := (rfl)
theorem w_slD (x : D) (lo hi : Option Int) : slD (some x) lo hi e Q E = Wp (opSl x lo hi) (opK e Q) E := (rfl)
theorem w_pN : Wp (evP cx .none_ env) P E = P (none, env) := by rw [evP_none]; rfl
theorem w_pE (h : (match a with | .none_ => false | _ => true) = true) : Wp (evP cx a env) P E = Wp (evE cx a env) (pK P) E := by
  rw [evP_eq _ _ h, wp_bind]
  congr 1; funext ⟨ra, e1⟩
  cases ra with
  | val d => cases d <;> rfl
  | new _ => rfl
  | ref _ => rfl
theorem w_pK (i : Int) : pK P (.val (.int i), e) = P (some i, e) := (rfl)
theorem w_pV (n : Nat) : Wp (evP cx (.var n) env) P E = Wp (evE cx (.var n) env) (pK P) E := (w_pE rfl)
theorem w_pI (n : Int) : Wp (evP cx (.kI n) env) P E = Wp (evE cx (.kI n) env) (pK P) E := (w_pE rfl)
theorem w_pB (o : BOp) : Wp (evP cx (.bin o a b) env) P E = Wp (evE cx (.bin o a b) env) (pK P) E := (w_pE rfl)
theorem w_pM : Wp (evP cx (.neg a) env) P E = Wp (evE cx (.neg a) env) (pK P) E := (w_pE rfl)
theorem w_pX : Wp (evP cx (.idx a b) env) P E = Wp (evE cx (.idx a b) env) (pK P) E := (w_pE rfl)
theorem w_pBi (o : Bi) : Wp (evP cx (.bi o a) env) P E = Wp (evE cx (.bi o a) env) (pK P) E := (w_pE rfl)
theorem w_pC (n : Nat) : Wp (evP cx (.call n a) env) P E = Wp (evE cx (.call n a) env) (pK P) E := (w_pE rfl)
theorem w_pG (n : Nat) : Wp (evP cx (.glob n) env) P E = Wp (evE cx (.glob n) env) (pK P) E := (w_pE rfl)
theorem w_call (n : Nat) : Wp (evE cx (.call n a) env) Q E = Wp (evA cx a env) (callA cx E n Q) E := by
  rw [ev_call, wp_bind]
  congr 1; funext ⟨rs, e1⟩
  show Wp ((Out.of (deref e1 rs)).bind fun ds => (lent rs (cx.call n ds)).bind fun v => .ok (v, e1)) Q E = callC cx E n (anyRef rs) (deref e1 rs) e1 Q
  cases deref e1 rs with
  | none => cases anyRef rs <;> rfl
  | some ds =>
    show Wp ((lent rs (cx.call n ds)).bind fun v => .ok (v, e1)) Q E = _
    unfold lent
    cases hA : anyRef rs with
    | false =>
      show Wp (((cx.call n ds).bind fun r => if (!false || r.solid) = true then .ok r else .stuck).bind fun v => .ok (v, e1)) Q E = Wp (cx.call n ds) (opK e1 Q) E
      cases cx.call n ds <;> rfl
    | true =>
      show Wp (((cx.call n ds).bind fun r => if (!true || r.solid) = true then .ok r else .stuck).bind fun v => .ok (v, e1)) Q E = Wp (cx.call n ds) (lentK e1 Q) E
      cases cx.call n ds with
      | stuck => rfl
      | exc x => rfl
      | ok r =>
        show Wp ((if (!true || r.solid) = true then Out.ok r else .stuck).bind fun v => .ok (v, e1)) Q E = (r.solid = true ∧ Q (r, e1))
        cases hs : r.solid with
        | false => simp [wp_stuck]
        | true => simp [wp_ok]
theorem w_callA (n : Nat) (rs : List Res) : callA cx E n Q (rs, e) = callC cx E n (anyRef rs) (deref e rs) e Q := (rfl)
theorem w_callF (n : Nat) (ds : List D) : callC cx E n false (some ds) e Q = Wp (cx.call n ds) (opK e Q) E := (rfl)
theorem w_callT (n : Nat) (ds : List D) : callC cx E n true (some ds) e Q = Wp (cx.call n ds) (lentK e Q) E := (rfl)
theorem w_lent {r : Res} (h : r.solid = true) : lentK e Q r = Q (r, e) := by
  show (r.solid = true ∧ Q (r, e)) = _
  simp only [h, true_and]
theorem w_bi (n : Bi) : Wp (evE cx (.bi n a) env) Q E = Wp (evA cx a env) (biA E n Q) E := by
  rw [ev_bi, wp_bind]
  congr 1; funext ⟨rs, e1⟩
  show Wp ((Out.of (deref e1 rs)).bind fun ds => (opBi n ds).bind fun v => .ok (v, e1)) Q E = biC n (deref e1 rs) e1 Q E
  cases deref e1 rs with
  | none => rfl
  | some ds => show Wp ((opBi n ds).bind _) Q E = _; rw [wp_bind]; rfl
theorem w_biA (n : Bi) (rs : List Res) : biA E n Q (rs, e) = biC n (deref e rs) e Q E := (rfl)
theorem w_biC (n : Bi) (ds : List D) : biC n (some ds) e Q E = Wp (opBi n ds) (opK e Q) E := (rfl)
theorem w_me (m : Me) (o : I) : Wp (evE cx (.me m o a) env) Q E = Wp (evE cx o env) (meA cx E m a Q) E := by
  rw [ev_me, wp_bind]
  congr 1; funext ⟨ro, e1⟩
  show Wp ((Out.of (ro.get e1)).bind fun x0 => if m.fits x0 = true then
      (evA cx a e1).bind fun r => (Out.of (ro.get r.2)).bind fun x => (Out.of (deref r.2 r.1)).bind fun ds => (opMe m x ds).bind fun v => .ok (v, r.2)
      else .stuck) Q E = meF cx E m a ro Q (ro.get e1) e1
  cases ro.get e1 with
  | none => rfl
  | some x =>
    show Wp (if m.fits x = true then _ else .stuck) Q E = (m.fits x = true ∧ Wp (evA cx a e1) (meB E m ro Q) E)
    by_cases h : m.fits x = true
    · rw [if_pos h, wp_bind]
      simp only [h, true_and]
      congr 1; funext ⟨rs, e2⟩
      show Wp ((Out.of (ro.get e2)).bind fun x => (Out.of (deref e2 rs)).bind fun ds => (opMe m x ds).bind fun v => .ok (v, e2)) Q E = meC m (ro.get e2) (deref e2 rs) e2 Q E
      cases ro.get e2 with
      | none => rfl
      | some x => cases deref e2 rs with
        | none => rfl
        | some ds => show Wp ((opMe m x ds).bind _) Q E = _; rw [wp_bind]; rfl
    · rw [if_neg h, wp_stuck]; simp [h]
theorem w_meA (m : Me) (r : Res) : meA cx E m a Q (r, e) = meF cx E m a r Q (r.get e) e := (rfl)
theorem w_meF {m : Me} {x : D} (r : Res) (h : m.fits x = true) : meF cx E m a r Q (some x) e = Wp (evA cx a e) (meB E m r Q) E := by
  show (m.fits x = true ∧ _) = _
  simp only [h, true_and]
theorem w_meB (m : Me) (r : Res) (rs : List Res) : meB E m r Q (rs, e) = meC m (r.get e) (deref e rs) e Q E := (rfl)
theorem w_meC (m : Me) (x : D) (ds : List D) : meC m (some x) (some ds) e Q E = Wp (opMe m x ds) (opK e Q) E := (rfl)
theorem w_mu (m : Mu) (i : Nat) : Wp (evE cx (.mu m i a) env) Q E = muF cx E m i a Q env[i]? env := by
  rw [ev_mu]
  cases env[i]? with
  | none => rfl
  | some s => cases s with
    | emp => rfl
    | val d => rfl
    | own c0 =>
      show Wp (if m.fits c0 = true then _ else .stuck) Q E = (m.fits c0 = true ∧ Wp (evA cx a env) (muB E m i Q) E)
      by_cases h : m.fits c0 = true
      · rw [if_pos h, wp_bind]
        simp only [h, true_and]
        congr 1; funext ⟨rs, e2⟩
        show Wp ((Out.of (noRef rs)).bind fun ds => match e2[i]? with
          | some (.own c) => (opMu m c ds).bind fun q => .ok (.val q.1, e2.set i (.own q.2))
          | _ => .stuck) Q E = muC m i e2[i]? (noRef rs) e2 Q E
        cases noRef rs with
        | none =>
          cases e2[i]? with
          | none => rfl
          | some s => cases s <;> rfl
        | some ds =>
          cases e2[i]? with
          | none => rfl
          | some s => cases s with
            | emp => rfl
            | val d => rfl
            | own c => show Wp ((opMu m c ds).bind _) Q E = _; rw [wp_bind]; rfl
      · rw [if_neg h, wp_stuck]; simp [h]
theorem w_muF {m : Mu} {c : Cell} (i : Nat) (h : m.fits c = true) : muF cx E m i a Q (some (.own c)) e = Wp (evA cx a e) (muB E m i Q) E := by
  show (m.fits c = true ∧ _) = _
  simp only [h, true_and]
theorem w_muB (m : Mu) (i : Nat) (rs : List Res) : muB E m i Q (rs, e) = muC m i e[i]? (noRef rs) e Q E := (rfl)
theorem w_muC (m : Mu) (i : Nat) (c : Cell) (ds : List D) : muC m i (some (.own c)) (some ds) e Q E = Wp (opMu m c ds) (muK i e Q) E := (rfl)
theorem w_muK (i : Nat) (d : D) (c : Cell) : muK i e Q (d, c) = Q (.val d, e.set i (.own c)) := (rfl)
theorem w_opK (r : Res) : opK e Q r = Q (r, e) := (rfl)
theorem w_dK (d : D) : dK e Q d = Q (.val d, e) := (rfl)
theorem w_blK (d : Bool) : blK e Q d = Q (.val (.bl d), e) := (rfl)
theorem w_lc (vs : List Nat) (src tst x : I) : Wp (evE cx (.lc x vs src tst) env) Q E = Wp (evIt cx src env) (lcK cx E x vs tst Q) E := by
  rw [ev_lc, wp_bind]
  congr 1; funext ⟨⟨ds, refs⟩, e1⟩
  show Wp (if (refs.any (fun i => x.hits i || tst.hits i || vs.contains i) || decide (16777216 < ds.length)) = true then .stuck else
      (noExc (lcM (bindV vs) (evTs cx tst) (fun en => (evE cx x en).bind fun x => (Out.of (noRef [x.1])).bind fun d => .ok (d.headD .non, x.2)) vs ds (wipeS e1 vs))).bind fun q =>
        .ok (.new (.lst q.1), backS e1 q.2 vs)) Q E = (refs.any (fun i => x.hits i || tst.hits i || vs.contains i) = false ∧ ds.length ≤ 16777216 ∧ _)
  cases refs.any (fun i => x.hits i || tst.hits i || vs.contains i) with
  | true => simp [wp_stuck]
  | false =>
    by_cases h : ds.length ≤ 16777216
    · have : decide (16777216 < ds.length) = false := decide_eq_false (by omega)
      rw [this]
      simp only [Bool.or_self, Bool.false_eq_true, if_false, h, true_and]
      rw [wp_bind]
      rfl
    · have : decide (16777216 < ds.length) = true := decide_eq_true (by omega)
      rw [this]
      simp only [Bool.or_true, if_true, h, false_and, and_false, wp_stuck]
/-! ### what is walked -/
theorem w_iRng : Wp (evIt cx (.iRng a) env) T E = Wp (evA cx a env) (rngA T) E := by
  rw [evIt_rng, wp_bind]
  congr 1; funext ⟨rs, e1⟩
  show Wp ((Out.of (noRef rs)).bind fun ds => (Out.of (opRng ds)).bind fun is => .ok ((is, []), e1)) T E = rngB (noRef rs) e1 T
  cases noRef rs with
  | none => rfl
  | some ds =>
    show Wp ((Out.of (opRng ds)).bind fun is => .ok ((is, []), e1)) T E = rngC (opRng ds) e1 T
    cases opRng ds <;> rfl
theorem w_rngA (rs : List Res) : rngA T (rs, e) = rngB (noRef rs) e T := (rfl)
theorem w_rng1 {j : Int} (h1 : -1000000000 ≤ j) (h2 : j ≤ 1000000000) : rngB (some [.int j]) e T = T ((rngD 0 j, []), e) := by
  show rngC (if rngOk j = true then some (rngD 0 j) else none) e T = _
  rw [if_pos (by unfold rngOk; rw [decide_eq_true_iff]; omega)]
  rfl
theorem w_rng2 {i j : Int} (h1 : -1000000000 ≤ j) (h2 : j ≤ 1000000000) (h3 : -1000000000 ≤ i) (h4 : i ≤ 1000000000) : rngB (some [.int i, .int j]) e T = T ((rngD i j, []), e) := by
  show rngC (if (rngOk i && rngOk j) = true then some (rngD i j) else none) e T = _
  have a1 : rngOk i = true := by unfold rngOk; rw [decide_eq_true_iff]; omega
  have a2 : rngOk j = true := by unfold rngOk; rw [decide_eq_true_iff]; omega
  rw [if_pos (by rw [a1, a2]; rfl)]
  rfl
theorem w_it (h : isSrc a = true) : Wp (evIt cx a env) T E = Wp (evE cx a env) (itA T) E := by
  rw [evIt_eq _ _ h, wp_bind]
  congr 1; funext ⟨r, e1⟩
  show Wp ((Out.of (r.get e1)).bind fun d => (Out.of (itemsIt d)).bind fun ds => .ok ((ds, refsOf [r]), e1)) T E = itB (r.get e1) (refsOf [r]) e1 T
  cases r.get e1 with
  | none => rfl
  | some d =>
    show Wp ((Out.of (itemsIt d)).bind fun ds => .ok ((ds, refsOf [r]), e1)) T E = itC (itemsIt d) (refsOf [r]) e1 T
    cases itemsIt d <;> rfl
theorem w_itA (r : Res) : itA T (r, e) = itB (r.get e) (refsOf [r]) e T := (rfl)
theorem w_itB (d : D) (rf : List Nat) : itB (some d) rf e T = itC (itemsIt d) rf e T := (rfl)
theorem w_itC (ds : List D) (rf : List Nat) : itC (some ds) rf e T = T ((ds, rf), e) := (rfl)
theorem w_itV (n : Nat) : Wp (evIt cx (.var n) env) T E = Wp (evE cx (.var n) env) (itA T) E := (w_it rfl)
theorem w_itG (n : Nat) : Wp (evIt cx (.glob n) env) T E = Wp (evE cx (.glob n) env) (itA T) E := (w_it rfl)
theorem w_itS (n : Str) : Wp (evIt cx (.kS n) env) T E = Wp (evE cx (.kS n) env) (itA T) E := (w_it rfl)
theorem w_itBin (o : BOp) : Wp (evIt cx (.bin o a b) env) T E = Wp (evE cx (.bin o a b) env) (itA T) E := (w_it rfl)
theorem w_itTup : Wp (evIt cx (.tup a) env) T E = Wp (evE cx (.tup a) env) (itA T) E := (w_it rfl)
theorem w_itLst : Wp (evIt cx (.lst a) env) T E = Wp (evE cx (.lst a) env) (itA T) E := (w_it rfl)
theorem w_itIdx : Wp (evIt cx (.idx a b) env) T E = Wp (evE cx (.idx a b) env) (itA T) E := (w_it rfl)
theorem w_itSl (l h : I) : Wp (evIt cx (.sl a l h) env) T E = Wp (evE cx (.sl a l h) env) (itA T) E := (w_it rfl)
theorem w_itCall (n : Nat) : Wp (evIt cx (.call n a) env) T E = Wp (evE cx (.call n a) env) (itA T) E := (w_it rfl)
theorem w_itBi (n : Bi) : Wp (evIt cx (.bi n a) env) T E = Wp (evE cx (.bi n a) env) (itA T) E := (w_it rfl)
theorem w_itMe (m : Me) (o : I) : Wp (evIt cx (.me m o a) env) T E = Wp (evE cx (.me m o a) env) (itA T) E := (w_it rfl)
theorem w_itLc (vs : List Nat) (x s t : I) : Wp (evIt cx (.lc x vs s t) env) T E = Wp (evE cx (.lc x vs s t) env) (itA T) E := (w_it rfl)
theorem w_enum : Wp (evIt cx (.iEnum a) env) T E = Wp (evE cx a env) (enA T) E := by
  rw [evIt_enum, wp_bind]
  congr 1; funext ⟨r, e1⟩
  show Wp ((Out.of (r.get e1)).bind fun d => (Out.of (lstOf d)).bind fun ds => .ok ((enumD 0 ds, refsOf [r]), e1)) T E = enB (r.get e1) (refsOf [r]) e1 T
  cases r.get e1 with
  | none => rfl
  | some d =>
    show Wp ((Out.of (lstOf d)).bind fun ds => .ok ((enumD 0 ds, refsOf [r]), e1)) T E = enC (lstOf d) (refsOf [r]) e1 T
    cases lstOf d <;> rfl
theorem w_enA (r : Res) : enA T (r, e) = enB (r.get e) (refsOf [r]) e T := (rfl)
theorem w_enB (ds : List D) (rf : List Nat) : enB (some (.lst ds)) rf e T = T ((enumD 0 ds, rf), e) := (rfl)
theorem w_irev : Wp (evIt cx (.iRev a) env) T E = Wp (evE cx a env) (rvA T) E := by
  rw [evIt_rev, wp_bind]
  congr 1; funext ⟨r, e1⟩
  show Wp ((Out.of (r.get e1)).bind fun d => (Out.of (seqOf d)).bind fun ds => .ok ((ds.reverse, refsOf [r]), e1)) T E = rvB (r.get e1) (refsOf [r]) e1 T
  cases r.get e1 with
  | none => rfl
  | some d =>
    show Wp ((Out.of (seqOf d)).bind fun ds => .ok ((ds.reverse, refsOf [r]), e1)) T E = rvC (seqOf d) (refsOf [r]) e1 T
    cases seqOf d <;> rfl
theorem w_rvA (r : Res) : rvA T (r, e) = rvB (r.get e) (refsOf [r]) e T := (rfl)
theorem w_rvBl (ds : List D) (rf : List Nat) : rvB (some (.lst ds)) rf e T = T ((ds.reverse, rf), e) := (rfl)
theorem w_rvBt (ds : List D) (rf : List Nat) : rvB (some (.tup ds)) rf e T = T ((ds.reverse, rf), e) := (rfl)
theorem w_izip : Wp (evIt cx (.iZip a b) env) T E = Wp (evE cx a env) (zpA cx E b T) E := by
  rw [evIt_zip, wp_bind]
  congr 1; funext ⟨ra, e1⟩
  show Wp ((evE cx b e1).bind _) T E = Wp (evE cx b e1) _ E
  rw [wp_bind]
  congr 1; funext ⟨rb, e2⟩
  show Wp ((Out.of (ra.get e2)).bind fun x => (Out.of (rb.get e2)).bind fun y => (Out.of (zipOf x y)).bind fun q => .ok ((zipD q.1 q.2, refsOf [ra, rb]), e2)) T E = zpC (ra.get e2) (rb.get e2) (refsOf [ra, rb]) e2 T
  cases ra.get e2 with
  | none => rfl
  | some x => cases rb.get e2 with
    | none => rfl
    | some y =>
      show Wp ((Out.of (zipOf x y)).bind fun q => .ok ((zipD q.1 q.2, refsOf [ra, rb]), e2)) T E = zpD (zipOf x y) (refsOf [ra, rb]) e2 T
      cases zipOf x y <;> rfl
theorem w_zpA (r : Res) : zpA cx E b T (r, e) = Wp (evE cx b e) (zpB r T) E := (rfl)
theorem w_zpB (r s : Res) : zpB r T (s, e) = zpC (r.get e) (s.get e) (refsOf [r, s]) e T := (rfl)
theorem w_zpll (x y : List D) (rf : List Nat) : zpC (some (.lst x)) (some (.lst y)) rf e T = T ((zipD x y, rf), e) := (rfl)
theorem w_zplt (x y : List D) (rf : List Nat) : zpC (some (.lst x)) (some (.tup y)) rf e T = T ((zipD x y, rf), e) := (rfl)
theorem w_zptl (x y : List D) (rf : List Nat) : zpC (some (.tup x)) (some (.lst y)) rf e T = T ((zipD x y, rf), e) := (rfl)
theorem w_zptt (x y : List D) (rf : List Nat) : zpC (some (.tup x)) (some (.tup y)) rf e T = T ((zipD x y, rf), e) := (rfl)
def ezC : Option D → Option D → List Nat → Nv → KT → Prop
  | some (.lst x), some (.lst y), rf, e, Q => Q ((enumD 0 (zipD x y), rf), e)
  | _, _, _, _, _ => False
def ezB (ra : Res) (Q : KT) : KE := fun r => ezC (ra.get r.2) (r.1.get r.2) (refsOf [ra, r.1]) r.2 Q
def ezA (cx : Cxt) (E : KX) (b : I) (Q : KT) : KE := fun r => Wp (evE cx b r.2) (ezB r.1 Q) E
theorem w_iez : Wp (evIt cx (.iEZ a b) env) T E = Wp (evE cx a env) (ezA cx E b T) E := by
  rw [evIt, wp_bind]
  congr 1; funext ⟨ra, e1⟩
  show Wp ((evE cx b e1).bind _) T E = Wp (evE cx b e1) _ E
  rw [wp_bind]
  congr 1; funext ⟨rb, e2⟩
  show Wp ((Out.of (ra.get e2)).bind fun x => (Out.of (rb.get e2)).bind fun y => (Out.of (lstOf x)).bind fun xs => (Out.of (lstOf y)).bind fun ys => .ok ((enumD 0 (zipD xs ys), refsOf [ra, rb]), e2)) T E = ezC (ra.get e2) (rb.get e2) (refsOf [ra, rb]) e2 T
  cases ra.get e2 with
  | none => rfl
  | some x => cases rb.get e2 with
    | none => cases x <;> rfl
    | some y => cases x <;> cases y <;> rfl
theorem w_ezA (r : Res) : ezA cx E b T (r, e) = Wp (evE cx b e) (ezB r T) E := (rfl)
theorem w_ezB (r s : Res) : ezB r T (s, e) = ezC (r.get e) (s.get e) (refsOf [r, s]) e T := (rfl)
theorem w_ezC (x y : List D) (rf : List Nat) : ezC (some (.lst x)) (some (.lst y)) rf e T = T ((enumD 0 (zipD x y), rf), e) := (rfl)
/-! ### statements -/
theorem w_pass : Wp (evS cx .pass env) S E = S (.next, env) := by rw [evS_pass]; rfl
theorem w_done : Wp (evS cx .done env) S E = S (.next, env) := by rw [evS_done]; rfl
theorem w_expr : Wp (evS cx (.expr a) env) S E = Wp (evE cx a env) (exprK S) E := by rw [evS_expr, wp_bind]; rfl
theorem w_exprK (r : Res) : exprK S (r, e) = S (.next, e) := (rfl)
theorem w_asg (i : Nat) : Wp (evS cx (.asg i a) env) S E = Wp (evE cx a env) (asgK i S) E := by
  rw [evS_asg, wp_bind]
  congr 1; funext ⟨r, e1⟩
  cases r <;> rfl
theorem w_asgV (i : Nat) (d : D) : asgK i S (.val d, e) = S (.next, e.set i (.val d)) := (rfl)
theorem w_asgN (i : Nat) (c : Cell) : asgK i S (.new c, e) = S (.next, e.set i (.own c)) := (rfl)
theorem w_asgT (is : List Nat) : Wp (evS cx (.asgT is a) env) S E = Wp (evE cx a env) (asgTK is S) E := by
  rw [evS_asgT, wp_bind]
  congr 1; funext ⟨r, e1⟩
  cases r with
  | val d => cases d with
    | tup ds => show Wp ((Out.of (bindV is (.tup ds) e1)).bind fun e => .ok (.next, e)) S E = asgTC (bindV is (.tup ds) e1) S; cases bindV is (.tup ds) e1 <;> rfl
    | _ => rfl
  | new _ => rfl
  | ref _ => rfl
theorem w_asgTK (is : List Nat) (ds : List D) : asgTK is S (.val (.tup ds), e) = asgTC (bindV is (.tup ds) e) S := (rfl)
theorem w_asgTC : asgTC (some e) S = S (.next, e) := (rfl)
theorem w_put (i : Nat) : Wp (evS cx (.put i a b) env) S E = Wp (evE cx b env) (putA cx E i a S) E := by
  rw [evS_put, wp_bind]
  congr 1; funext ⟨rv, e1⟩
  show Wp ((Out.of (noRef [rv])).bind fun d => match e1[i]? with
    | some (.own _) => (evE cx a e1).bind fun rk => match rk.1, rk.2[i]? with
      | .val kd, some (.own c) => (Out.of (c.put kd (d.headD .non))).bind fun c' => .ok (.next, rk.2.set i (.own c'))
      | _, _ => .stuck
    | _ => .stuck) S E = putE cx E i a S (noRef [rv]) e1[i]? e1
  cases noRef [rv] with
  | none => cases e1[i]? with
    | none => rfl
    | some s => cases s <;> rfl
  | some ds => cases e1[i]? with
    | none => rfl
    | some s => cases s with
      | emp => rfl
      | val d => rfl
      | own c0 =>
        show Wp ((evE cx a e1).bind _) S E = Wp (evE cx a e1) _ E
        rw [wp_bind]
        congr 1; funext ⟨rk, e2⟩
        cases rk with
        | val kd =>
          show _ = putC i (ds.headD .non) kd e2[i]? e2 S
          show Wp (match Res.val kd, e2[i]? with
            | .val kd, some (.own c) => (Out.of (c.put kd (ds.headD .non))).bind fun c' => .ok (.next, e2.set i (.own c'))
            | _, _ => .stuck) S E = _
          cases e2[i]? with
          | none => rfl
          | some s => cases s with
            | emp => rfl
            | val d => rfl
            | own c =>
              show Wp ((Out.of (c.put kd (ds.headD .non))).bind fun c' => .ok (.next, e2.set i (.own c'))) S E = putD i (c.put kd (ds.headD .non)) e2 S
              cases c.put kd (ds.headD .non) <;> rfl
        | new _ => rfl
        | ref _ => rfl
theorem w_putA (i : Nat) (r : Res) : putA cx E i a S (r, e) = putE cx E i a S (noRef [r]) e[i]? e := (rfl)
theorem w_putE (i : Nat) (d : D) (c : Cell) : putE cx E i a S (some [d]) (some (.own c)) e = Wp (evE cx a e) (putB i d S) E := (rfl)
theorem w_putB (i : Nat) (d k : D) : putB i d S (.val k, e) = putC i d k e[i]? e S := (rfl)
theorem w_putC (i : Nat) (d k : D) (c : Cell) : putC i d k (some (.own c)) e S = putD i (c.put k d) e S := (rfl)
theorem w_putD (i : Nat) (c : Cell) : putD i (some c) e S = S (.next, e.set i (.own c)) := (rfl)
theorem w_if : Wp (evS cx (.if_ c a b) env) S E = Wp (evE cx c env) (ifA cx E a b S) E := by
  rw [evS_if, evT_eq, wp_bind, wp_bind]
  congr 1; funext ⟨r, e1⟩
  cases r with
  | val d => cases d with
    | bl t => cases t <;> rfl
    | _ => rfl
  | new _ => rfl
  | ref _ => rfl
theorem w_ifT : ifA cx E a b S (.val (.bl true), e) = Wp (evS cx a e) S E := (rfl)
theorem w_ifF : ifA cx E a b S (.val (.bl false), e) = Wp (evS cx b e) S E := (rfl)
theorem w_for (vs : List Nat) : Wp (evS cx (.for_ vs a b) env) S E = Wp (evIt cx a env) (forK cx E vs b S) E := by
  rw [evS_for, wp_bind]
  congr 1; funext ⟨⟨ds, refs⟩, e1⟩
  show Wp (if refs.any (fun i => b.hits i || vs.contains i) = true then .stuck else forM (bindV vs) (evS cx b) ds e1) S E = (refs.any (fun i => b.hits i || vs.contains i) = false ∧ _)
  cases refs.any (fun i => b.hits i || vs.contains i) with
  | true => simp [wp_stuck]
  | false => simp
theorem w_ret : Wp (evS cx (.ret a) env) S E = Wp (evE cx a env) (retK S) E := by
  rw [evS_ret, wp_bind]
  congr 1; funext ⟨r, e1⟩
  show Wp ((Out.of (r.out e1)).bind fun v => .ok (.ret v, e1)) S E = retC (r.out e1) e1 S
  cases r.out e1 <;> rfl
theorem w_retK (r : Res) : retK S (r, e) = retC (r.out e) e S := (rfl)
theorem w_retC (r : Res) : retC (some r) e S = S (.ret r, e) := (rfl)
theorem w_retN : Wp (evS cx .retN env) S E = S (.ret (.val .non), env) := by rw [evS_retN]; rfl
theorem w_frz (i : Nat) : Wp (evS cx (.frz i) env) S E = match env[i]? with
    | some (.own c) => S (.next, env.set i (.val c.d))
    | _ => S (.next, env) := by
  rw [evS_frz]
  rcases env[i]? with _ | (_ | _ | _) <;> rfl
theorem w_seq : Wp (evS cx (.seq a b) env) S E = Wp (evS cx a env) (seqK cx E b S) E := by
  rw [evS_seq, wp_bind]
  congr 1; funext ⟨f, e1⟩
  cases f <;> rfl
theorem w_seqN : seqK cx E b S (.next, e) = Wp (evS cx b e) S E := (rfl)
theorem w_seqR (r : Res) : seqK cx E b S (.ret r, e) = S (.ret r, e) := (rfl)
theorem w_fin {o : Out (Fl × Nv)} {R : Res → Prop} : Wp (fin o) R E = Wp o (finK R) E := by
  cases o with
  | stuck => rfl
  | exc x => rfl
  | ok r =>
    obtain ⟨f, e1⟩ := r
    cases f with
    | next => rfl
    | ret v => cases v <;> rfl
theorem w_finN {R : Res → Prop} : finK R (.next, e) = R (.val .non) := (rfl)
theorem w_finRv {R : Res → Prop} (d : D) : finK R (.ret (.val d), e) = R (.val d) := (rfl)
theorem w_finRn {R : Res → Prop} (c : Cell) : finK R (.ret (.new c), e) = R (.new c) := (rfl)
end rules
/-! ### dicts of one pair, lists turned about, exceptions -/
section
variable {cx : Cxt} {E : KX} {env e : Nv} {a b h : I} {Q : KE} {S : KS}
def diD : Option Cell → Nv → KE → Prop
  | some c, e, Q => Q (.new c, e)
  | _, _, _ => False
def diC (mk : List D → Option Cell) : Option (List D) → Nv → KE → Prop
  | some ds, e, Q => diD (mk ds) e Q
  | _, _, _ => False
def diB (mk : List D → Option Cell) (ra : Res) (Q : KE) : KE := fun r => diC mk (noRef [ra, r.1]) r.2 Q
def diA (cx : Cxt) (E : KX) (mk : List D → Option Cell) (b : I) (Q : KE) : KE := fun r => Wp (evE cx b r.2) (diB mk r.1 Q) E
theorem w_di {mk : List D → Option Cell} {i : I} (hi : evE cx i env = (evE cx a env).bind fun rk => (evE cx b rk.2).bind fun rv => (Out.of (noRef [rk.1, rv.1])).bind fun ds => (Out.of (mk ds)).bind fun c => .ok (.new c, rv.2)) : Wp (evE cx i env) Q E = Wp (evE cx a env) (diA cx E mk b Q) E := by
  rw [hi, wp_bind]
  congr 1; funext ⟨ra, e1⟩
  show Wp ((evE cx b e1).bind _) Q E = Wp (evE cx b e1) _ E
  rw [wp_bind]
  congr 1; funext ⟨rb, e2⟩
  show Wp ((Out.of (noRef [ra, rb])).bind fun ds => (Out.of (mk ds)).bind fun c => .ok (.new c, e2)) Q E = diC mk (noRef [ra, rb]) e2 Q
  cases noRef [ra, rb] with
  | none => rfl
  | some ds =>
    show Wp ((Out.of (mk ds)).bind fun c => .ok (.new c, e2)) Q E = diD (mk ds) e2 Q
    cases mk ds <;> rfl
theorem w_dispK : Wp (evE cx (.dispK a b) env) Q E = Wp (evE cx a env) (diA cx E disK b Q) E := w_di (by rw [evE])
theorem w_dispT : Wp (evE cx (.dispT a b) env) Q E = Wp (evE cx a env) (diA cx E disT b Q) E := w_di (by rw [evE])
theorem w_diA (mk : List D → Option Cell) (r : Res) : diA cx E mk b Q (r, e) = Wp (evE cx b e) (diB mk r Q) E := (rfl)
theorem w_diB (mk : List D → Option Cell) (r s : Res) : diB mk r Q (s, e) = diC mk (noRef [r, s]) e Q := (rfl)
theorem w_diC (mk : List D → Option Cell) (ds : List D) : diC mk (some ds) e Q = diD (mk ds) e Q := (rfl)
theorem w_diD (c : Cell) : diD (some c) e Q = Q (.new c, e) := (rfl)
theorem dis_i (i : Int) (d : D) : disK [.int i, d] = some (.dK [(.inl i, d)]) := (rfl)
theorem dis_s (i : Str) (d : D) : disK [.str i, d] = some (.dK [(.inr i, d)]) := (rfl)
theorem dis_t2 (i j : Int) (d : D) : disT [.tup [.int i, .int j], d] = some (.dT [([.inl i, .inl j], d)]) := (rfl)
def rvlC : Option D → Nv → KE → Prop
  | some (.lst ds), e, Q => Q (.new (.lst ds.reverse), e)
  | _, _, _ => False
def rvlA (Q : KE) : KE := fun r => rvlC (r.1.get r.2) r.2 Q
theorem w_revL : Wp (evE cx (.revL a) env) Q E = Wp (evE cx a env) (rvlA Q) E := by
  rw [evE, wp_bind]
  congr 1; funext ⟨ra, e1⟩
  show Wp ((Out.of (ra.get e1)).bind fun x => (Out.of (revD x)).bind fun ds => .ok (.new (.lst ds), e1)) Q E = rvlC (ra.get e1) e1 Q
  cases ra.get e1 with
  | none => rfl
  | some x => cases x <;> rfl
theorem w_rvlA (r : Res) : rvlA Q (r, e) = rvlC (r.get e) e Q := (rfl)
theorem w_rvlC (ds : List D) : rvlC (some (.lst ds)) e Q = Q (.new (.lst ds.reverse), e) := (rfl)
def isEB : Option Bool → Nv → KE → Prop
  | some b, e, Q => Q (.val (.bl b), e)
  | _, _, _ => False
def isEC' (cx : Cxt) (cs : List Str) : Option D → Nv → KE → Prop
  | some d, e, Q => isEB (isEx cx.sub cs d) e Q
  | _, _, _ => False
def isEA (cx : Cxt) (cs : List Str) (Q : KE) : KE := fun r => isEC' cx cs (r.1.get r.2) r.2 Q
theorem w_isE (cs : List Str) : Wp (evE cx (.isE cs a) env) Q E = Wp (evE cx a env) (isEA cx cs Q) E := by
  rw [evE, wp_bind]
  congr 1; funext ⟨ra, e1⟩
  show Wp ((Out.of (ra.get e1)).bind fun x => (Out.of (isEx cx.sub cs x)).bind fun b => .ok (.val (.bl b), e1)) Q E = isEC' cx cs (ra.get e1) e1 Q
  cases ra.get e1 with
  | none => rfl
  | some x =>
    show Wp ((Out.of (isEx cx.sub cs x)).bind fun b => .ok (.val (.bl b), e1)) Q E = isEB (isEx cx.sub cs x) e1 Q
    cases isEx cx.sub cs x <;> rfl
theorem w_isEA (cs : List Str) (r : Res) : isEA cx cs Q (r, e) = isEC' cx cs (r.get e) e Q := (rfl)
theorem w_isEC (cs : List Str) (y : Str) (t : Option Int) : isEC' cx cs (some (.exn y t)) e Q = isEB (subAny cx.sub y cs) e Q := (rfl)
theorem w_isEB (b : Bool) : isEB (some b) e Q = Q (.val (.bl b), e) := (rfl)
theorem subAny_nil (sub : Str → Str → Option Bool) (y : Str) : subAny sub y [] = some false := (rfl)
theorem subAny_cons {sub : Str → Str → Option Bool} {y c : Str} {b : Bool} (cs : List Str) (h : sub y c = some b) : subAny sub y (c :: cs) = (subAny sub y cs).map fun r => b || r := by
  show (sub y c).bind _ = _
  rw [h]; rfl
def atC (cx : Cxt) : Option D → Nv → KE → Prop
  | some d, e, Q => (match atOf cx.sub d with
    | some i => Q (.val (.int i), e)
    | none => False)
  | _, _, _ => False
def atA (cx : Cxt) (Q : KE) : KE := fun r => atC cx (r.1.get r.2) r.2 Q
theorem w_atE : Wp (evE cx (.atE a) env) Q E = Wp (evE cx a env) (atA cx Q) E := by
  rw [evE, wp_bind]
  congr 1; funext ⟨ra, e1⟩
  show Wp ((Out.of (ra.get e1)).bind fun x => (Out.of (atOf cx.sub x)).bind fun b => .ok (.val (.int b), e1)) Q E = atC cx (ra.get e1) e1 Q
  cases ra.get e1 with
  | none => rfl
  | some x =>
    show Wp ((Out.of (atOf cx.sub x)).bind fun b => .ok (.val (.int b), e1)) Q E = _
    unfold atC
    simp only
    cases atOf cx.sub x <;> rfl
theorem w_atA (r : Res) : atA cx Q (r, e) = atC cx (r.get e) e Q := (rfl)
theorem w_atC {y : Str} {t : Bool} (i : Int) (h : cx.sub y y = some t) : atC cx (some (.exn y (some i))) e Q = Q (.val (.int i), e) := by
  unfold atC
  have : atOf cx.sub (.exn y (some i)) = some i := by
    show (cx.sub y y).map _ = _
    rw [h]; rfl
  simp only [this]
theorem w_raise (c : Str) : Wp (evS cx (.raise c) env) S E = E ⟨c, none⟩ := by rw [evS]; rfl
def rsA (c : Str) (E : KX) : KE := fun r => match r.1 with
  | .val (.int i) => E ⟨c, some i⟩
  | _ => False
theorem w_raiseA (c : Str) (hd : cx.deep = true) : Wp (evS cx (.raiseA c a) env) S E = Wp (evE cx a env) (rsA c E) E := by
  rw [evS]
  simp only [hd]
  rw [wp_bind]
  congr 1; funext ⟨ra, e1⟩
  cases ra with
  | val d => cases d <;> rfl
  | new _ => rfl
  | ref _ => rfl
theorem w_rsA (c : Str) (i : Int) : rsA c E (.val (.int i), e) = E ⟨c, some i⟩ := (rfl)
theorem wp_noExcE {α : Type} {o : Out α} {Q : α → Prop} : Wp (noExc o) Q E = Wp o Q noE := by cases o <;> rfl
def tryK (i : Nat) (S : KS) : KS := fun r => S (r.1, r.2.set i .emp)
theorem w_tryK (i : Nat) (f : Fl) : tryK i S (f, e) = S (f, e.set i .emp) := (rfl)
def tryH (cx : Cxt) (ix : Option Nat) (h : I) (e : Nv) (S : KS) (x : Exn) : Prop := match ix with
  | none => Wp (evS cx h e) S noE
  | some i => Wp (evS cx h (e.set i (.val (.exn x.cls x.at_)))) (tryK i S) noE
def tryE (cx : Cxt) (E : KX) (c : Str) (ix : Option Nat) (b h : I) (e : Nv) (S : KS) : KX := fun x => match cx.sub x.cls c with
  | none => False
  | some false => E x
  | some true => tryH cx ix h (wipeH b e) S x
theorem w_try (c : Str) (ix : Option Nat) : Wp (evS cx (.try_ b c ix h) env) S E = Wp (evS cx b env) S (tryE cx E c ix b h env S) := by
  rw [evS]
  cases evS cx b env with
  | stuck => rfl
  | ok r => rfl
  | exc x =>
    show Wp ((Out.of (cx.sub x.cls c)).bind _) S E = _
    show _ = tryE cx E c ix b h env S x
    unfold tryE
    cases cx.sub x.cls c with
    | none => rfl
    | some t =>
      cases t with
      | false => rfl
      | true =>
        cases ix with
        | none => exact wp_noExcE
        | some i =>
          show Wp ((noExc _).bind _) S E = _
          rw [wp_bind, wp_noExcE]
          rfl
theorem w_tryE {x : Exn} {c : Str} {ix : Option Nat} {e2 : Nv} (hs : cx.sub x.cls c = some true) (hw : wipeH b e = e2) : tryE cx E c ix b h e S x = tryH cx ix h e2 S x := by
  unfold tryE
  rw [hs, hw]
theorem w_tryEf {x : Exn} {c : Str} {ix : Option Nat} (hs : cx.sub x.cls c = some false) : tryE cx E c ix b h e S x = E x := by
  unfold tryE
  rw [hs]
theorem w_tryHn {x : Exn} : tryH cx none h e S x = Wp (evS cx h e) S noE := (rfl)
theorem w_tryHs (i : Nat) {x : Exn} : tryH cx (some i) h e S x = Wp (evS cx h (e.set i (.val (.exn x.cls x.at_)))) (tryK i S) noE := (rfl)
end
end PyI

end
section
set_option autoImplicit false
/-! PyV: loops, comprehensions, choices, told behind a run. -/
namespace PyI
open PySem PySem.Spec PyProof.Rows L2 RZ RT

def turnK (P : Nv → Prop) (Q : KS) : KS := fun r => match r.1 with
  | .next => P r.2
  | .ret v => Q (.ret v, r.2)
theorem w_turnN {P : Nv → Prop} {Q : KS} {e : Nv} : turnK P Q (.next, e) = P e := (rfl)
theorem w_turnR {P : Nv → Prop} {Q : KS} {e : Nv} (v : Res) : turnK P Q (.ret v, e) = Q (.ret v, e) := (rfl)
def eltK (e1 : Nv) (R : D → Prop) : KE := fun r => r.2 = e1 ∧ ∃ y, noRef [r.1] = some [y] ∧ R y
theorem w_eltV {e : Nv} {R : D → Prop} (d : D) : eltK e R (.val d, e) = R d := propext ⟨fun ⟨_, y, h, r⟩ => by cases h; exact r, fun r => ⟨rfl, d, rfl, r⟩⟩
theorem w_eltN {e : Nv} {R : D → Prop} (c : Cell) : eltK e R (.new c, e) = R c.d := propext ⟨fun ⟨_, y, h, r⟩ => by cases h; exact r, fun r => ⟨rfl, c.d, rfl, r⟩⟩
def isK (e1 : Nv) (r0 : Res) : KE := fun r => r.2 = e1 ∧ r.1 = r0
theorem w_isK {e : Nv} (r r0 : Res) : isK e r0 (r, e) = (r = r0) := propext ⟨fun h => h.2, fun h => ⟨rfl, h⟩⟩
theorem w_isB {e : Nv} (a b : Bool) : isK e (.val (.bl b)) (.val (.bl a), e) = (a = b) := propext ⟨fun h => by cases h.2; rfl, fun h => ⟨rfl, by rw [h]⟩⟩
def whK (cx : Cxt) (E : KX) (b : I) (P : Nv → Prop) (Q : KS) : KE := fun r => match r.1 with
  | .val (.bl true) => Wp (evS cx b r.2) (turnK P Q) E
  | .val (.bl false) => Q (.next, r.2)
  | _ => False
theorem w_whT {cx : Cxt} {E : KX} {b : I} {P : Nv → Prop} {Q : KS} {e : Nv} : whK cx E b P Q (.val (.bl true), e) = Wp (evS cx b e) (turnK P Q) E := (rfl)
theorem w_whF {cx : Cxt} {E : KX} {b : I} {P : Nv → Prop} {Q : KS} {e : Nv} : whK cx E b P Q (.val (.bl false), e) = Q (.next, e) := (rfl)

theorem dec_k {K : KE} {P : Prop} [Decidable P] {e : Nv} (h1 : P → K (.val (.bl true), e)) (h2 : ¬P → K (.val (.bl false), e)) : K (.val (.bl (decide P)), e) := by
  by_cases h : P
  · rw [decide_eq_true h]; exact h1 h
  · rw [decide_eq_false h]; exact h2 h
theorem dec_n {K : KE} {P : Prop} [Decidable P] {e : Nv} (h1 : ¬P → K (.val (.bl true), e)) (h2 : P → K (.val (.bl false), e)) : K (.val (.bl (!decide P)), e) := by
  by_cases h : P
  · rw [decide_eq_true h]; exact h2 h
  · rw [decide_eq_false h]; exact h1 h
theorem bol_k {K : KE} {t : Bool} {e : Nv} (h1 : t = true → K (.val (.bl true), e)) (h2 : t = false → K (.val (.bl false), e)) : K (.val (.bl t), e) := by
  cases t with
  | true => exact h1 rfl
  | false => exact h2 rfl

section
variable {cx : Cxt} {E : KX} {env : Nv}
theorem wp_forM {bd : D → Nv → Option Nv} {body : Nv → Out (Fl × Nv)} {S : KS} (P : List D → Nv → Prop) : ∀ {ds : List D} (pre : List D) {env : Nv}, P pre env →
    (∀ (p : List D) (d : D) (s : List D) (e : Nv), pre ++ ds = p ++ d :: s → P p e → ∃ e1, bd d e = some e1 ∧ Wp (body e1) (turnK (P (p ++ [d])) S) E) → (∀ e, P (pre ++ ds) e → S (.next, e)) → Wp (forM bd body ds env) S E
  | [], pre, env, h, _, q => q env (by simpa using h)
  | d :: ds, pre, env, h, k, q => by
    obtain ⟨e1, h1, h2⟩ := k pre d ds env rfl h
    rw [forM_cons, h1]
    show Wp ((body e1).bind _) S E
    rw [wp_bind]
    refine h2.mono fun r hr => ?_
    obtain ⟨f, e2⟩ := r
    cases f with
    | ret v => exact hr
    | next => exact wp_forM P (ds := ds) (pre ++ [d]) hr (fun p d' s e hs hp => k p d' s e (by simpa using hs) hp) (fun e he => q e (by simpa using he))
theorem for_list {vs : List Nat} {b : I} {S : KS} {ds : List D} {refs : List Nat} (P : List D → Nv → Prop) (hr : refs.any (fun i => b.hits i || vs.contains i) = false) (h0 : P [] env)
    (hs : ∀ (p : List D) (d : D) (s : List D) (e : Nv), ds = p ++ d :: s → P p e → ∃ e1, bindV vs d e = some e1 ∧ Wp (evS cx b e1) (turnK (P (p ++ [d])) S) E) (hq : ∀ e, P ds e → S (.next, e)) : forK cx E vs b S ((ds, refs), env) :=
  ⟨hr, wp_forM P (ds := ds) [] h0 (fun p d s e h hp => hs p d s e h hp) hq⟩
/-- .. a state that each turn keeps -/
theorem for_keep {vs : List Nat} {b : I} {S : KS} {ds : List D} {refs : List Nat} (P : Nv → Prop) (hr : refs.any (fun i => b.hits i || vs.contains i) = false) (h0 : P env)
    (hs : ∀ (d : D) (e : Nv), d ∈ ds → P e → ∃ e1, bindV vs d e = some e1 ∧ Wp (evS cx b e1) (turnK P S) E) (hq : ∀ e, P e → S (.next, e)) : forK cx E vs b S ((ds, refs), env) :=
  for_list (fun _ => P) hr h0 (fun p d s e h hp => hs d e (by rw [h]; simp) hp) hq
theorem rngd_get {n : Int} {j : Nat} (h : (j : Int) < n) : (rngD 0 n)[j]? = some (.int j) := by
  unfold rngD
  rw [List.getElem?_map, List.getElem?_eq_getElem (by rw [List.length_range]; omega)]
  simp
theorem rngd_len {n : Int} : (rngD 0 n).length = n.toNat := by simp [rngD]
theorem rngd_mem {n : Int} {d : D} (h : d ∈ rngD 0 n) : ∃ j : Nat, (j : Int) < n ∧ d = .int j := by
  obtain ⟨k, hk, rfl⟩ := List.mem_map.mp h
  have hk : k < (n - 0).toNat := by simpa using hk
  exact ⟨k, by omega, by congr 1; omega⟩
theorem for_rng {v : Nat} {b : I} {S : KS} {n : Int} (P : Nat → Nv → Prop) (h0 : P 0 env)
    (hs : ∀ (j : Nat) (e : Nv), (j : Int) < n → P j e → Wp (evS cx b (e.set v (.val (.int j)))) (turnK (P (j + 1)) S) E) (hq : ∀ e, P n.toNat e → S (.next, e)) : forK cx E [v] b S ((rngD 0 n, []), env) := by
  refine for_list (fun p e => P p.length e) rfl h0 (fun p d s e h hp => ⟨_, rfl, ?_⟩) fun e he => hq e (by rw [rngd_len] at he; exact he)
  have hl : p.length < n.toNat := by
    have := congrArg List.length h
    rw [rngd_len] at this
    simp at this
    omega
  have hd : d = .int p.length := by
    have h1 : (rngD 0 n)[p.length]? = some d := by rw [h, List.getElem?_append_right (Nat.le_refl _), Nat.sub_self]; rfl
    rw [rngd_get (by omega)] at h1
    exact (Option.some.inj h1).symm
  subst hd
  rw [List.length_append]
  exact hs p.length e (by omega) hp
/-! ### comprehensions -/
theorem wpS_len (e : Nv) : ∀ vs : List Nat, (wipeS e vs).length = e.length
  | [] => rfl
  | v :: vs => by show ((wipeS e vs).set v .emp).length = _; rw [List.length_set, wpS_len e vs]
theorem wpS_get (e : Nv) (i : Nat) : ∀ vs : List Nat, (wipeS e vs)[i]? = if i ∈ vs then (if i < e.length then some .emp else none) else e[i]?
  | [] => by simp [wipeS]
  | v :: vs => by
    show ((wipeS e vs).set v .emp)[i]? = _
    rw [List.getElem?_set, wpS_len]
    by_cases h : v = i
    · subst h; simp
    · rw [if_neg h, wpS_get e i vs]
      have : (i ∈ v :: vs) = (i ∈ vs) := by simp [Ne.symm h]
      simp only [this]
theorem fold_len (l : List (Nat × D)) : ∀ e : Nv, (l.foldl (fun e p => e.set p.1 (.val p.2)) e).length = e.length := by
  induction l with
  | nil => intro e; rfl
  | cons p l ih => intro e; show (l.foldl _ (e.set p.1 (.val p.2))).length = _; rw [ih]; simp
theorem fold_get (l : List (Nat × D)) (i : Nat) (h : i ∉ l.map (·.1)) : ∀ e : Nv, (l.foldl (fun e p => e.set p.1 (Slot.val p.2)) e)[i]? = e[i]? := by
  induction l with
  | nil => intro e; rfl
  | cons p l ih =>
    intro e
    have h1 : p.1 ≠ i := fun z => h (by simp [z])
    show (l.foldl _ (e.set p.1 (.val p.2)))[i]? = _
    rw [ih (fun z => h (List.mem_cons_of_mem _ z)), List.getElem?_set, if_neg h1]
theorem bind_wipe {vs : List Nat} {d : D} {e e1 : Nv} (h : bindV vs d (wipeS e vs) = some e1) : wipeS e1 vs = wipeS e vs := by
  have key : e1.length = e.length ∧ ∀ i, i ∉ vs → e1[i]? = e[i]? := by
    have two : ∀ ds : List D, vs.length = ds.length → e1 = (vs.zip ds).foldl (fun e p => e.set p.1 (.val p.2)) (wipeS e vs) → e1.length = e.length ∧ ∀ i, i ∉ vs → e1[i]? = e[i]? := fun ds _ he => by
      subst he
      refine ⟨by rw [fold_len, wpS_len], fun i hi => ?_⟩
      rw [fold_get _ _ (fun z => hi ?_), wpS_get, if_neg hi]
      obtain ⟨p, hp, rfl⟩ := List.mem_map.mp z
      exact (List.of_mem_zip hp).1
    unfold bindV at h
    split at h
    · have h := Option.some.inj h
      subst h
      refine ⟨by rw [List.length_set, wpS_len], fun j hj => ?_⟩
      rw [List.getElem?_set, if_neg (fun z => hj (by simp [z])), wpS_get, if_neg hj]
    · split at h
      · rename_i hl
        exact two _ hl (Option.some.inj h).symm
      · cases h
    · cases h
  apply List.ext_getElem?
  intro i
  rw [wpS_get, wpS_get, key.1]
  by_cases hi : i ∈ vs
  · rw [if_pos hi, if_pos hi]
  · rw [if_neg hi, if_neg hi, key.2 i hi]
theorem wp_noExc {α : Type} {o : Out α} {Q : α → Prop} (h : Wp o Q noE) : Wp (noExc o) Q E := by
  cases o with
  | stuck => exact h.elim
  | exc x => exact h.elim
  | ok a => exact h
/-- a comprehension without a test: each element told by R -/
theorem lc_rel {x : I} {vs : List Nat} {Q : KE} {ds : List D} {refs : List Nat} (R : Nat → D → D → Prop) (hr : refs.any (fun i => x.hits i || I.hits i .none_ || vs.contains i) = false) (hl : ds.length ≤ 16777216)
    (h : ∀ (j : Nat) (d : D), ds[j]? = some d → ∃ e1, bindV vs d (wipeS env vs) = some e1 ∧ Wp (evE cx x e1) (eltK e1 (R j d)) noE)
    (hq : ∀ xs : List D, xs.length = ds.length → (∀ (j : Nat) (d y : D), ds[j]? = some d → xs[j]? = some y → R j d y) → Q (.new (.lst xs), backS env (wipeS env vs) vs)) : lcK cx E x vs .none_ Q ((ds, refs), env) := by
  refine ⟨hr, hl, wp_noExc ?_⟩
  have key : ∀ (ds : List D) (R : Nat → D → D → Prop), (∀ (j : Nat) (d : D), ds[j]? = some d → ∃ e1, bindV vs d (wipeS env vs) = some e1 ∧ Wp (evE cx x e1) (eltK e1 (R j d)) noE) →
      ∃ xs : List D, xs.length = ds.length ∧ (∀ (j : Nat) (d y : D), ds[j]? = some d → xs[j]? = some y → R j d y) ∧ lcM (bindV vs) (evTs cx .none_) (fun en => (evE cx x en).bind fun x => (Out.of (noRef [x.1])).bind fun d => .ok (d.headD .non, x.2)) vs ds (wipeS env vs) = .ok (xs, wipeS env vs) := fun ds => by
    induction ds with
    | nil => exact fun R _ => ⟨[], rfl, fun j d y h => by simp at h, rfl⟩
    | cons d ds ih =>
      intro R h
      obtain ⟨e1, h1, h2⟩ := h 0 d rfl
      obtain ⟨⟨r, e2⟩, h3, rfl, y, h4, h5⟩ := h2.ex
      simp only at h4 h1 h2 h3
      obtain ⟨xs, g1, g2, g3⟩ := ih (fun j => R (j + 1)) fun j d hj => h (j + 1) d (by simpa using hj)
      refine ⟨y :: xs, by simp [g1], fun j d' y' hd hy => ?_, ?_⟩
      · cases j with
        | zero =>
          simp at hd hy
          subst hd; subst hy
          exact h5
        | succ j => exact g2 j d' y' (by simpa using hd) (by simpa using hy)
      · unfold lcM
        rw [h1]
        simp only [Out.of_some, Out.bd_ok, evTs_none, h3, h4, List.headD_cons, bind_wipe h1, g3]
  obtain ⟨xs, g1, g2, g3⟩ := key ds R h
  rw [g3]
  exact hq xs g1 g2
theorem lc_fun {x : I} {vs : List Nat} {Q : KE} {ds : List D} {refs : List Nat} (f : D → D) (hr : refs.any (fun i => x.hits i || I.hits i .none_ || vs.contains i) = false) (hl : ds.length ≤ 16777216)
    (h : ∀ d ∈ ds, ∃ e1, bindV vs d (wipeS env vs) = some e1 ∧ Wp (evE cx x e1) (eltK e1 (fun y => y = f d)) noE)
    (hq : Q (.new (.lst (ds.map f)), backS env (wipeS env vs) vs)) : lcK cx E x vs .none_ Q ((ds, refs), env) := by
  refine lc_rel (fun _ d y => y = f d) hr hl (fun j d hd => h d (List.mem_of_getElem? hd)) fun xs g1 g2 => ?_
  have : xs = ds.map f := by
    apply List.ext_getElem?
    intro j
    rw [List.getElem?_map]
    by_cases hj : j < ds.length
    · have hx : xs[j]? = some (xs[j]'(by omega)) := List.getElem?_eq_getElem (by omega)
      have hd : ds[j]? = some (ds[j]'hj) := List.getElem?_eq_getElem hj
      rw [hx, hd, g2 j _ _ hd hx]; rfl
    · rw [List.getElem?_eq_none (by omega), List.getElem?_eq_none (by omega)]; rfl
  rw [this]
  exact hq
theorem lc_range {x : I} {v : Nat} {Q : KE} {n : Int} (f : Nat → D) (hn : n ≤ 1000000)
    (h : ∀ j : Nat, (j : Int) < n → Wp (evE cx x ((wipeS env [v]).set v (.val (.int j)))) (eltK ((wipeS env [v]).set v (.val (.int j))) (fun y => y = f j)) noE)
    (hq : Q (.new (.lst ((List.range n.toNat).map f)), backS env (wipeS env [v]) [v])) : lcK cx E x [v] .none_ Q ((rngD 0 n, []), env) := by
  refine lc_fun (fun d => match d with | .int j => f j.toNat | _ => .non) rfl (by rw [rngd_len]; omega) (fun d hd => ?_) ?_
  · obtain ⟨j, hj, rfl⟩ := rngd_mem hd
    exact ⟨_, rfl, h j hj⟩
  · have : (rngD 0 n).map (fun d => match d with | .int j => f j.toNat | _ => .non) = (List.range n.toNat).map f := by
      simp [rngD]
    rw [this]
    exact hq
theorem lc_range2 {x : I} {v : Nat} {Q : KE} {lo hi : Int} (f : Nat → D) (hn : hi - lo ≤ 1000000)
    (h : ∀ j : Nat, (j : Int) < hi - lo → Wp (evE cx x ((wipeS env [v]).set v (.val (.int (lo + j))))) (eltK ((wipeS env [v]).set v (.val (.int (lo + j)))) (fun y => y = f j)) noE)
    (hq : Q (.new (.lst ((List.range (hi - lo).toNat).map f)), backS env (wipeS env [v]) [v])) : lcK cx E x [v] .none_ Q ((rngD lo hi, []), env) := by
  refine lc_fun (fun d => match d with | .int j => f (j - lo).toNat | _ => .non) rfl (by simp [rngD]; omega) (fun d hd => ?_) ?_
  · obtain ⟨j, hj, rfl⟩ := List.mem_map.mp hd
    have hj : (j : Int) < hi - lo := by have : j < (hi - lo).toNat := by simpa using hj
                                        omega
    have e : (lo + (j : Int) - lo).toNat = j := by omega
    refine ⟨_, rfl, ?_⟩
    simp only [e]
    exact h j hj
  · have : (rngD lo hi).map (fun d => match d with | .int j => f (j - lo).toNat | _ => .non) = (List.range (hi - lo).toNat).map f := by
      rw [rngD, List.map_map]
      apply List.map_congr_left
      intro j _
      show f (lo + (j : Int) - lo).toNat = f j
      rw [show (lo + (j : Int) - lo).toNat = j by omega]
    rw [this]
    exact hq
theorem lc_rngrel {x : I} {v : Nat} {Q : KE} {n : Int} (R : Nat → D → Prop) (hn : n ≤ 1000000)
    (h : ∀ j : Nat, (j : Int) < n → Wp (evE cx x ((wipeS env [v]).set v (.val (.int j)))) (eltK ((wipeS env [v]).set v (.val (.int j))) (R j)) noE)
    (hq : ∀ xs : List D, xs.length = n.toNat → (∀ (j : Nat) (y : D), xs[j]? = some y → R j y) → Q (.new (.lst xs), backS env (wipeS env [v]) [v])) : lcK cx E x [v] .none_ Q ((rngD 0 n, []), env) := by
  refine lc_rel (fun j _ y => R j y) rfl (by rw [rngd_len]; omega) (fun j d hd => ?_) fun xs g1 g2 => hq xs (by rw [g1, rngd_len]) fun j y hy => ?_
  · have hj : j < (rngD 0 n).length := (List.getElem?_eq_some_iff.mp hd).1
    rw [rngd_len] at hj
    rw [rngd_get (by omega)] at hd
    have hd := Option.some.inj hd
    subst hd
    exact ⟨_, rfl, h j (by omega)⟩
  · have hj : j < xs.length := (List.getElem?_eq_some_iff.mp hy).1
    rw [g1, rngd_len] at hj
    exact g2 j _ y (rngd_get (by omega)) hy
theorem lc_test {x tst : I} {vs : List Nat} {Q : KE} {ds : List D} {refs : List Nat} (p : D → Bool) (f : D → D) (hr : refs.any (fun i => x.hits i || tst.hits i || vs.contains i) = false) (hl : ds.length ≤ 16777216) (ht : tst.isNo = false)
    (h : ∀ d ∈ ds, ∃ e1, bindV vs d (wipeS env vs) = some e1 ∧ Wp (evE cx tst e1) (isK e1 (.val (.bl (p d)))) noE ∧ (p d = true → Wp (evE cx x e1) (eltK e1 (fun y => y = f d)) noE))
    (hq : Q (.new (.lst ((ds.filter p).map f)), backS env (wipeS env vs) vs)) : lcK cx E x vs tst Q ((ds, refs), env) := by
  refine ⟨hr, hl, wp_noExc ?_⟩
  rw [lcM_filter p f fun d hd => ?_]
  · exact hq
  · obtain ⟨e1, h1, h2, h3⟩ := h d hd
    obtain ⟨⟨r, e2⟩, g1, g2, g3⟩ := h2.ex
    simp only at g2 g3
    subst g2; subst g3
    refine ⟨e2, h1, ?_, fun hp => ?_, bind_wipe h1⟩
    · rw [evTs_eq _ _ ht, evT_eq, g1]; rfl
    · obtain ⟨⟨r, e3⟩, k1, k2, y, k3, k4⟩ := (h3 hp).ex
      simp only at k2 k3
      subst k2
      subst k4
      rw [k1]
      simp only [Out.bd_ok, k3, Out.of_some, List.headD_cons]
/-! ### while -/
theorem wp_while {c b : I} {S : KS} (P : Nat → Nv → Prop) : ∀ (n : Nat) {env : Nv}, P n env →
    (∀ (n : Nat) (e : Nv), P n e → Wp (evE cx c e) (whK cx E b (fun e' => ∃ m, m < n ∧ P m e') S) E) → Wp (evS cx (.while_ c b) env) S E := by
  intro n
  induction n using Nat.strongRecOn with
  | _ n ih =>
    intro env h0 hs
    have h1 := hs n env h0
    rw [evS_while, whileM_eq, evT_eq, wp_bind, wp_bind]
    refine h1.mono fun r hr => ?_
    obtain ⟨r, e1⟩ := r
    cases r with
    | new _ => exact hr.elim
    | ref _ => exact hr.elim
    | val d => cases d with
      | bl t => cases t with
        | false => exact hr
        | true =>
          show Wp ((evS cx b e1).bind _) S E
          rw [wp_bind]
          have hr : Wp (evS cx b e1) (turnK (fun e' => ∃ m, m < n ∧ P m e') S) E := hr
          refine hr.mono fun q hq => ?_
          obtain ⟨f, e2⟩ := q
          cases f with
          | ret v => exact hq
          | next =>
            obtain ⟨m, hm, hp⟩ := hq
            have := ih m hm hp hs
            rw [evS_while] at this
            exact this
      | _ => exact hr.elim
end
end PyI

end
section
set_option autoImplicit false
/-! PyU: operators, told for simp. -/
namespace PyI
open PySem PySem.Spec PyProof.Rows L2 RZ RT

theorem p_mulr {i j : Int} (h1 : -1000000000000000000 ≤ j) (h2 : j ≤ 1000000000000000000) : opBin .mul (.int i) (.int j) = .ok (.val (.int (i * j))) := op_mul_i (.inl ⟨by omega, by omega⟩)
theorem p_mull {i j : Int} (h1 : -1000000000000000000 ≤ i) (h2 : i ≤ 1000000000000000000) : opBin .mul (.int i) (.int j) = .ok (.val (.int (i * j))) := op_mul_i (.inr ⟨by omega, by omega⟩)
/-- two factors of some bits -/
theorem p_mulb {i j : Int} (a b : Nat) (hi : i.natAbs < 2 ^ a) (hj : j.natAbs < 2 ^ b) (h : a + b + 2 ≤ 100000000) : opBin .mul (.int i) (.int j) = .ok (.val (.int (i * j))) := by
  show (intMul i j).val = _
  have l : ∀ {n a : Nat}, n < 2 ^ a → n.log2 ≤ a := fun {n a} h => by
    by_cases hz : n = 0
    · subst hz; simp [Nat.log2_zero]
    · have := (Nat.log2_lt hz).mpr h
      omega
  have h1 := l hi
  have h2 := l hj
  unfold intMul mulOk
  rw [if_pos (by rw [decide_eq_true (show i.natAbs.log2 + j.natAbs.log2 + 2 ≤ 100000000 by omega)]; simp)]
  rfl
theorem p_addl {x y : List D} (h : x.length + y.length ≤ 16777216) : opBin .add (.lst x) (.lst y) = .ok (.new (.lst (x ++ y))) := by rw [op_add_l, lstAdd_ok h]
theorem p_addt {x y : List D} (h : x.length + y.length ≤ 16777216) : opBin .add (.tup x) (.tup y) = .ok (.val (.tup (x ++ y))) := by rw [op_add_t, tupAdd_ok h]; rfl
theorem p_adds {x y : Str} (h : x.length + y.length ≤ 16777216) : opBin .add (.str x) (.str y) = .ok (.val (.str (x ++ y))) := by rw [op_add_s, strAdd_ok h]; rfl
theorem p_eqs (i j : Str) : opCmp .eq (.str i) (.str j) = .ok (decide (i = j)) := by
  rw [eq_ss]
  first | rfl | (congr 1; rw [Bool.eq_iff_iff]; simp)
theorem p_nes (i j : Str) : opCmp .ne (.str i) (.str j) = .ok (!decide (i = j)) := by
  rw [ne_ss]
  first | rfl | (congr 2; rw [Bool.eq_iff_iff]; simp)
theorem p_lens {s : Str} (h : s.length ≤ 16777216) : opBi .len [.str s] = .ok (.val (.int s.length)) := len_s h
theorem p_sls {s : Str} (h : s.length ≤ 16777216) (lo hi : Option Int) : opSl (.str s) lo hi = .ok (.val (.str (cutS s lo hi))) := by
  show (if s.length ≤ 16777216 then Out.ok (Res.val (.str (cutS s lo hi))) else .stuck) = _
  rw [if_pos h]
theorem mu_append' {ds : List D} (d : D) (h : ds.length < 16777216) : opMu .append (.lst ds) [d] = .ok (.non, .lst (ds ++ [d])) := by rw [mu_append, if_pos h]
theorem p_extend {ds es : List D} (h : ds.length + es.length ≤ 16777216) : opMu .extend (.lst ds) [.lst es] = .ok (.non, .lst (ds ++ es)) := by
  show (if ds.length + es.length ≤ 16777216 then Out.ok (D.non, Cell.lst (ds ++ es)) else .stuck) = _
  rw [if_pos h]
theorem p_pop (ds : List D) (d : D) : opMu .pop (.lst (ds ++ [d])) [] = .ok (d, .lst ds) := by
  show (match (ds ++ [d]).getLast? with
    | some d' => Out.ok (d', Cell.lst (ds ++ [d]).dropLast)
    | none => .stuck) = _
  rw [List.getLast?_concat, List.dropLast_concat]
theorem wipeS_nil (e : Nv) : wipeS e [] = e := rfl
theorem wipeS_cons (e : Nv) (v : Nat) (vs : List Nat) : wipeS e (v :: vs) = (wipeS e vs).set v .emp := rfl
theorem backS_nil (e e' : Nv) : backS e e' [] = e' := rfl
theorem backS_cons (e e' : Nv) (v : Nat) (vs : List Nat) : backS e e' (v :: vs) = (backS e e' vs).set v (e.getD v .emp) := rfl
theorem p_isN_non (a : D) : opCmp .isN a .non = .ok a.isNon := rfl
theorem p_notN_non (a : D) : opCmp .notN a .non = .ok (!a.isNon) := rfl
theorem isNon_non : D.isNon .non = true := rfl
theorem isNon_int (i : Int) : D.isNon (.int i) = false := rfl
theorem isNon_tup (i : List D) : D.isNon (.tup i) = false := rfl
theorem isNon_lst (i : List D) : D.isNon (.lst i) = false := rfl
theorem isNon_str (i : Str) : D.isNon (.str i) = false := rfl
theorem isNon_bl (i : Bool) : D.isNon (.bl i) = false := rfl
theorem in_str (x y : Str) : opCmp .isIn (.str x) (.str y) = .ok (strIn x y) := rfl
theorem nin_str (x y : Str) : opCmp .notIn (.str x) (.str y) = .ok (!strIn x y) := rfl
section
variable {cx : Cxt} {E : KX} {env : Nv} {a b c : I} {S : KS}
theorem if_no (h : Wp (evE cx c env) (isK env (.val (.bl false))) E) (k : Wp (evS cx b env) S E) : Wp (evS cx (.if_ c a b) env) S E := by
  rw [w_if]
  refine h.mono fun r hr => ?_
  obtain ⟨r, e⟩ := r
  obtain ⟨h1, h2⟩ := hr
  simp only at h1 h2
  subst h1; subst h2
  exact k
theorem if_yes (h : Wp (evE cx c env) (isK env (.val (.bl true))) E) (k : Wp (evS cx a env) S E) : Wp (evS cx (.if_ c a b) env) S E := by
  rw [w_if]
  refine h.mono fun r hr => ?_
  obtain ⟨r, e⟩ := r
  obtain ⟨h1, h2⟩ := hr
  simp only at h1 h2
  subst h1; subst h2
  exact k
theorem if_dec {P : Prop} [Decidable P] (h : Wp (evE cx c env) (isK env (.val (.bl (decide P)))) E) (k1 : P → Wp (evS cx a env) S E) (k2 : ¬P → Wp (evS cx b env) S E) : Wp (evS cx (.if_ c a b) env) S E := by
  by_cases hp : P
  · exact if_yes (by rw [decide_eq_true hp] at h; exact h) (k1 hp)
  · exact if_no (by rw [decide_eq_false hp] at h; exact h) (k2 hp)
theorem mid {o : Out (Fl × Nv)} (P : Nv → Prop) (h : Wp o (turnK P S) E) (k : ∀ e, P e → S (.next, e)) : Wp o S E := by
  refine h.mono fun r hr => ?_
  obtain ⟨f, e⟩ := r
  cases f with
  | next => exact k e hr
  | ret v => exact hr
end
theorem p_cast (n : Nat) : ((no_index (OfNat.ofNat n) : Nat) : Int) = OfNat.ofNat n := (rfl)
theorem k_text_row : (("text" : Str) = "row") = False := eq_false (by decide +kernel)
theorem k_text_table : (("text" : Str) = "table") = False := eq_false (by decide +kernel)
theorem k_text_record : (("text" : Str) = "record") = False := eq_false (by decide +kernel)
theorem k_row_text : (("row" : Str) = "text") = False := eq_false (by decide +kernel)
theorem k_row_table : (("row" : Str) = "table") = False := eq_false (by decide +kernel)
theorem k_row_record : (("row" : Str) = "record") = False := eq_false (by decide +kernel)
theorem k_table_text : (("table" : Str) = "text") = False := eq_false (by decide +kernel)
theorem k_table_row : (("table" : Str) = "row") = False := eq_false (by decide +kernel)
theorem k_table_record : (("table" : Str) = "record") = False := eq_false (by decide +kernel)
theorem k_record_text : (("record" : Str) = "text") = False := eq_false (by decide +kernel)
theorem k_record_row : (("record" : Str) = "row") = False := eq_false (by decide +kernel)
theorem k_record_table : (("record" : Str) = "table") = False := eq_false (by decide +kernel)
section
variable {e : Nv} {Q : KE}
theorem l_bl (b : Bool) : lentK e Q (.val (.bl b)) = Q (.val (.bl b), e) := w_lent rfl
theorem l_int (b : Int) : lentK e Q (.val (.int b)) = Q (.val (.int b), e) := w_lent rfl
theorem l_str (b : Str) : lentK e Q (.val (.str b)) = Q (.val (.str b), e) := w_lent rfl
theorem l_non : lentK e Q (.val .non) = Q (.val .non, e) := w_lent rfl
end
theorem lrng_1 {j : Int} (h0 : 0 ≤ j) (h : j ≤ 16777216) : opBi .listRng [.int j] = .ok (.new (.lst (rngD 0 j))) := by
  show (if 0 ≤ j ∧ j.toNat ≤ 16777216 then Out.ok (Res.new (.lst (rngD 0 j))) else .stuck) = _
  rw [if_pos ⟨h0, by omega⟩]
theorem lrng_2 {i j : Int} (h0 : 0 ≤ i) (h : i ≤ 16777216) (h2 : 0 ≤ j) (h3 : j ≤ 16777216) : opBi .listRng [.int i, .int j] = .ok (.new (.lst (rngD i j))) := by
  show (if (0 ≤ i ∧ i.toNat ≤ 16777216) ∧ 0 ≤ j ∧ j.toNat ≤ 16777216 then Out.ok (Res.new (.lst (rngD i j))) else .stuck) = _
  rw [if_pos ⟨⟨h0, by omega⟩, h2, by omega⟩]
section
variable {cx : Cxt} {E : KX} {env : Nv} {a : I} {Q : KE}
def gIxC (cx : Cxt) (n : Nat) (e : Nv) (Q : KE) : Option Str → Prop
  | some z => match cx.tups n with
    | some ys => match idxS z ys with
      | some j => Q (.val (.int (j : Nat)), e)
      | none => False
    | none => False
  | none => False
def gIxA (cx : Cxt) (n : Nat) (Q : KE) : KE := fun r => gIxC cx n r.2 Q (strR r.1)
def gAtC (cx : Cxt) (n : Nat) (e : Nv) (Q : KE) : Option Int → Prop
  | some i => match cx.tups n with
    | some ys => match nthS i ys with
      | some z => Q (.val (.str z), e)
      | none => False
    | none => False
  | none => False
def gAtA (cx : Cxt) (n : Nat) (Q : KE) : KE := fun r => gAtC cx n r.2 Q (intR r.1)
theorem w_gIx (n : Nat) : Wp (evE cx (.gIx n a) env) Q E = Wp (evE cx a env) (gIxA cx n Q) E := by
  rw [evE, wp_bind]
  congr 1; funext ⟨r, e⟩
  show Wp ((Out.of (strR r)).bind fun z => (Out.of (cx.tups n)).bind fun ys => (Out.of (idxS z ys)).bind fun j => .ok (.val (.int (j : Nat)), e)) Q E = gIxC cx n e Q (strR r)
  cases strR r with
  | none => rfl
  | some z =>
    unfold gIxC
    show Wp ((Out.of (cx.tups n)).bind fun ys => (Out.of (idxS z ys)).bind fun j => .ok (.val (.int (j : Nat)), e)) Q E = _
    cases cx.tups n with
    | none => rfl
    | some ys =>
      show Wp ((Out.of (idxS z ys)).bind fun j => .ok (.val (.int (j : Nat)), e)) Q E = _
      simp only
      cases idxS z ys <;> rfl
theorem w_gAt (n : Nat) : Wp (evE cx (.gAt n a) env) Q E = Wp (evE cx a env) (gAtA cx n Q) E := by
  rw [evE, wp_bind]
  congr 1; funext ⟨r, e⟩
  show Wp ((Out.of (intR r)).bind fun z => (Out.of (cx.tups n)).bind fun ys => (Out.of (nthS z ys)).bind fun j => .ok (.val (.str j), e)) Q E = gAtC cx n e Q (intR r)
  cases intR r with
  | none => rfl
  | some z =>
    unfold gAtC
    show Wp ((Out.of (cx.tups n)).bind fun ys => (Out.of (nthS z ys)).bind fun j => .ok (.val (.str j), e)) Q E = _
    cases cx.tups n with
    | none => rfl
    | some ys =>
      show Wp ((Out.of (nthS z ys)).bind fun j => .ok (.val (.str j), e)) Q E = _
      simp only
      cases nthS z ys <;> rfl
theorem w_gIxA {n : Nat} {z : Str} {e : Nv} {ys : List Str} {j : Nat} (h : cx.tups n = some ys) (hj : idxS z ys = some j) : gIxA cx n Q (.val (.str z), e) = Q (.val (.int (j : Nat)), e) := by
  show gIxC cx n e Q (some z) = _
  unfold gIxC
  rw [h]
  simp only [hj]
theorem w_gAtA {n : Nat} {i : Int} {e : Nv} {ys : List Str} {z : Str} (h : cx.tups n = some ys) (hj : nthS i ys = some z) : gAtA cx n Q (.val (.int i), e) = Q (.val (.str z), e) := by
  show gAtC cx n e Q (some i) = _
  unfold gAtC
  rw [h]
  simp only [hj]
end
theorem bool_rfl (b : Bool) : (b = b) = True := by simp
/-! index -/
theorem idx_t0 (ds : List D) (a : D) : opIdx (.tup (a :: ds)) (.int 0) = .ok a := by
  show Out.of (atI (a :: ds) 0) = _
  have : atI (a :: ds) 0 = some a := by simp [atI, ixN]
  rw [this]; rfl
theorem idx_t1 (ds : List D) (a b : D) : opIdx (.tup (a :: b :: ds)) (.int 1) = .ok b := by
  show Out.of (atI (a :: b :: ds) 1) = _
  have : atI (a :: b :: ds) 1 = some b := by
    have h : ixN (a :: b :: ds).length 1 = some 1 := by
      unfold ixN
      rw [if_pos (by decide), if_pos (by simp; omega)]
      rfl
    unfold atI
    rw [h]; rfl
  rw [this]; rfl
theorem idx_2l (a b : D) : opIdx (.tup [a, b]) (.int (-1)) = .ok b := rfl
theorem idx_3l (a b c : D) : opIdx (.tup [a, b, c]) (.int (-1)) = .ok c := rfl
theorem cut_2l (a b : D) : cutD [a, b] none (some (-1)) = [a] := rfl
theorem cut_3l (a b c : D) : cutD [a, b, c] none (some (-1)) = [a, b] := rfl
theorem ixN_nn {n : Nat} {i : Int} (h0 : 0 ≤ i) (h : i < n) : ixN n i = some i.toNat := by
  unfold ixN
  rw [if_pos h0, if_pos h]
theorem idx_l {ds : List D} {i : Int} {d : D} (h0 : 0 ≤ i) (h : ds[i.toNat]? = some d) : opIdx (.lst ds) (.int i) = .ok d := by
  have hi := (List.getElem?_eq_some_iff.mp h).1
  show Out.of (atI ds i) = _
  unfold atI
  rw [ixN_nn h0 (by omega)]
  show Out.of (ds[i.toNat]?) = _
  rw [h]; rfl
theorem idx_tt {ds : List D} {i : Int} {d : D} (h0 : 0 ≤ i) (h : ds[i.toNat]? = some d) : opIdx (.tup ds) (.int i) = .ok d := by
  have hi := (List.getElem?_eq_some_iff.mp h).1
  show Out.of (atI ds i) = _
  unfold atI
  rw [ixN_nn h0 (by omega)]
  show Out.of (ds[i.toNat]?) = _
  rw [h]; rfl
/-- one of some things, by a number that is none below 0 -/
theorem idx_pl {ds : List D} {i : Int} (h0 : 0 ≤ i) (h : i < ds.length) : opIdx (.lst ds) (.int i) = .ok (ds.getD i.toNat .non) := idx_l h0 (by
  rw [List.getD_eq_getElem?_getD, List.getElem?_eq_getElem (show i.toNat < ds.length by omega)]; rfl)
theorem idx_pt {ds : List D} {i : Int} (h0 : 0 ≤ i) (h : i < ds.length) : opIdx (.tup ds) (.int i) = .ok (ds.getD i.toNat .non) := idx_tt h0 (by
  rw [List.getD_eq_getElem?_getD, List.getElem?_eq_getElem (show i.toNat < ds.length by omega)]; rfl)
theorem idx_last {ds : List D} (d : D) : opIdx (.lst (ds ++ [d])) (.int (-1)) = .ok d := by
  show Out.of (atI (ds ++ [d]) (-1)) = _
  have : ixN (ds ++ [d]).length (-1) = some ds.length := by
    unfold ixN
    rw [if_neg (by decide)]
    rw [if_pos (by rw [List.length_append, List.length_singleton]; omega)]
    congr 1
    rw [List.length_append]; simp; omega
  unfold atI
  rw [this]
  show Out.of ((ds ++ [d])[ds.length]?) = _
  rw [List.getElem?_append_right (Nat.le_refl _), Nat.sub_self]; rfl
section
variable {cx : Cxt} {E : KX} {e : Nv} {a : I} {Q : KE}
theorem m_append (i : Nat) (ds : List D) : muF cx E .append i a Q (some (.own (.lst ds))) e = Wp (evA cx a e) (muB E .append i Q) E := w_muF i rfl
theorem m_extend (i : Nat) (ds : List D) : muF cx E .extend i a Q (some (.own (.lst ds))) e = Wp (evA cx a e) (muB E .extend i Q) E := w_muF i rfl
theorem m_insert (i : Nat) (ds : List D) : muF cx E .insert i a Q (some (.own (.lst ds))) e = Wp (evA cx a e) (muB E .insert i Q) E := w_muF i rfl
theorem m_pop (i : Nat) (ds : List D) : muF cx E .pop i a Q (some (.own (.lst ds))) e = Wp (evA cx a e) (muB E .pop i Q) E := w_muF i rfl
theorem m_popAt (i : Nat) (ds : List D) : muF cx E .popAt i a Q (some (.own (.lst ds))) e = Wp (evA cx a e) (muB E .popAt i Q) E := w_muF i rfl
theorem m_clear (i : Nat) (ds : List D) : muF cx E .clear i a Q (some (.own (.lst ds))) e = Wp (evA cx a e) (muB E .clear i Q) E := w_muF i rfl
theorem m_reverse (i : Nat) (ds : List D) : muF cx E .reverse i a Q (some (.own (.lst ds))) e = Wp (evA cx a e) (muB E .reverse i Q) E := w_muF i rfl
theorem m_sdK (i : Nat) (ds : List (Key × D)) : muF cx E .setdefault i a Q (some (.own (.dK ds))) e = Wp (evA cx a e) (muB E .setdefault i Q) E := w_muF i rfl
theorem m_sdT (i : Nat) (ds : List (List Key × D)) : muF cx E .setdefault i a Q (some (.own (.dT ds))) e = Wp (evA cx a e) (muB E .setdefault i Q) E := w_muF i rfl
theorem n_join (r : Res) (s : Str) : meF cx E .join a r Q (some (.str s)) e = Wp (evA cx a e) (meB E .join r Q) E := w_meF r rfl
theorem n_startswith (r : Res) (s : Str) : meF cx E .startswith a r Q (some (.str s)) e = Wp (evA cx a e) (meB E .startswith r Q) E := w_meF r rfl
theorem n_split (r : Res) (s : Str) : meF cx E .split a r Q (some (.str s)) e = Wp (evA cx a e) (meB E .split r Q) E := w_meF r rfl
theorem n_partition (r : Res) (s : Str) : meF cx E .partition a r Q (some (.str s)) e = Wp (evA cx a e) (meB E .partition r Q) E := w_meF r rfl
theorem n_index (r : Res) (s : List D) : meF cx E .index a r Q (some (.lst s)) e = Wp (evA cx a e) (meB E .index r Q) E := w_meF r rfl
theorem n_sidx (r : Res) (s : Str) : meF cx E .sidx a r Q (some (.str s)) e = Wp (evA cx a e) (meB E .sidx r Q) E := w_meF r rfl
theorem n_getK (r : Res) (s : List Key) (u : List D) : meF cx E .get a r Q (some (.dK s u)) e = Wp (evA cx a e) (meB E .get r Q) E := w_meF r rfl
theorem n_getT (r : Res) (s : List (List Key)) (u : List D) : meF cx E .get a r Q (some (.dT s u)) e = Wp (evA cx a e) (meB E .get r Q) E := w_meF r rfl
theorem n_getOrK (r : Res) (s : List Key) (u : List D) : meF cx E .getOr a r Q (some (.dK s u)) e = Wp (evA cx a e) (meB E .getOr r Q) E := w_meF r rfl
theorem n_getOrT (r : Res) (s : List (List Key)) (u : List D) : meF cx E .getOr a r Q (some (.dT s u)) e = Wp (evA cx a e) (meB E .getOr r Q) E := w_meF r rfl
end
/-! defs that change a list -/
section
variable {cx : Cxt} {E : KX} {e env : Nv} {a : I} {Q : KE} {S : KS}
def ownS : Option Slot → Option Cell
  | some (.own c) => some c
  | _ => none
theorem ownAt_eq (e : Nv) (i : Nat) : ownAt e i = ownS e[i]? := (rfl)
theorem ownS_own (c : Cell) : ownS (some (.own c)) = some c := (rfl)
theorem lastR_one (r : Res) : lastR [r] = some ([], r) := (rfl)
theorem lastR_more (r s : Res) (rs : List Res) : lastR (r :: s :: rs) = (lastR (s :: rs)).map fun q => (r :: q.1, q.2) := (rfl)
theorem valRs_nil : valRs [] = some [] := (rfl)
theorem valRs_cons (d : D) (rs : List Res) : valRs (.val d :: rs) = (valRs rs).map (d :: ·) := (rfl)
theorem selfR_some (i : Nat) (d : D) : selfR i (some d) = .val d := (rfl)
theorem selfR_none (i : Nat) : selfR i none = .ref i := (rfl)
theorem selfN_some (c : Cell) (d : D) : selfN c (some d) = .val d := (rfl)
theorem selfN_none (c : Cell) : selfN c none = .new c := (rfl)
def cmD (cx : Cxt) (E : KX) (n i : Nat) (ds : List D) (e : Nv) (Q : KE) : Option Cell → Prop
  | some c => Wp (cx.callM n ds c) (fun o => Q (selfR i o.1, e.set i (.own o.2))) E
  | none => False
def cmC (cx : Cxt) (E : KX) (n : Nat) (ix : Option Nat) (e : Nv) (Q : KE) : Option (List D) → Res → Prop
  | some ds, .ref i => (match ix with | some j => if i = j then cmD cx E n i ds e Q (ownAt e i) else False | none => False)
  | some ds, .new c => (match ix with | none => Wp (cx.callM n ds c) (fun o => Q (selfN o.2 o.1, e)) E | some _ => False)
  | _, _ => False
def cmB (cx : Cxt) (E : KX) (n : Nat) (ix : Option Nat) (e : Nv) (Q : KE) : Option (List Res × Res) → Prop
  | some q => cmC cx E n ix e Q (valRs q.1) q.2
  | none => False
def cmA (cx : Cxt) (E : KX) (n : Nat) (ix : Option Nat) (Q : KE) : KA := fun r => cmB cx E n ix r.2 Q (lastR r.1)
theorem w_callM (n : Nat) (ix : Option Nat) : Wp (evE cx (.callM n a ix) env) Q E = Wp (evA cx a env) (cmA cx E n ix Q) E := by
  rw [evE, wp_bind]
  congr 1; funext ⟨rs, e1⟩
  show Wp ((Out.of (lastR rs)).bind _) Q E = cmB cx E n ix e1 Q (lastR rs)
  cases lastR rs with
  | none => rfl
  | some q =>
    obtain ⟨rs', rl⟩ := q
    show Wp ((Out.of (valRs rs')).bind _) Q E = cmC cx E n ix e1 Q (valRs rs') rl
    cases valRs rs' with
    | none => cases rl <;> cases ix <;> rfl
    | some ds =>
      cases rl with
      | val d => cases ix <;> rfl
      | new c =>
        cases ix with
        | some j => rfl
        | none =>
          show Wp ((cx.callM n ds c).bind _) Q E = _
          rw [wp_bind]; rfl
      | ref i =>
        cases ix with
        | none => rfl
        | some j =>
          show Wp (if i = j then _ else _) Q E = if i = j then cmD cx E n i ds e1 Q (ownAt e1 i) else False
          by_cases h : i = j
          · rw [if_pos h, if_pos h]
            cases ownAt e1 i with
            | none => rfl
            | some c =>
              show Wp ((cx.callM n ds c).bind _) Q E = _
              rw [wp_bind]; rfl
          · rw [if_neg h, if_neg h]; rfl
theorem w_cmA (n : Nat) (ix : Option Nat) (rs : List Res) : cmA cx E n ix Q (rs, e) = cmB cx E n ix e Q (lastR rs) := (rfl)
theorem w_cmB (n : Nat) (ix : Option Nat) (rs : List Res) (r : Res) : cmB cx E n ix e Q (some (rs, r)) = cmC cx E n ix e Q (valRs rs) r := (rfl)
theorem w_cmCr (n i : Nat) (ds : List D) : cmC cx E n (some i) e Q (some ds) (.ref i) = cmD cx E n i ds e Q (ownAt e i) := by
  show (if i = i then _ else _) = _
  rw [if_pos rfl]
theorem w_cmCn (n : Nat) (ds : List D) (c : Cell) : cmC cx E n none e Q (some ds) (.new c) = Wp (cx.callM n ds c) (fun o => Q (selfN o.2 o.1, e)) E := (rfl)
theorem w_cmD (n i : Nat) (ds : List D) (c : Cell) : cmD cx E n i ds e Q (some c) = Wp (cx.callM n ds c) (fun o => Q (selfR i o.1, e.set i (.own o.2))) E := (rfl)
def fmC (R : Option D × Cell → Prop) (d : Option D) : Option Cell → Prop
  | some c => R (d, c)
  | none => False
def fmK (q : Nat) (R : Option D × Cell → Prop) : KS := fun r => match r.1 with
  | .next => fmC R (some .non) (ownAt r.2 q)
  | .ret (.val d) => fmC R (some d) (ownAt r.2 q)
  | .ret (.ref i) => if i = q then fmC R none (ownAt r.2 q) else False
  | .ret (.new _) => False
theorem w_finM {o : Out (Fl × Nv)} (q : Nat) {R : Option D × Cell → Prop} : Wp (finM q o) R E = Wp o (fmK q R) noE := by
  cases o with
  | stuck => rfl
  | exc x => rfl
  | ok r =>
    obtain ⟨f, e1⟩ := r
    have key : ∀ d : Option D, Wp ((Out.of (ownAt e1 q)).bind fun c => Out.ok (d, c)) R E = fmC R d (ownAt e1 q) := fun d => by
      cases ownAt e1 q <;> rfl
    cases f with
    | next => exact key _
    | ret v =>
      cases v with
      | val d => exact key _
      | new c => rfl
      | ref i =>
        show Wp (if i = q then _ else _) R E = if i = q then fmC R none (ownAt e1 q) else False
        by_cases h : i = q
        · rw [if_pos h, if_pos h]; exact key _
        · rw [if_neg h, if_neg h]; rfl
theorem w_fmN (q : Nat) {R : Option D × Cell → Prop} : fmK q R (.next, e) = fmC R (some .non) (ownAt e q) := (rfl)
theorem w_fmRv (q : Nat) {R : Option D × Cell → Prop} (d : D) : fmK q R (.ret (.val d), e) = fmC R (some d) (ownAt e q) := (rfl)
theorem w_fmRr (q : Nat) {R : Option D × Cell → Prop} : fmK q R (.ret (.ref q), e) = fmC R none (ownAt e q) := by
  show (if q = q then _ else _) = _
  rw [if_pos rfl]
theorem w_fmC {R : Option D × Cell → Prop} (d : Option D) (c : Cell) : fmC R d (some c) = R (d, c) := (rfl)
def rmO (i : Nat) (e : Nv) (S : KS) : Option Cell → Prop
  | some _ => S (.ret (.ref i), e)
  | none => False
theorem w_retM (i : Nat) : Wp (evS cx (.retM i) env) S E = rmO i env S (ownAt env i) := by
  rw [evS]
  unfold ownAt
  cases env[i]? with
  | none => rfl
  | some s => cases s <;> rfl
theorem w_rmO (i : Nat) (c : Cell) : rmO i e S (some c) = S (.ret (.ref i), e) := (rfl)
theorem m_of_wp {o : Out (Option D × Cell)} {r : Option D} {c : Cell} (h : Wp o (fun q => q = (r, c)) noE) : o = .ok (r, c) := eq_of_wp h
end
/-! the head's facts read with the interpreter's own table beside (classes read as such want it) -/
def asM (g : Addr → Option Obj) (n : Nat) : List Addr := cStatics :: He.asD g n
def hookS (n : Nat) (fa : List He.Fa) (fn : List He.DefD) (ex : PySem.W.Frag → Bool) : PySem.W.Hook where
  α := He.AlD × Bool
  obs := fun s => (He.obsD fa fn (He.frG s.heap.get? (asM s.heap.get? n)), ex (He.frG s.heap.get? (asM s.heap.get? n)))
  val := fun _ => (He.valD fn, true)
  says := fun _ h => ∃ K : PySem.W.Frag, K.In h ∧ He.SaysD fa fn K ∧ ex K = true
  of := fun _ _ e => ⟨_, He.frG_in, congrArg (fun z : He.AlD × Bool => z.1) e, congrArg (fun z : He.AlD × Bool => z.2) e⟩
  keeps := fun _ _ _ ⟨K, hK, c, x⟩ k => ⟨K, PySem.W.Frag.In.keeps hK k, c, x⟩
theorem obsS_eq {n : Nat} {fa : List He.Fa} {fn : List He.DefD} {ex : PySem.W.Frag → Bool} {g : Addr → Option Obj} {s : Shared} (h : ∀ a, g a = s.heap.get? a) : (He.obsD fa fn (He.frG g (asM g n)), ex (He.frG g (asM g n))) = (hookS n fa fn ex).obs s := by
  have e : g = s.heap.get? := funext h
  rw [e]; rfl
end PyI

end
section
namespace PyI.K22
open PySem PySem.Spec PyProof.Rows L2
def top (i : Nat) : Stmt := PySem.Challenge.pw_graphpack_k22_copies_but_for_kept_parts.main.body.getD i (.Pass ⟨0, 0, 0, 0⟩)
/-- is_whole: 0 thing -/
def b_is_whole : I := (.seq (.ret (.and_ (.bi (.isI [.int]) (.cons (.var 0) .nil)) (.not_ (.bi (.isI [.bool]) (.cons (.var 0) .nil))))) .done)
def n_is_whole : List Str := ["thing"]
/-- is_link: 0 thing -/
def b_is_link : I := (.seq (.if_ (.or_ (.not_ (.bi (.isI [.tuple]) (.cons (.var 0) .nil))) (.or_ (.cmp .ne (.bi .len (.cons (.var 0) .nil)) (.kI 2)) (.not_ (.bi (.isI [.str]) (.cons (.idx (.var 0) (.kI 0)) .nil))))) (.seq (.ret (.kB false)) .done) .done) (.seq (.ret (.and_ (.cmp .eq (.idx (.var 0) (.kI 0)) (.kS "at")) (.and_ (.call 0 (.cons (.idx (.var 0) (.kI 1)) .nil)) (.cmp .ge (.idx (.var 0) (.kI 1)) (.kI 0))))) .done))
def n_is_link : List Str := ["thing"]
/-- values: 0 part, 1 name, 2 value -/
def b_values : I := (.seq (.if_ (.cmp .eq (.idx (.var 0) (.kI 0)) (.kS "text")) (.seq (.ret (.lst .nil)) .done) .done) (.seq (.if_ (.cmp .eq (.idx (.var 0) (.kI 0)) (.kS "row")) (.seq (.ret (.bi .list (.cons (.idx (.var 0) (.kI 1)) .nil))) .done) .done) (.seq (.ret (.lc (.var 2) [1, 2] (.idx (.var 0) (.neg (.kI 1))) .none_)) .done)))
def n_values : List Str := ["part", "name", "value"]
/-- links: 0 part, 1 value -/
def b_links : I := (.seq (.ret (.lc (.idx (.var 1) (.kI 1)) [1] (.call 21 (.cons (.var 0) .nil)) (.call 3 (.cons (.var 1) .nil)))) .done)
def n_links : List Str := ["part", "value"]
/-- with_values: 0 part, 1 some, 2 pairs, 3 pair, 4 value -/
def b_with_values : I := (.seq (.if_ (.cmp .eq (.idx (.var 0) (.kI 0)) (.kS "text")) (.seq (.ret (.var 0)) .done) .done) (.seq (.if_ (.cmp .eq (.idx (.var 0) (.kI 0)) (.kS "row")) (.seq (.ret (.tup (.cons (.kS "row") (.cons (.bi .tuple (.cons (.var 1) .nil)) .nil)))) .done) .done) (.seq (.asg 2 (.lc (.tup (.cons (.idx (.var 3) (.kI 0)) (.cons (.var 4) .nil))) [3, 4] (.iZip (.idx (.var 0) (.neg (.kI 1))) (.var 1)) .none_)) (.seq (.frz 2) (.seq (.ret (.bin .add (.sl (.var 0) .none_ (.neg (.kI 1))) (.tup (.cons (.bi .tuple (.cons (.var 2) .nil)) .nil)))) .done)))))
def n_with_values : List Str := ["part", "some", "pairs", "pair", "value"]
/-- led: 0 value, 1 numbers -/
def b_led : I := (.seq (.if_ (.call 3 (.cons (.var 0) .nil)) (.seq (.ret (.tup (.cons (.kS "at") (.cons (.idx (.var 1) (.idx (.var 0) (.kI 1))) .nil)))) .done) .done) (.seq (.ret (.var 0)) .done))
def n_led : List Str := ["value", "numbers"]
/-- led_part: 0 part, 1 numbers, 2 value -/
def b_led_part : I := (.seq (.ret (.call 30 (.cons (.var 0) (.cons (.lc (.call 40 (.cons (.var 2) (.cons (.var 1) .nil))) [2] (.call 21 (.cons (.var 0) .nil)) .none_) .nil)))) .done)
def n_led_part : List Str := ["part", "numbers", "value"]
/-- met_but: 0 web, 1 k, 2 kept, 3 found, 4 waiting, 5 at -/
def f_met_but_0 : I := (.seq (.asg 5 (.mu .pop 4 .nil)) (.seq (.frz 5) (.seq (.if_ (.and_ (.cmp .notIn (.var 5) (.var 3)) (.cmp .notIn (.var 5) (.var 2))) (.seq (.expr (.mu .append 3 (.cons (.var 5) .nil))) (.seq (.expr (.mu .extend 4 (.cons (.bi .listRev (.cons (.call 22 (.cons (.idx (.var 0) (.var 5)) .nil)) .nil)) .nil))) .done)) .done) .done)))
def b_met_but : I := (.seq (.asg 3 (.lst .nil)) (.seq (.asg 4 (.lst (.cons (.var 1) .nil))) (.seq (.while_ (.cmp .ne (.var 4) (.lst .nil)) f_met_but_0) (.seq (.frz 3) (.seq (.frz 4) (.seq (.ret (.var 3)) .done))))))
def n_met_but : List Str := ["web", "k", "kept", "found", "waiting", "at"]
/-- copied: 0 web, 1 k, 2 kept, 3 order, 4 numbers, 5 at -/
def f_copied_0 : I := (.seq (.put 4 (.var 5) (.var 5)) .done)
def f_copied_1 : I := (.seq (.put 4 (.var 5) (.bin .add (.bi .len (.cons (.var 0) .nil)) (.me .index (.var 3) (.cons (.var 5) .nil)))) .done)
def b_copied : I := (.seq (.if_ (.cmp .isN (.var 2) .kN) (.seq (.asg 2 (.lst .nil)) (.seq (.frz 2) .done)) .done) (.seq (.if_ (.cmp .isIn (.var 1) (.var 2)) (.seq (.ret (.tup (.cons (.var 0) (.cons (.var 1) .nil)))) .done) .done) (.seq (.asg 3 (.call 129 (.cons (.var 0) (.cons (.var 1) (.cons (.var 2) .nil))))) (.seq (.frz 3) (.seq (.if_ (.cmp .gt (.bin .add (.bi .len (.cons (.var 0) .nil)) (.bi .len (.cons (.var 3) .nil))) (.glob 4)) (.seq (.raise "TooMany") .done) .done) (.seq (.asg 4 .dk0) (.seq (.for_ [5] (.iRng (.cons (.bi .len (.cons (.var 0) .nil)) .nil)) f_copied_0) (.seq (.for_ [5] (.var 3) f_copied_1) (.seq (.frz 4) (.seq (.ret (.tup (.cons (.bin .add (.var 0) (.bi .tuple (.cons (.lc (.call 41 (.cons (.idx (.var 0) (.var 5)) (.cons (.var 4) .nil))) [5] (.var 3) .none_) .nil))) (.cons (.idx (.var 4) (.var 1)) .nil)))) .done))))))))))
def n_copied : List Str := ["web", "k", "kept", "order", "numbers", "at"]
/-- shallow: 0 web, 1 k, 2 at -/
def b_shallow : I := (.seq (.ret (.call 130 (.cons (.var 0) (.cons (.var 1) (.cons (.lc (.var 2) [2] (.iRng (.cons (.bi .len (.cons (.var 0) .nil)) .nil)) (.cmp .ne (.var 2) (.var 1))) .nil))))) .done)
def n_shallow : List Str := ["web", "k", "at"]
/-- _law_cell_at: 0 _law_script, 1 _law_k -/
def b_law_cell_at : I := (.seq (.if_ (.cmp .lt (.var 1) (.bi .len (.cons (.var 0) .nil))) (.seq (.ret (.idx (.var 0) (.var 1))) .done) .done) (.seq (.ret (.kI 0)) .done))
def n_law_cell_at : List Str := ["_law_script", "_law_k"]
/-- _law_pool: 0 _law_cell, 1 _law_turn, 2 _law_signs, 3 _law_size, 4 _law_places, 5 _law_k, 6 _law_word, 7 _law_at, 8 _law_found, 9 _law_sign -/
def f_law_pool_0 : I := (.seq (.expr (.mu .append 4 (.cons (.bin .mod (.var 0) (.kI 36)) .nil))) (.seq (.asg 0 (.bin .fdiv (.var 0) (.kI 36))) .done))
def f_law_pool_1 : I := (.seq (.asg 9 (.idx (.var 2) (.bin .mod (.bin .add (.idx (.var 4) (.var 7)) (.bin .mul (.kI 4) (.var 5))) (.kI 36)))) (.seq (.expr (.mu .append 8 (.cons (.bin .add (.bin .add (.sl (.var 6) .none_ (.var 7)) (.var 9)) (.sl (.var 6) (.bin .add (.var 7) (.kI 1)) .none_)) .nil))) .done))
def b_law_pool : I := (.seq (.asg 2 (.kS "abcdefghijklmnopqrstuvwxyz0123456789")) (.seq (.asg 3 (.bin .add (.kI 1) (.bin .mod (.var 0) (.kI 8)))) (.seq (.asg 0 (.bin .fdiv (.var 0) (.kI 8))) (.seq (.asg 4 (.lst .nil)) (.seq (.for_ [5] (.iRng (.cons (.var 3) .nil)) f_law_pool_0) (.seq (.frz 4) (.seq (.asg 6 (.me .join (.kS "") (.cons (.lc (.idx (.var 2) (.var 5)) [5] (.var 4) .none_) .nil))) (.seq (.if_ (.cmp .eq (.bin .mod (.bin .fdiv (.var 1) (.kI 8)) (.kI 3)) (.kI 1)) (.seq (.ret (.lc (.sl (.bin .mul (.kI 8) (.var 6)) .none_ (.var 5)) [5] (.iRng (.cons (.kI 1) (.cons (.kI 9) .nil))) .none_)) .done) .done) (.seq (.asg 7 (.bin .mod (.var 1) (.var 3))) (.seq (.asg 8 (.lst .nil)) (.seq (.for_ [5] (.iRng (.cons (.kI 8) .nil)) f_law_pool_1) (.seq (.frz 8) (.seq (.ret (.var 8)) .done)))))))))))))
def n_law_pool : List Str := ["_law_cell", "_law_turn", "_law_signs", "_law_size", "_law_places", "_law_k", "_law_word", "_law_at", "_law_found", "_law_sign"]
/-- _law_mix: 0 _law_cell, 1 _law_k -/
def b_law_mix : I := (.seq (.ret (.bin .mod (.bin .mul (.bin .add (.bin .mod (.var 0) (.kI 2147483647)) (.kI 1)) (.bin .add (.kI 48271) (.bin .mul (.kI 7) (.var 1)))) (.kI 2147483647))) .done)
def n_law_mix : List Str := ["_law_cell", "_law_k"]
/-- _law_value: 0 _law_number, 1 _law_many, 2 _law_kind -/
def b_law_value : I := (.seq (.asg 2 (.bin .mod (.var 0) (.kI 10))) (.seq (.if_ (.cmp .lt (.var 2) (.kI 6)) (.seq (.ret (.tup (.cons (.kS "at") (.cons (.bin .mod (.bin .fdiv (.var 0) (.kI 10)) (.var 1)) .nil)))) .done) .done) (.seq (.if_ (.cmp .eq (.var 2) (.kI 6)) (.seq (.ret .kN) .done) .done) (.seq (.if_ (.cmp .lt (.var 2) (.kI 9)) (.seq (.ret (.bin .sub (.bin .mod (.bin .fdiv (.var 0) (.kI 10)) (.kI 3)) (.kI 1))) .done) .done) (.seq (.ret (.bin .mul (.bin .mod (.bin .pow (.bin .fdiv (.var 0) (.kI 10)) (.kI 7)) (.bin .pow (.kI 10) (.kI 60))) (.bin .sub (.kI 1) (.bin .mul (.kI 2) (.bin .mod (.bin .fdiv (.var 0) (.kI 20)) (.kI 2)))))) .done)))))
def n_law_value : List Str := ["_law_number", "_law_many", "_law_kind"]
/-- _law_values: 0 _law_number, 1 _law_count, 2 _law_many, 3 _law_found, 4 _law_k -/
def f_law_values_0 : I := (.seq (.asg 0 (.bin .mod (.bin .mul (.var 0) (.kI 48271)) (.kI 2147483647))) (.seq (.expr (.mu .append 3 (.cons (.call 15 (.cons (.var 0) (.cons (.var 2) .nil))) .nil))) .done))
def b_law_values : I := (.seq (.asg 3 (.lst .nil)) (.seq (.for_ [4] (.iRng (.cons (.var 1) .nil)) f_law_values_0) (.seq (.frz 3) (.seq (.ret (.var 3)) .done))))
def n_law_values : List Str := ["_law_number", "_law_count", "_law_many", "_law_found", "_law_k"]
/-- _law_part: 0 _law_number, 1 _law_some, 2 _law_pool_here, 3 _law_kind, 4 _law_start, 5 _law_pairs, 6 _law_k -/
def b_law_part : I := (.seq (.asg 3 (.bin .mod (.var 0) (.kI 8))) (.seq (.if_ (.cmp .eq (.var 3) (.kI 0)) (.seq (.ret (.tup (.cons (.kS "text") (.cons (.idx (.lst (.cons (.kS "") (.cons (.kS "a") (.cons (.kS " a") (.cons (.bin .add (.idx (.var 2) (.kI 0)) (.kS " 0")) .nil))))) (.bin .mod (.bin .fdiv (.var 0) (.kI 16)) (.kI 4))) .nil)))) .done) .done) (.seq (.if_ (.cmp .lt (.var 3) (.kI 4)) (.seq (.ret (.tup (.cons (.kS "row") (.cons (.bi .tuple (.cons (.var 1) .nil)) .nil)))) .done) .done) (.seq (.asg 4 (.bin .mul (.bin .mod (.bin .fdiv (.var 0) (.kI 8)) (.kI 2)) (.kI 3))) (.seq (.asg 5 (.bi .tuple (.cons (.lc (.tup (.cons (.idx (.var 2) (.bin .mod (.bin .add (.var 4) (.var 6)) (.kI 8))) (.cons (.idx (.var 1) (.var 6)) .nil))) [6] (.iRng (.cons (.bi .len (.cons (.var 1) .nil)) .nil)) .none_) .nil))) (.seq (.if_ (.cmp .lt (.var 3) (.kI 6)) (.seq (.ret (.tup (.cons (.kS "table") (.cons (.var 5) .nil)))) .done) .done) (.seq (.ret (.tup (.cons (.kS "record") (.cons (.idx (.var 2) (.bin .mod (.bin .fdiv (.var 0) (.kI 16)) (.kI 2))) (.cons (.var 5) .nil))))) .done)))))))
def n_law_part : List Str := ["_law_number", "_law_some", "_law_pool_here", "_law_kind", "_law_start", "_law_pairs", "_law_k"]
/-- _law_web: 0 _law_cells, 1 _law_many, 2 _law_pool_here, 3 _law_parts, 4 _law_k, 5 _law_number, 6 _law_count, 7 _law_some -/
def f_law_web_0 : I := (.seq (.asg 5 (.call 70 (.cons (.bin .add (.idx (.var 0) (.bin .mod (.var 4) (.bi .len (.cons (.var 0) .nil)))) (.bin .mul (.var 4) (.bin .fdiv (.var 4) (.bi .len (.cons (.var 0) .nil))))) (.cons (.var 4) .nil)))) (.seq (.frz 5) (.seq (.asg 6 (.idx (.lst (.cons (.kI 0) (.cons (.kI 1) (.cons (.kI 2) (.cons (.kI 2) (.cons (.kI 3) (.cons (.kI 2) (.cons (.kI 3) (.cons (.kI 1) .nil))))))))) (.bin .mod (.bin .fdiv (.var 5) (.kI 32)) (.kI 8)))) (.seq (.if_ (.cmp .eq (.bin .mod (.bin .fdiv (.var 5) (.kI 256)) (.kI 16)) (.kI 3)) (.seq (.asg 6 (.idx (.lst (.cons (.kI 8) (.cons (.kI 12) .nil))) (.bi .int (.cons (.cmp .lt (.bin .mod (.var 5) (.kI 8)) (.kI 4)) .nil)))) .done) .done) (.seq (.asg 7 (.call 71 (.cons (.bin .add (.bin .fdiv (.var 5) (.kI 8)) (.kI 1)) (.cons (.var 6) (.cons (.var 1) .nil))))) (.seq (.frz 7) (.seq (.expr (.mu .append 3 (.cons (.call 16 (.cons (.var 5) (.cons (.var 7) (.cons (.var 2) .nil)))) .nil))) .done)))))))
def b_law_web : I := (.seq (.asg 3 (.lst .nil)) (.seq (.for_ [4] (.iRng (.cons (.var 1) .nil)) f_law_web_0) (.seq (.frz 3) (.seq (.ret (.bi .tuple (.cons (.var 3) .nil))) .done))))
def n_law_web : List Str := ["_law_cells", "_law_many", "_law_pool_here", "_law_parts", "_law_k", "_law_number", "_law_count", "_law_some"]
/-- _law_vals: 0 _law_part_here, 1 _law_name, 2 _law_value_here -/
def b_law_vals : I := (.seq (.if_ (.cmp .eq (.idx (.var 0) (.kI 0)) (.kS "text")) (.seq (.ret (.lst .nil)) .done) .done) (.seq (.if_ (.cmp .eq (.idx (.var 0) (.kI 0)) (.kS "row")) (.seq (.ret (.bi .list (.cons (.idx (.var 0) (.kI 1)) .nil))) .done) .done) (.seq (.ret (.lc (.var 2) [1, 2] (.idx (.var 0) (.neg (.kI 1))) .none_)) .done)))
def n_law_vals : List Str := ["_law_part_here", "_law_name", "_law_value_here"]
/-- _law_head: 0 _law_part_here, 1 _law_name, 2 _law_value_here -/
def b_law_head : I := (.seq (.if_ (.cmp .eq (.idx (.var 0) (.kI 0)) (.kS "row")) (.seq (.ret (.tup (.cons (.kS "row") (.cons (.bi .len (.cons (.idx (.var 0) (.kI 1)) .nil)) .nil)))) .done) .done) (.seq (.if_ (.cmp .eq (.idx (.var 0) (.kI 0)) (.kS "text")) (.seq (.ret (.var 0)) .done) .done) (.seq (.ret (.bin .add (.sl (.var 0) .none_ (.neg (.kI 1))) (.tup (.cons (.bi .tuple (.cons (.lc (.var 1) [1, 2] (.idx (.var 0) (.neg (.kI 1))) .none_) .nil)) .nil)))) .done)))
def n_law_head : List Str := ["_law_part_here", "_law_name", "_law_value_here"]
/-- _law_with: 0 _law_part_here, 1 _law_some, 2 _law_k -/
def b_law_with : I := (.seq (.if_ (.cmp .eq (.idx (.var 0) (.kI 0)) (.kS "text")) (.seq (.ret (.var 0)) .done) .done) (.seq (.if_ (.cmp .eq (.idx (.var 0) (.kI 0)) (.kS "row")) (.seq (.ret (.tup (.cons (.kS "row") (.cons (.bi .tuple (.cons (.var 1) .nil)) .nil)))) .done) .done) (.seq (.ret (.bin .add (.sl (.var 0) .none_ (.neg (.kI 1))) (.tup (.cons (.bi .tuple (.cons (.lc (.tup (.cons (.idx (.idx (.idx (.var 0) (.neg (.kI 1))) (.var 2)) (.kI 0)) (.cons (.idx (.var 1) (.var 2)) .nil))) [2] (.iRng (.cons (.bi .len (.cons (.var 1) .nil)) .nil)) .none_) .nil)) .nil)))) .done)))
def n_law_with : List Str := ["_law_part_here", "_law_some", "_law_k"]
/-- _law_led: 0 _law_part_here, 1 _law_numbers, 2 _law_some, 3 _law_value_here -/
def f_law_led_0 : I := (.seq (.if_ (.bi (.isI [.tuple]) (.cons (.var 3) .nil)) (.seq (.asg 3 (.tup (.cons (.kS "at") (.cons (.idx (.var 1) (.idx (.var 3) (.kI 1))) .nil)))) .done) .done) (.seq (.expr (.mu .append 2 (.cons (.var 3) .nil))) .done))
def b_law_led : I := (.seq (.asg 2 (.lst .nil)) (.seq (.for_ [3] (.call 72 (.cons (.var 0) .nil)) f_law_led_0) (.seq (.frz 2) (.seq (.ret (.call 74 (.cons (.var 0) (.cons (.var 2) .nil)))) .done))))
def n_law_led : List Str := ["_law_part_here", "_law_numbers", "_law_some", "_law_value_here"]
/-- _law_drawn_web: 0 _law_script, 1 _law_most, 2 _law_pool_here, 3 _law_turn, 4 _law_many -/
def b_law_drawn_web : I := (.seq (.asg 2 (.call 69 (.cons (.call 25 (.cons (.var 0) (.cons (.kI 0) .nil))) (.cons (.call 25 (.cons (.var 0) (.cons (.kI 1) .nil))) .nil)))) (.seq (.frz 2) (.seq (.asg 3 (.call 25 (.cons (.var 0) (.cons (.kI 2) .nil)))) (.seq (.frz 3) (.seq (.asg 4 (.bin .add (.kI 1) (.bin .mod (.var 3) (.idx (.lst (.cons (.kI 12) (.cons (.kI 12) (.cons (.var 1) (.cons (.kI 4) .nil))))) (.bin .mod (.bin .fdiv (.var 3) (.kI 60)) (.kI 4)))))) (.seq (.ret (.call 27 (.cons (.bin .add (.sl (.var 0) (.kI 9) (.kI 60)) (.lst (.cons (.call 25 (.cons (.var 0) (.cons (.kI 3) .nil))) .nil))) (.cons (.var 4) (.cons (.var 2) .nil))))) .done))))))
def n_law_drawn_web : List Str := ["_law_script", "_law_most", "_law_pool_here", "_law_turn", "_law_many"]
/-- _law_changed: 0 _law_web_here, 1 _law_cell, 2 _law_k, 3 _law_some, 4 _law_at -/
def b_law_changed : I := (.seq (.asg 2 (.bin .mod (.var 1) (.bi .len (.cons (.var 0) .nil)))) (.seq (.asg 3 (.call 72 (.cons (.idx (.var 0) (.var 2)) .nil))) (.seq (.if_ (.cmp .eq (.var 3) (.lst .nil)) (.seq (.ret (.var 0)) .done) .done) (.seq (.asg 4 (.bin .mod (.bin .fdiv (.var 1) (.kI 60)) (.bi .len (.cons (.var 3) .nil)))) (.seq (.put 3 (.var 4) (.call 15 (.cons (.bin .mod (.bin .fdiv (.var 1) (.kI 240)) (.kI 1000000)) (.cons (.bi .len (.cons (.var 0) .nil)) .nil)))) (.seq (.frz 3) (.seq (.ret (.bin .add (.bin .add (.sl (.var 0) .none_ (.var 2)) (.tup (.cons (.call 74 (.cons (.idx (.var 0) (.var 2)) (.cons (.var 3) .nil))) .nil))) (.sl (.var 0) (.bin .add (.var 2) (.kI 1)) .none_))) .done)))))))
def n_law_changed : List Str := ["_law_web_here", "_law_cell", "_law_k", "_law_some", "_law_at"]
/-- _law_met_in: 0 _law_web_here, 1 _law_k, 2 _law_kept_here, 3 _law_found, 4 _law_value_here -/
def f_law_met_in_0 : I := (.seq (.if_ (.bi (.isI [.tuple]) (.cons (.var 4) .nil)) (.seq (.expr (.callM 133 (.cons (.var 0) (.cons (.idx (.var 4) (.kI 1)) (.cons (.var 2) (.cons (.var 3) .nil)))) (some 3))) .done) .done) .done)
def b_law_met_in : I := (.seq (.if_ (.and_ (.cmp .notIn (.var 1) (.var 3)) (.cmp .notIn (.var 1) (.var 2))) (.seq (.expr (.mu .append 3 (.cons (.var 1) .nil))) (.seq (.for_ [4] (.call 72 (.cons (.idx (.var 0) (.var 1)) .nil)) f_law_met_in_0) .done)) .done) (.seq (.retM 3) .done))
def n_law_met_in : List Str := ["_law_web_here", "_law_k", "_law_kept_here", "_law_found", "_law_value_here"]
/-- _law_due: 0 _law_web_here, 1 _law_k, 2 _law_kept_here, 3 _law_some, 4 _law_numbers, 5 _law_at, 6 _law_j -/
def f_law_due_0 : I := (.seq (.put 4 (.idx (.var 3) (.var 5)) (.bin .add (.bi .len (.cons (.var 0) .nil)) (.var 5))) .done)
def b_law_due : I := (.seq (.if_ (.cmp .isIn (.var 1) (.var 2)) (.seq (.ret (.tup (.cons (.var 0) (.cons (.var 1) .nil)))) .done) .done) (.seq (.asg 3 (.callM 133 (.cons (.var 0) (.cons (.var 1) (.cons (.var 2) (.cons (.lst .nil) .nil)))) none)) (.seq (.frz 3) (.seq (.if_ (.cmp .gt (.bin .add (.bi .len (.cons (.var 0) .nil)) (.bi .len (.cons (.var 3) .nil))) (.kI 60)) (.seq (.ret (.kS "too many")) .done) .done) (.seq (.asg 4 (.bi .listRng (.cons (.bi .len (.cons (.var 0) .nil)) .nil))) (.seq (.for_ [5] (.iRng (.cons (.bi .len (.cons (.var 3) .nil)) .nil)) f_law_due_0) (.seq (.frz 4) (.seq (.ret (.tup (.cons (.bin .add (.var 0) (.bi .tuple (.cons (.lc (.call 45 (.cons (.idx (.var 0) (.var 6)) (.cons (.var 4) .nil))) [6] (.var 3) .none_) .nil))) (.cons (.bi .len (.cons (.var 0) .nil)) .nil)))) .done))))))))
def n_law_due : List Str := ["_law_web_here", "_law_k", "_law_kept_here", "_law_some", "_law_numbers", "_law_at", "_law_j"]
/-- _law_told: 0 _law_which, 1 _law_web_here, 2 _law_k, 3 _law_kept_here, 4 _law_found, 5 _law_word, 6 e -/
def f_law_told_0 : I := (.seq (.if_ (.cmp .eq (.var 0) (.kI 0)) (.seq (.asg 4 (.call 130 (.cons (.var 1) (.cons (.var 2) (.cons (.var 3) .nil))))) .done) (.seq (.if_ (.cmp .eq (.var 0) (.kI 1)) (.seq (.asg 4 (.call 131 (.cons (.var 1) (.cons (.var 2) .nil)))) .done) (.seq (.asg 4 (.call 132 (.cons (.var 1) (.cons (.var 2) .nil)))) .done)) .done)) .done)
def f_law_told_1 : I := (.seq (.asg 5 (.kS "wrong")) (.seq (.if_ (.and_ (.isE ["TooMany"] (.var 6)) (.isE ["ValueError"] (.var 6))) (.seq (.asg 5 (.kS "too many")) .done) .done) (.seq (.if_ (.isE ["NoPack", "NoPlace", "NoText", "NoValue", "NoWay"] (.var 6)) (.seq (.asg 5 (.kS "wrong")) .done) .done) .done)))
def b_law_told : I := (.seq (.asg 4 .kN) (.seq (.asg 5 (.kS "")) (.seq (.try_ f_law_told_0 "WebError" (some 6) f_law_told_1) (.seq (.if_ (.cmp .ne (.var 5) (.kS "")) (.seq (.ret (.var 5)) .done) .done) (.seq (.if_ (.or_ (.not_ (.bi (.isI [.tuple]) (.cons (.var 4) .nil))) (.or_ (.cmp .ne (.bi .len (.cons (.var 4) .nil)) (.kI 2)) (.bi (.isI [.bool]) (.cons (.idx (.var 4) (.kI 1)) .nil)))) (.seq (.ret (.kS "wrong")) .done) .done) (.seq (.ret (.var 4)) .done))))))
def n_law_told : List Str := ["_law_which", "_law_web_here", "_law_k", "_law_kept_here", "_law_found", "_law_word", "e"]
/-- _law_kept: 0 _law_web_here, 1 _law_k, 2 _law_number, 3 _law_kind, 4 _law_kept_here, 5 _law_j -/
def b_law_kept : I := (.seq (.asg 3 (.bin .mod (.var 2) (.kI 5))) (.seq (.if_ (.cmp .eq (.var 3) (.kI 0)) (.seq (.ret (.lst .nil)) .done) .done) (.seq (.if_ (.cmp .eq (.var 3) (.kI 1)) (.seq (.ret (.lst (.cons (.bin .mod (.bin .fdiv (.var 2) (.kI 5)) (.bi .len (.cons (.var 0) .nil))) .nil))) .done) .done) (.seq (.asg 4 (.lc (.var 5) [5] (.iRng (.cons (.bi .len (.cons (.var 0) .nil)) .nil)) (.and_ (.cmp .lt (.bin .mod (.bin .fdiv (.var 2) (.bin .add (.var 5) (.kI 6))) (.kI 3)) (.bin .sub (.var 3) (.kI 1))) (.cmp .ne (.var 5) (.var 1))))) (.seq (.if_ (.cmp .eq (.bin .mod (.bin .fdiv (.var 2) (.kI 15)) (.kI 2)) (.kI 1)) (.seq (.asg 4 (.bin .add (.revL (.var 4)) (.sl (.var 4) .none_ (.kI 1)))) .done) .done) (.seq (.if_ (.cmp .eq (.bin .mod (.bin .fdiv (.var 2) (.kI 30)) (.kI 4)) (.kI 1)) (.seq (.expr (.mu .append 4 (.cons (.var 1) .nil))) .done) .done) (.seq (.frz 4) (.seq (.ret (.var 4)) .done))))))))
def n_law_kept : List Str := ["_law_web_here", "_law_k", "_law_number", "_law_kind", "_law_kept_here", "_law_j"]
/-- law: 0 _law_script, 1 _law_web_here, 2 _law_j, 3 _law_number, 4 _law_k, 5 _law_kept_here, 6 _law_handed, 7 _law_due_here, 8 _law_whole, 9 _law_told_here, 10 _law_others, 11 _law_at -/
def f_law_0 : I := (.seq (.if_ (.cmp .ne (.var 9) (.var 8)) (.seq (.ret (.kB false)) .done) .done) .done)
def f_law_1 : I := (.seq (.asg 3 (.call 70 (.cons (.bin .add (.call 25 (.cons (.var 0) (.cons (.bin .add (.kI 4) (.bin .mod (.var 2) (.kI 4))) .nil))) (.bin .mul (.var 2) (.var 2))) (.cons (.bin .add (.var 2) (.kI 40)) .nil)))) (.seq (.frz 3) (.seq (.asg 4 (.bin .mod (.bin .fdiv (.var 3) (.kI 7)) (.bi .len (.cons (.var 1) .nil)))) (.seq (.asg 5 (.call 134 (.cons (.var 1) (.cons (.var 4) (.cons (.bin .fdiv (.var 3) (.kI 210)) .nil))))) (.seq (.frz 5) (.seq (.asg 6 (.bi .list (.cons (.var 5) .nil))) (.seq (.frz 6) (.seq (.asg 7 (.call 32 (.cons (.var 1) (.cons (.var 4) (.cons (.var 5) .nil))))) (.seq (.frz 7) (.seq (.if_ (.or_ (.cmp .ne (.call 77 (.cons (.kI 0) (.cons (.var 1) (.cons (.var 4) (.cons (.var 6) .nil))))) (.var 7)) (.cmp .ne (.var 6) (.var 5))) (.seq (.ret (.kB false)) .done) .done) (.seq (.asg 8 (.call 32 (.cons (.var 1) (.cons (.var 4) (.cons (.lst .nil) .nil))))) (.seq (.frz 8) (.seq (.for_ [9] (.lst (.cons (.call 77 (.cons (.kI 1) (.cons (.var 1) (.cons (.var 4) (.cons (.lst .nil) .nil))))) (.cons (.call 77 (.cons (.kI 0) (.cons (.var 1) (.cons (.var 4) (.cons .kN .nil))))) (.cons (.call 77 (.cons (.kI 0) (.cons (.var 1) (.cons (.var 4) (.cons (.lst .nil) .nil))))) .nil)))) f_law_0) (.seq (.asg 10 (.lc (.var 11) [11] (.iRng (.cons (.bi .len (.cons (.var 1) .nil)) .nil)) (.cmp .ne (.var 11) (.var 4)))) (.seq (.frz 10) (.seq (.if_ (.cmp .ne (.call 77 (.cons (.kI 2) (.cons (.var 1) (.cons (.var 4) (.cons (.lst .nil) .nil))))) (.call 32 (.cons (.var 1) (.cons (.var 4) (.cons (.var 10) .nil))))) (.seq (.ret (.kB false)) .done) .done) (.seq (.if_ (.and_ (.cmp .eq (.bin .mod (.var 2) (.kI 3)) (.kI 2)) (.bi (.isI [.tuple]) (.cons (.var 7) .nil))) (.seq (.asg 1 (.idx (.var 7) (.kI 0))) .done) .done) .done)))))))))))))))))
def b_law : I := (.seq (.asg 1 (.call 110 (.cons (.var 0) (.cons (.kI 60) .nil)))) (.seq (.frz 1) (.seq (.for_ [2] (.iRng (.cons (.kI 8) .nil)) f_law_1) (.seq (.ret (.kB true)) .done))))
def n_law : List Str := ["_law_script", "_law_web_here", "_law_j", "_law_number", "_law_k", "_law_kept_here", "_law_handed", "_law_due_here", "_law_whole", "_law_told_here", "_law_others", "_law_at"]
def globs : List (Nat × D) := [(4, .int 60)]
def tups : List (Nat × List Str) := []
def pg : Pg := ⟨[⟨1, n_is_whole, b_is_whole, false⟩, ⟨1, n_is_link, b_is_link, false⟩, ⟨1, n_values, b_values, false⟩, ⟨1, n_links, b_links, false⟩, ⟨2, n_with_values, b_with_values, false⟩, ⟨2, n_led, b_led, false⟩, ⟨2, n_led_part, b_led_part, false⟩, ⟨3, n_met_but, b_met_but, false⟩, ⟨3, n_copied, b_copied, false⟩, ⟨2, n_shallow, b_shallow, false⟩, ⟨2, n_law_cell_at, b_law_cell_at, false⟩, ⟨2, n_law_pool, b_law_pool, false⟩, ⟨2, n_law_mix, b_law_mix, false⟩, ⟨2, n_law_value, b_law_value, false⟩, ⟨3, n_law_values, b_law_values, false⟩, ⟨3, n_law_part, b_law_part, false⟩, ⟨3, n_law_web, b_law_web, false⟩, ⟨1, n_law_vals, b_law_vals, false⟩, ⟨1, n_law_head, b_law_head, false⟩, ⟨2, n_law_with, b_law_with, false⟩, ⟨2, n_law_led, b_law_led, false⟩, ⟨2, n_law_drawn_web, b_law_drawn_web, false⟩, ⟨2, n_law_changed, b_law_changed, false⟩, ⟨4, n_law_met_in, b_law_met_in, true⟩, ⟨3, n_law_due, b_law_due, false⟩, ⟨4, n_law_told, b_law_told, false⟩, ⟨3, n_law_kept, b_law_kept, false⟩, ⟨1, n_law, b_law, false⟩], [(0, 0, []), (21, 2, []), (3, 1, []), (30, 4, []), (40, 5, []), (22, 3, []), (129, 7, []), (41, 6, []), (130, 8, []), (15, 13, []), (70, 12, []), (71, 14, []), (16, 15, []), (72, 17, []), (74, 19, []), (69, 11, []), (25, 10, []), (27, 16, []), (133, 23, []), (45, 20, []), (131, 8, [.non]), (132, 9, []), (110, 21, []), (134, 26, []), (32, 24, []), (77, 25, []), (11, 27, [])], globs, tups, [("TooMany", ["TooMany", "WebError"]), ("NoPack", ["NoPack", "WebError"]), ("NoPlace", ["NoPlace", "WebError"]), ("NoText", ["NoText", "WebError"]), ("NoValue", ["NoValue", "WebError"]), ("NoWay", ["NoWay", "WebError"]), ("WebError", ["WebError"])]⟩
def tb : Tb := ⟨[], [("is_whole", 0), ("values", 21), ("is_link", 3), ("with_values", 30), ("led", 40), ("links", 22), ("met_but", 129), ("led_part", 41), ("copied", 130), ("_law_value", 15), ("_law_mix", 70), ("_law_values", 71), ("_law_part", 16), ("_law_vals", 72), ("_law_with", 74), ("_law_pool", 69), ("_law_cell_at", 25), ("_law_web", 27), ("_law_met_in", 133), ("_law_led", 45), ("copied", 131), ("shallow", 132), ("_law_drawn_web", 110), ("_law_kept", 134), ("_law_due", 32), ("_law_told", 77), ("law", 11)], ["isinstance", "int", "bool", "tuple", "len", "str", "list", "zip", "reversed", "range", "ValueError"], [("MOST_PARTS", 4)], [], ["TooMany", "NoPack", "NoPlace", "NoText", "NoValue", "NoWay", "WebError"], ["TooMany", "NoPlace", "NoText", "NoValue", "WebError"], [], [("_law_met_in", 133)], none, false⟩
def defs : List He.DefD := [⟨("is_whole", none), "is_whole", "is_whole", defArgs (top 10), defBody (top 10), defScope (top 10), [], []⟩,
  ⟨("is_link", none), "is_link", "is_link", defArgs (top 11), defBody (top 11), defScope (top 11), [], []⟩,
  ⟨("values", none), "values", "values", defArgs (top 12), defBody (top 12), defScope (top 12), [], []⟩,
  ⟨("links", none), "links", "links", defArgs (top 13), defBody (top 13), defScope (top 13), [], []⟩,
  ⟨("with_values", none), "with_values", "with_values", defArgs (top 14), defBody (top 14), defScope (top 14), [], []⟩,
  ⟨("led", none), "led", "led", defArgs (top 15), defBody (top 15), defScope (top 15), [], []⟩,
  ⟨("led_part", none), "led_part", "led_part", defArgs (top 16), defBody (top 16), defScope (top 16), [], []⟩,
  ⟨("met_but", none), "met_but", "met_but", defArgs (top 18), defBody (top 18), defScope (top 18), [], []⟩,
  ⟨("copied", none), "copied", "copied", defArgs (top 19), defBody (top 19), defScope (top 19), [.non], []⟩,
  ⟨("shallow", none), "shallow", "shallow", defArgs (top 20), defBody (top 20), defScope (top 20), [], []⟩,
  ⟨("_law_cell_at", none), "_law_cell_at", "_law_cell_at", defArgs (top 22), defBody (top 22), defScope (top 22), [], []⟩,
  ⟨("_law_pool", none), "_law_pool", "_law_pool", defArgs (top 23), defBody (top 23), defScope (top 23), [], []⟩,
  ⟨("_law_mix", none), "_law_mix", "_law_mix", defArgs (top 24), defBody (top 24), defScope (top 24), [], []⟩,
  ⟨("_law_value", none), "_law_value", "_law_value", defArgs (top 25), defBody (top 25), defScope (top 25), [], []⟩,
  ⟨("_law_values", none), "_law_values", "_law_values", defArgs (top 26), defBody (top 26), defScope (top 26), [], []⟩,
  ⟨("_law_part", none), "_law_part", "_law_part", defArgs (top 27), defBody (top 27), defScope (top 27), [], []⟩,
  ⟨("_law_web", none), "_law_web", "_law_web", defArgs (top 28), defBody (top 28), defScope (top 28), [], []⟩,
  ⟨("_law_vals", none), "_law_vals", "_law_vals", defArgs (top 29), defBody (top 29), defScope (top 29), [], []⟩,
  ⟨("_law_head", none), "_law_head", "_law_head", defArgs (top 30), defBody (top 30), defScope (top 30), [], []⟩,
  ⟨("_law_with", none), "_law_with", "_law_with", defArgs (top 31), defBody (top 31), defScope (top 31), [], []⟩,
  ⟨("_law_led", none), "_law_led", "_law_led", defArgs (top 32), defBody (top 32), defScope (top 32), [], []⟩,
  ⟨("_law_drawn_web", none), "_law_drawn_web", "_law_drawn_web", defArgs (top 33), defBody (top 33), defScope (top 33), [], []⟩,
  ⟨("_law_changed", none), "_law_changed", "_law_changed", defArgs (top 34), defBody (top 34), defScope (top 34), [], []⟩,
  ⟨("_law_met_in", none), "_law_met_in", "_law_met_in", defArgs (top 35), defBody (top 35), defScope (top 35), [], []⟩,
  ⟨("_law_due", none), "_law_due", "_law_due", defArgs (top 36), defBody (top 36), defScope (top 36), [], []⟩,
  ⟨("_law_told", none), "_law_told", "_law_told", defArgs (top 37), defBody (top 37), defScope (top 37), [], []⟩,
  ⟨("_law_kept", none), "_law_kept", "_law_kept", defArgs (top 38), defBody (top 38), defScope (top 38), [], []⟩,
  ⟨("law", none), "law", "law", defArgs (top 39), defBody (top 39), defScope (top 39), [], []⟩]
theorem c_is_whole (k : Nat) (a0 : D) : pg.call (k + 1) 0 [a0] = fin (evS (pg.cx k) b_is_whole [.val a0]) := rfl
theorem c_is_link (k : Nat) (a0 : D) : pg.call (k + 1) 1 [a0] = fin (evS (pg.cx k) b_is_link [.val a0]) := rfl
theorem c_values (k : Nat) (a0 : D) : pg.call (k + 1) 2 [a0] = fin (evS (pg.cx k) b_values [.val a0, .emp, .emp]) := rfl
theorem c_links (k : Nat) (a0 : D) : pg.call (k + 1) 3 [a0] = fin (evS (pg.cx k) b_links [.val a0, .emp]) := rfl
theorem c_with_values (k : Nat) (a0 a1 : D) : pg.call (k + 1) 4 [a0, a1] = fin (evS (pg.cx k) b_with_values [.val a0, .val a1, .emp, .emp, .emp]) := rfl
theorem c_led (k : Nat) (a0 a1 : D) : pg.call (k + 1) 5 [a0, a1] = fin (evS (pg.cx k) b_led [.val a0, .val a1]) := rfl
theorem c_led_part (k : Nat) (a0 a1 : D) : pg.call (k + 1) 6 [a0, a1] = fin (evS (pg.cx k) b_led_part [.val a0, .val a1, .emp]) := rfl
theorem c_met_but (k : Nat) (a0 a1 a2 : D) : pg.call (k + 1) 7 [a0, a1, a2] = fin (evS (pg.cx k) b_met_but [.val a0, .val a1, .val a2, .emp, .emp, .emp]) := rfl
theorem c_copied (k : Nat) (a0 a1 a2 : D) : pg.call (k + 1) 8 [a0, a1, a2] = fin (evS (pg.cx k) b_copied [.val a0, .val a1, .val a2, .emp, .emp, .emp]) := rfl
theorem c_shallow (k : Nat) (a0 a1 : D) : pg.call (k + 1) 9 [a0, a1] = fin (evS (pg.cx k) b_shallow [.val a0, .val a1, .emp]) := rfl
theorem c_law_cell_at (k : Nat) (a0 a1 : D) : pg.call (k + 1) 10 [a0, a1] = fin (evS (pg.cx k) b_law_cell_at [.val a0, .val a1]) := rfl
theorem c_law_pool (k : Nat) (a0 a1 : D) : pg.call (k + 1) 11 [a0, a1] = fin (evS (pg.cx k) b_law_pool [.val a0, .val a1, .emp, .emp, .emp, .emp, .emp, .emp, .emp, .emp]) := rfl
theorem c_law_mix (k : Nat) (a0 a1 : D) : pg.call (k + 1) 12 [a0, a1] = fin (evS (pg.cx k) b_law_mix [.val a0, .val a1]) := rfl
theorem c_law_value (k : Nat) (a0 a1 : D) : pg.call (k + 1) 13 [a0, a1] = fin (evS (pg.cx k) b_law_value [.val a0, .val a1, .emp]) := rfl
theorem c_law_values (k : Nat) (a0 a1 a2 : D) : pg.call (k + 1) 14 [a0, a1, a2] = fin (evS (pg.cx k) b_law_values [.val a0, .val a1, .val a2, .emp, .emp]) := rfl
theorem c_law_part (k : Nat) (a0 a1 a2 : D) : pg.call (k + 1) 15 [a0, a1, a2] = fin (evS (pg.cx k) b_law_part [.val a0, .val a1, .val a2, .emp, .emp, .emp, .emp]) := rfl
theorem c_law_web (k : Nat) (a0 a1 a2 : D) : pg.call (k + 1) 16 [a0, a1, a2] = fin (evS (pg.cx k) b_law_web [.val a0, .val a1, .val a2, .emp, .emp, .emp, .emp, .emp]) := rfl
theorem c_law_vals (k : Nat) (a0 : D) : pg.call (k + 1) 17 [a0] = fin (evS (pg.cx k) b_law_vals [.val a0, .emp, .emp]) := rfl
theorem c_law_head (k : Nat) (a0 : D) : pg.call (k + 1) 18 [a0] = fin (evS (pg.cx k) b_law_head [.val a0, .emp, .emp]) := rfl
theorem c_law_with (k : Nat) (a0 a1 : D) : pg.call (k + 1) 19 [a0, a1] = fin (evS (pg.cx k) b_law_with [.val a0, .val a1, .emp]) := rfl
theorem c_law_led (k : Nat) (a0 a1 : D) : pg.call (k + 1) 20 [a0, a1] = fin (evS (pg.cx k) b_law_led [.val a0, .val a1, .emp, .emp]) := rfl
theorem c_law_drawn_web (k : Nat) (a0 a1 : D) : pg.call (k + 1) 21 [a0, a1] = fin (evS (pg.cx k) b_law_drawn_web [.val a0, .val a1, .emp, .emp, .emp]) := rfl
theorem c_law_changed (k : Nat) (a0 a1 : D) : pg.call (k + 1) 22 [a0, a1] = fin (evS (pg.cx k) b_law_changed [.val a0, .val a1, .emp, .emp, .emp]) := rfl
theorem c_law_met_in (k : Nat) (a0 a1 a2 a3 : D) : pg.call (k + 1) 23 [a0, a1, a2, a3] = fin (evS (pg.cx k) b_law_met_in [.val a0, .val a1, .val a2, .val a3, .emp]) := rfl
theorem c_law_due (k : Nat) (a0 a1 a2 : D) : pg.call (k + 1) 24 [a0, a1, a2] = fin (evS (pg.cx k) b_law_due [.val a0, .val a1, .val a2, .emp, .emp, .emp, .emp]) := rfl
theorem c_law_told (k : Nat) (a0 a1 a2 a3 : D) : pg.call (k + 1) 25 [a0, a1, a2, a3] = fin (evS (pg.cx k) b_law_told [.val a0, .val a1, .val a2, .val a3, .emp, .emp, .emp]) := rfl
theorem c_law_kept (k : Nat) (a0 a1 a2 : D) : pg.call (k + 1) 26 [a0, a1, a2] = fin (evS (pg.cx k) b_law_kept [.val a0, .val a1, .val a2, .emp, .emp, .emp]) := rfl
theorem c_law (k : Nat) (a0 : D) : pg.call (k + 1) 27 [a0] = fin (evS (pg.cx k) b_law [.val a0, .emp, .emp, .emp, .emp, .emp, .emp, .emp, .emp, .emp, .emp, .emp]) := rfl
@[simp] theorem e_is_whole (k : Nat) (ds : List D) : (pg.cx k).call 0 ds = pg.call k 0 (ds ++ []) := (rfl)
@[simp] theorem e_values (k : Nat) (ds : List D) : (pg.cx k).call 21 ds = pg.call k 2 (ds ++ []) := (rfl)
@[simp] theorem e_is_link (k : Nat) (ds : List D) : (pg.cx k).call 3 ds = pg.call k 1 (ds ++ []) := (rfl)
@[simp] theorem e_with_values (k : Nat) (ds : List D) : (pg.cx k).call 30 ds = pg.call k 4 (ds ++ []) := (rfl)
@[simp] theorem e_led (k : Nat) (ds : List D) : (pg.cx k).call 40 ds = pg.call k 5 (ds ++ []) := (rfl)
@[simp] theorem e_links (k : Nat) (ds : List D) : (pg.cx k).call 22 ds = pg.call k 3 (ds ++ []) := (rfl)
@[simp] theorem e_met_but (k : Nat) (ds : List D) : (pg.cx k).call 129 ds = pg.call k 7 (ds ++ []) := (rfl)
@[simp] theorem e_led_part (k : Nat) (ds : List D) : (pg.cx k).call 41 ds = pg.call k 6 (ds ++ []) := (rfl)
@[simp] theorem e_copied (k : Nat) (ds : List D) : (pg.cx k).call 130 ds = pg.call k 8 (ds ++ []) := (rfl)
@[simp] theorem e_law_value (k : Nat) (ds : List D) : (pg.cx k).call 15 ds = pg.call k 13 (ds ++ []) := (rfl)
@[simp] theorem e_law_mix (k : Nat) (ds : List D) : (pg.cx k).call 70 ds = pg.call k 12 (ds ++ []) := (rfl)
@[simp] theorem e_law_values (k : Nat) (ds : List D) : (pg.cx k).call 71 ds = pg.call k 14 (ds ++ []) := (rfl)
@[simp] theorem e_law_part (k : Nat) (ds : List D) : (pg.cx k).call 16 ds = pg.call k 15 (ds ++ []) := (rfl)
@[simp] theorem e_law_vals (k : Nat) (ds : List D) : (pg.cx k).call 72 ds = pg.call k 17 (ds ++ []) := (rfl)
@[simp] theorem e_law_with (k : Nat) (ds : List D) : (pg.cx k).call 74 ds = pg.call k 19 (ds ++ []) := (rfl)
@[simp] theorem e_law_pool (k : Nat) (ds : List D) : (pg.cx k).call 69 ds = pg.call k 11 (ds ++ []) := (rfl)
@[simp] theorem e_law_cell_at (k : Nat) (ds : List D) : (pg.cx k).call 25 ds = pg.call k 10 (ds ++ []) := (rfl)
@[simp] theorem e_law_web (k : Nat) (ds : List D) : (pg.cx k).call 27 ds = pg.call k 16 (ds ++ []) := (rfl)
@[simp] theorem e_law_met_in (k : Nat) (ds : List D) : (pg.cx k).call 133 ds = pg.call k 23 (ds ++ []) := (rfl)
@[simp] theorem e_law_led (k : Nat) (ds : List D) : (pg.cx k).call 45 ds = pg.call k 20 (ds ++ []) := (rfl)
@[simp] theorem e_copied_1 (k : Nat) (ds : List D) : (pg.cx k).call 131 ds = pg.call k 8 (ds ++ [.non]) := (rfl)
@[simp] theorem e_shallow (k : Nat) (ds : List D) : (pg.cx k).call 132 ds = pg.call k 9 (ds ++ []) := (rfl)
@[simp] theorem e_law_drawn_web (k : Nat) (ds : List D) : (pg.cx k).call 110 ds = pg.call k 21 (ds ++ []) := (rfl)
@[simp] theorem e_law_kept (k : Nat) (ds : List D) : (pg.cx k).call 134 ds = pg.call k 26 (ds ++ []) := (rfl)
@[simp] theorem e_law_due (k : Nat) (ds : List D) : (pg.cx k).call 32 ds = pg.call k 24 (ds ++ []) := (rfl)
@[simp] theorem e_law_told (k : Nat) (ds : List D) : (pg.cx k).call 77 ds = pg.call k 25 (ds ++ []) := (rfl)
@[simp] theorem e_law (k : Nat) (ds : List D) : (pg.cx k).call 11 ds = pg.call k 27 (ds ++ []) := (rfl)
theorem m_law_met_in (k : Nat) (a0 a1 a2 : D) (c : Cell) : pg.callM (k + 1) 23 [a0, a1, a2] c = finM 3 (evS (pg.cx k) b_law_met_in [.val a0, .val a1, .val a2, .own c, .emp]) := rfl
theorem em_law_met_in (k : Nat) (ds : List D) (c : Cell) : (pg.cx k).callM 133 ds c = pg.callM k 23 ds c := (rfl)
@[simp] theorem g_MOST_PARTS (k : Nat) : (pg.cx k).glob 4 = some (.int 60) := (rfl)
theorem s_TooMany_TooMany (k : Nat) : (pg.cx k).sub "TooMany" "TooMany" = some true := by kernel_rfl
theorem s_TooMany_NoPack (k : Nat) : (pg.cx k).sub "TooMany" "NoPack" = some false := by kernel_rfl
theorem s_TooMany_NoPlace (k : Nat) : (pg.cx k).sub "TooMany" "NoPlace" = some false := by kernel_rfl
theorem s_TooMany_NoText (k : Nat) : (pg.cx k).sub "TooMany" "NoText" = some false := by kernel_rfl
theorem s_TooMany_NoValue (k : Nat) : (pg.cx k).sub "TooMany" "NoValue" = some false := by kernel_rfl
theorem s_TooMany_NoWay (k : Nat) : (pg.cx k).sub "TooMany" "NoWay" = some false := by kernel_rfl
theorem s_TooMany_WebError (k : Nat) : (pg.cx k).sub "TooMany" "WebError" = some true := by kernel_rfl
theorem s_TooMany_ValueError (k : Nat) : (pg.cx k).sub "TooMany" "ValueError" = some true := by kernel_rfl
theorem s_NoPack_TooMany (k : Nat) : (pg.cx k).sub "NoPack" "TooMany" = some false := by kernel_rfl
theorem s_NoPack_NoPack (k : Nat) : (pg.cx k).sub "NoPack" "NoPack" = some true := by kernel_rfl
theorem s_NoPack_NoPlace (k : Nat) : (pg.cx k).sub "NoPack" "NoPlace" = some false := by kernel_rfl
theorem s_NoPack_NoText (k : Nat) : (pg.cx k).sub "NoPack" "NoText" = some false := by kernel_rfl
theorem s_NoPack_NoValue (k : Nat) : (pg.cx k).sub "NoPack" "NoValue" = some false := by kernel_rfl
theorem s_NoPack_NoWay (k : Nat) : (pg.cx k).sub "NoPack" "NoWay" = some false := by kernel_rfl
theorem s_NoPack_WebError (k : Nat) : (pg.cx k).sub "NoPack" "WebError" = some true := by kernel_rfl
theorem s_NoPack_ValueError (k : Nat) : (pg.cx k).sub "NoPack" "ValueError" = some true := by kernel_rfl
theorem s_NoPlace_TooMany (k : Nat) : (pg.cx k).sub "NoPlace" "TooMany" = some false := by kernel_rfl
theorem s_NoPlace_NoPack (k : Nat) : (pg.cx k).sub "NoPlace" "NoPack" = some false := by kernel_rfl
theorem s_NoPlace_NoPlace (k : Nat) : (pg.cx k).sub "NoPlace" "NoPlace" = some true := by kernel_rfl
theorem s_NoPlace_NoText (k : Nat) : (pg.cx k).sub "NoPlace" "NoText" = some false := by kernel_rfl
theorem s_NoPlace_NoValue (k : Nat) : (pg.cx k).sub "NoPlace" "NoValue" = some false := by kernel_rfl
theorem s_NoPlace_NoWay (k : Nat) : (pg.cx k).sub "NoPlace" "NoWay" = some false := by kernel_rfl
theorem s_NoPlace_WebError (k : Nat) : (pg.cx k).sub "NoPlace" "WebError" = some true := by kernel_rfl
theorem s_NoPlace_ValueError (k : Nat) : (pg.cx k).sub "NoPlace" "ValueError" = some true := by kernel_rfl
theorem s_NoText_TooMany (k : Nat) : (pg.cx k).sub "NoText" "TooMany" = some false := by kernel_rfl
theorem s_NoText_NoPack (k : Nat) : (pg.cx k).sub "NoText" "NoPack" = some false := by kernel_rfl
theorem s_NoText_NoPlace (k : Nat) : (pg.cx k).sub "NoText" "NoPlace" = some false := by kernel_rfl
theorem s_NoText_NoText (k : Nat) : (pg.cx k).sub "NoText" "NoText" = some true := by kernel_rfl
theorem s_NoText_NoValue (k : Nat) : (pg.cx k).sub "NoText" "NoValue" = some false := by kernel_rfl
theorem s_NoText_NoWay (k : Nat) : (pg.cx k).sub "NoText" "NoWay" = some false := by kernel_rfl
theorem s_NoText_WebError (k : Nat) : (pg.cx k).sub "NoText" "WebError" = some true := by kernel_rfl
theorem s_NoText_ValueError (k : Nat) : (pg.cx k).sub "NoText" "ValueError" = some true := by kernel_rfl
theorem s_NoValue_TooMany (k : Nat) : (pg.cx k).sub "NoValue" "TooMany" = some false := by kernel_rfl
theorem s_NoValue_NoPack (k : Nat) : (pg.cx k).sub "NoValue" "NoPack" = some false := by kernel_rfl
theorem s_NoValue_NoPlace (k : Nat) : (pg.cx k).sub "NoValue" "NoPlace" = some false := by kernel_rfl
theorem s_NoValue_NoText (k : Nat) : (pg.cx k).sub "NoValue" "NoText" = some false := by kernel_rfl
theorem s_NoValue_NoValue (k : Nat) : (pg.cx k).sub "NoValue" "NoValue" = some true := by kernel_rfl
theorem s_NoValue_NoWay (k : Nat) : (pg.cx k).sub "NoValue" "NoWay" = some false := by kernel_rfl
theorem s_NoValue_WebError (k : Nat) : (pg.cx k).sub "NoValue" "WebError" = some true := by kernel_rfl
theorem s_NoValue_ValueError (k : Nat) : (pg.cx k).sub "NoValue" "ValueError" = some true := by kernel_rfl
theorem s_NoWay_TooMany (k : Nat) : (pg.cx k).sub "NoWay" "TooMany" = some false := by kernel_rfl
theorem s_NoWay_NoPack (k : Nat) : (pg.cx k).sub "NoWay" "NoPack" = some false := by kernel_rfl
theorem s_NoWay_NoPlace (k : Nat) : (pg.cx k).sub "NoWay" "NoPlace" = some false := by kernel_rfl
theorem s_NoWay_NoText (k : Nat) : (pg.cx k).sub "NoWay" "NoText" = some false := by kernel_rfl
theorem s_NoWay_NoValue (k : Nat) : (pg.cx k).sub "NoWay" "NoValue" = some false := by kernel_rfl
theorem s_NoWay_NoWay (k : Nat) : (pg.cx k).sub "NoWay" "NoWay" = some true := by kernel_rfl
theorem s_NoWay_WebError (k : Nat) : (pg.cx k).sub "NoWay" "WebError" = some true := by kernel_rfl
theorem s_NoWay_ValueError (k : Nat) : (pg.cx k).sub "NoWay" "ValueError" = some true := by kernel_rfl
theorem s_WebError_TooMany (k : Nat) : (pg.cx k).sub "WebError" "TooMany" = some false := by kernel_rfl
theorem s_WebError_NoPack (k : Nat) : (pg.cx k).sub "WebError" "NoPack" = some false := by kernel_rfl
theorem s_WebError_NoPlace (k : Nat) : (pg.cx k).sub "WebError" "NoPlace" = some false := by kernel_rfl
theorem s_WebError_NoText (k : Nat) : (pg.cx k).sub "WebError" "NoText" = some false := by kernel_rfl
theorem s_WebError_NoValue (k : Nat) : (pg.cx k).sub "WebError" "NoValue" = some false := by kernel_rfl
theorem s_WebError_NoWay (k : Nat) : (pg.cx k).sub "WebError" "NoWay" = some false := by kernel_rfl
theorem s_WebError_WebError (k : Nat) : (pg.cx k).sub "WebError" "WebError" = some true := by kernel_rfl
theorem s_WebError_ValueError (k : Nat) : (pg.cx k).sub "WebError" "ValueError" = some true := by kernel_rfl
theorem chk : pgC pg tb defs = true := by kernel_rfl
theorem bi_is_whole_0 {K : PySem.W.Frag} {fd : FuncData} (F : FunD K ("is_whole") ("is_whole") (defArgs (top 10)) (defBody (top 10)) (defScope (top 10)) (([] : List He.Dv).map (He.Dv.v K)) [] (He.fAd K ("is_whole", none)) fd) :
    ∃ (dvs : List V) (dus : List Value), Vals dvs dus ∧ Binds K fd ["thing"] dus ∧ ∀ F H, RepL K F H dvs [] := by
  exact ⟨[], [], .nil, F.bindsN (ps := ["thing"]) fun _ _ _ _ _ _ us hl => (match us, hl with | [_], _ => rfl), fun _ _ => .nil⟩
theorem bi_values_0 {K : PySem.W.Frag} {fd : FuncData} (F : FunD K ("values") ("values") (defArgs (top 12)) (defBody (top 12)) (defScope (top 12)) (([] : List He.Dv).map (He.Dv.v K)) [] (He.fAd K ("values", none)) fd) :
    ∃ (dvs : List V) (dus : List Value), Vals dvs dus ∧ Binds K fd ["part"] dus ∧ ∀ F H, RepL K F H dvs [] := by
  exact ⟨[], [], .nil, F.bindsN (ps := ["part"]) fun _ _ _ _ _ _ us hl => (match us, hl with | [_], _ => rfl), fun _ _ => .nil⟩
theorem bi_is_link_0 {K : PySem.W.Frag} {fd : FuncData} (F : FunD K ("is_link") ("is_link") (defArgs (top 11)) (defBody (top 11)) (defScope (top 11)) (([] : List He.Dv).map (He.Dv.v K)) [] (He.fAd K ("is_link", none)) fd) :
    ∃ (dvs : List V) (dus : List Value), Vals dvs dus ∧ Binds K fd ["thing"] dus ∧ ∀ F H, RepL K F H dvs [] := by
  exact ⟨[], [], .nil, F.bindsN (ps := ["thing"]) fun _ _ _ _ _ _ us hl => (match us, hl with | [_], _ => rfl), fun _ _ => .nil⟩
theorem bi_with_values_0 {K : PySem.W.Frag} {fd : FuncData} (F : FunD K ("with_values") ("with_values") (defArgs (top 14)) (defBody (top 14)) (defScope (top 14)) (([] : List He.Dv).map (He.Dv.v K)) [] (He.fAd K ("with_values", none)) fd) :
    ∃ (dvs : List V) (dus : List Value), Vals dvs dus ∧ Binds K fd ["part", "some"] dus ∧ ∀ F H, RepL K F H dvs [] := by
  exact ⟨[], [], .nil, F.bindsN (ps := ["part", "some"]) fun _ _ _ _ _ _ us hl => (match us, hl with | [_, _], _ => rfl), fun _ _ => .nil⟩
theorem bi_led_0 {K : PySem.W.Frag} {fd : FuncData} (F : FunD K ("led") ("led") (defArgs (top 15)) (defBody (top 15)) (defScope (top 15)) (([] : List He.Dv).map (He.Dv.v K)) [] (He.fAd K ("led", none)) fd) :
    ∃ (dvs : List V) (dus : List Value), Vals dvs dus ∧ Binds K fd ["value", "numbers"] dus ∧ ∀ F H, RepL K F H dvs [] := by
  exact ⟨[], [], .nil, F.bindsN (ps := ["value", "numbers"]) fun _ _ _ _ _ _ us hl => (match us, hl with | [_, _], _ => rfl), fun _ _ => .nil⟩
theorem bi_links_0 {K : PySem.W.Frag} {fd : FuncData} (F : FunD K ("links") ("links") (defArgs (top 13)) (defBody (top 13)) (defScope (top 13)) (([] : List He.Dv).map (He.Dv.v K)) [] (He.fAd K ("links", none)) fd) :
    ∃ (dvs : List V) (dus : List Value), Vals dvs dus ∧ Binds K fd ["part"] dus ∧ ∀ F H, RepL K F H dvs [] := by
  exact ⟨[], [], .nil, F.bindsN (ps := ["part"]) fun _ _ _ _ _ _ us hl => (match us, hl with | [_], _ => rfl), fun _ _ => .nil⟩
theorem bi_met_but_0 {K : PySem.W.Frag} {fd : FuncData} (F : FunD K ("met_but") ("met_but") (defArgs (top 18)) (defBody (top 18)) (defScope (top 18)) (([] : List He.Dv).map (He.Dv.v K)) [] (He.fAd K ("met_but", none)) fd) :
    ∃ (dvs : List V) (dus : List Value), Vals dvs dus ∧ Binds K fd ["web", "k", "kept"] dus ∧ ∀ F H, RepL K F H dvs [] := by
  exact ⟨[], [], .nil, F.bindsN (ps := ["web", "k", "kept"]) fun _ _ _ _ _ _ us hl => (match us, hl with | [_, _, _], _ => rfl), fun _ _ => .nil⟩
theorem bi_led_part_0 {K : PySem.W.Frag} {fd : FuncData} (F : FunD K ("led_part") ("led_part") (defArgs (top 16)) (defBody (top 16)) (defScope (top 16)) (([] : List He.Dv).map (He.Dv.v K)) [] (He.fAd K ("led_part", none)) fd) :
    ∃ (dvs : List V) (dus : List Value), Vals dvs dus ∧ Binds K fd ["part", "numbers"] dus ∧ ∀ F H, RepL K F H dvs [] := by
  exact ⟨[], [], .nil, F.bindsN (ps := ["part", "numbers"]) fun _ _ _ _ _ _ us hl => (match us, hl with | [_, _], _ => rfl), fun _ _ => .nil⟩
theorem bi_copied_0 {K : PySem.W.Frag} {fd : FuncData} (F : FunD K ("copied") ("copied") (defArgs (top 19)) (defBody (top 19)) (defScope (top 19)) (([.non] : List He.Dv).map (He.Dv.v K)) [] (He.fAd K ("copied", none)) fd) :
    ∃ (dvs : List V) (dus : List Value), Vals dvs dus ∧ Binds K fd ["web", "k", "kept"] dus ∧ ∀ F H, RepL K F H dvs [] := by
  obtain ⟨ds, h1, h2⟩ := F.binds1 (ps := ["web", "k", "kept"]) 3 1 (by simp) rfl (fun _ _ _ _ _ _ _ us its hu hi => (match us, its, hu, hi with | [_, _, _], [_], _, _ => ⟨_, rfl, rfl⟩))
  exact ⟨_, ds, h1, h2, fun _ _ => .nil⟩
theorem bi_law_value_0 {K : PySem.W.Frag} {fd : FuncData} (F : FunD K ("_law_value") ("_law_value") (defArgs (top 25)) (defBody (top 25)) (defScope (top 25)) (([] : List He.Dv).map (He.Dv.v K)) [] (He.fAd K ("_law_value", none)) fd) :
    ∃ (dvs : List V) (dus : List Value), Vals dvs dus ∧ Binds K fd ["_law_number", "_law_many"] dus ∧ ∀ F H, RepL K F H dvs [] := by
  exact ⟨[], [], .nil, F.bindsN (ps := ["_law_number", "_law_many"]) fun _ _ _ _ _ _ us hl => (match us, hl with | [_, _], _ => rfl), fun _ _ => .nil⟩
theorem bi_law_mix_0 {K : PySem.W.Frag} {fd : FuncData} (F : FunD K ("_law_mix") ("_law_mix") (defArgs (top 24)) (defBody (top 24)) (defScope (top 24)) (([] : List He.Dv).map (He.Dv.v K)) [] (He.fAd K ("_law_mix", none)) fd) :
    ∃ (dvs : List V) (dus : List Value), Vals dvs dus ∧ Binds K fd ["_law_cell", "_law_k"] dus ∧ ∀ F H, RepL K F H dvs [] := by
  exact ⟨[], [], .nil, F.bindsN (ps := ["_law_cell", "_law_k"]) fun _ _ _ _ _ _ us hl => (match us, hl with | [_, _], _ => rfl), fun _ _ => .nil⟩
theorem bi_law_values_0 {K : PySem.W.Frag} {fd : FuncData} (F : FunD K ("_law_values") ("_law_values") (defArgs (top 26)) (defBody (top 26)) (defScope (top 26)) (([] : List He.Dv).map (He.Dv.v K)) [] (He.fAd K ("_law_values", none)) fd) :
    ∃ (dvs : List V) (dus : List Value), Vals dvs dus ∧ Binds K fd ["_law_number", "_law_count", "_law_many"] dus ∧ ∀ F H, RepL K F H dvs [] := by
  exact ⟨[], [], .nil, F.bindsN (ps := ["_law_number", "_law_count", "_law_many"]) fun _ _ _ _ _ _ us hl => (match us, hl with | [_, _, _], _ => rfl), fun _ _ => .nil⟩
theorem bi_law_part_0 {K : PySem.W.Frag} {fd : FuncData} (F : FunD K ("_law_part") ("_law_part") (defArgs (top 27)) (defBody (top 27)) (defScope (top 27)) (([] : List He.Dv).map (He.Dv.v K)) [] (He.fAd K ("_law_part", none)) fd) :
    ∃ (dvs : List V) (dus : List Value), Vals dvs dus ∧ Binds K fd ["_law_number", "_law_some", "_law_pool_here"] dus ∧ ∀ F H, RepL K F H dvs [] := by
  exact ⟨[], [], .nil, F.bindsN (ps := ["_law_number", "_law_some", "_law_pool_here"]) fun _ _ _ _ _ _ us hl => (match us, hl with | [_, _, _], _ => rfl), fun _ _ => .nil⟩
theorem bi_law_vals_0 {K : PySem.W.Frag} {fd : FuncData} (F : FunD K ("_law_vals") ("_law_vals") (defArgs (top 29)) (defBody (top 29)) (defScope (top 29)) (([] : List He.Dv).map (He.Dv.v K)) [] (He.fAd K ("_law_vals", none)) fd) :
    ∃ (dvs : List V) (dus : List Value), Vals dvs dus ∧ Binds K fd ["_law_part_here"] dus ∧ ∀ F H, RepL K F H dvs [] := by
  exact ⟨[], [], .nil, F.bindsN (ps := ["_law_part_here"]) fun _ _ _ _ _ _ us hl => (match us, hl with | [_], _ => rfl), fun _ _ => .nil⟩
theorem bi_law_with_0 {K : PySem.W.Frag} {fd : FuncData} (F : FunD K ("_law_with") ("_law_with") (defArgs (top 31)) (defBody (top 31)) (defScope (top 31)) (([] : List He.Dv).map (He.Dv.v K)) [] (He.fAd K ("_law_with", none)) fd) :
    ∃ (dvs : List V) (dus : List Value), Vals dvs dus ∧ Binds K fd ["_law_part_here", "_law_some"] dus ∧ ∀ F H, RepL K F H dvs [] := by
  exact ⟨[], [], .nil, F.bindsN (ps := ["_law_part_here", "_law_some"]) fun _ _ _ _ _ _ us hl => (match us, hl with | [_, _], _ => rfl), fun _ _ => .nil⟩
theorem bi_law_pool_0 {K : PySem.W.Frag} {fd : FuncData} (F : FunD K ("_law_pool") ("_law_pool") (defArgs (top 23)) (defBody (top 23)) (defScope (top 23)) (([] : List He.Dv).map (He.Dv.v K)) [] (He.fAd K ("_law_pool", none)) fd) :
    ∃ (dvs : List V) (dus : List Value), Vals dvs dus ∧ Binds K fd ["_law_cell", "_law_turn"] dus ∧ ∀ F H, RepL K F H dvs [] := by
  exact ⟨[], [], .nil, F.bindsN (ps := ["_law_cell", "_law_turn"]) fun _ _ _ _ _ _ us hl => (match us, hl with | [_, _], _ => rfl), fun _ _ => .nil⟩
theorem bi_law_cell_at_0 {K : PySem.W.Frag} {fd : FuncData} (F : FunD K ("_law_cell_at") ("_law_cell_at") (defArgs (top 22)) (defBody (top 22)) (defScope (top 22)) (([] : List He.Dv).map (He.Dv.v K)) [] (He.fAd K ("_law_cell_at", none)) fd) :
    ∃ (dvs : List V) (dus : List Value), Vals dvs dus ∧ Binds K fd ["_law_script", "_law_k"] dus ∧ ∀ F H, RepL K F H dvs [] := by
  exact ⟨[], [], .nil, F.bindsN (ps := ["_law_script", "_law_k"]) fun _ _ _ _ _ _ us hl => (match us, hl with | [_, _], _ => rfl), fun _ _ => .nil⟩
theorem bi_law_web_0 {K : PySem.W.Frag} {fd : FuncData} (F : FunD K ("_law_web") ("_law_web") (defArgs (top 28)) (defBody (top 28)) (defScope (top 28)) (([] : List He.Dv).map (He.Dv.v K)) [] (He.fAd K ("_law_web", none)) fd) :
    ∃ (dvs : List V) (dus : List Value), Vals dvs dus ∧ Binds K fd ["_law_cells", "_law_many", "_law_pool_here"] dus ∧ ∀ F H, RepL K F H dvs [] := by
  exact ⟨[], [], .nil, F.bindsN (ps := ["_law_cells", "_law_many", "_law_pool_here"]) fun _ _ _ _ _ _ us hl => (match us, hl with | [_, _, _], _ => rfl), fun _ _ => .nil⟩
theorem bi_law_met_in_0 {K : PySem.W.Frag} {fd : FuncData} (F : FunD K ("_law_met_in") ("_law_met_in") (defArgs (top 35)) (defBody (top 35)) (defScope (top 35)) (([] : List He.Dv).map (He.Dv.v K)) [] (He.fAd K ("_law_met_in", none)) fd) :
    ∃ (dvs : List V) (dus : List Value), Vals dvs dus ∧ Binds K fd ["_law_web_here", "_law_k", "_law_kept_here", "_law_found"] dus ∧ ∀ F H, RepL K F H dvs [] := by
  exact ⟨[], [], .nil, F.bindsN (ps := ["_law_web_here", "_law_k", "_law_kept_here", "_law_found"]) fun _ _ _ _ _ _ us hl => (match us, hl with | [_, _, _, _], _ => rfl), fun _ _ => .nil⟩
theorem bi_law_led_0 {K : PySem.W.Frag} {fd : FuncData} (F : FunD K ("_law_led") ("_law_led") (defArgs (top 32)) (defBody (top 32)) (defScope (top 32)) (([] : List He.Dv).map (He.Dv.v K)) [] (He.fAd K ("_law_led", none)) fd) :
    ∃ (dvs : List V) (dus : List Value), Vals dvs dus ∧ Binds K fd ["_law_part_here", "_law_numbers"] dus ∧ ∀ F H, RepL K F H dvs [] := by
  exact ⟨[], [], .nil, F.bindsN (ps := ["_law_part_here", "_law_numbers"]) fun _ _ _ _ _ _ us hl => (match us, hl with | [_, _], _ => rfl), fun _ _ => .nil⟩
theorem bi_copied_1 {K : PySem.W.Frag} {fd : FuncData} (F : FunD K ("copied") ("copied") (defArgs (top 19)) (defBody (top 19)) (defScope (top 19)) (([.non] : List He.Dv).map (He.Dv.v K)) [] (He.fAd K ("copied", none)) fd) :
    ∃ (dvs : List V) (dus : List Value), Vals dvs dus ∧ Binds K fd ["web", "k", "kept"] dus ∧ ∀ F H, RepL K F H dvs [.non] := by
  obtain ⟨ds, h1, h2⟩ := F.binds1 (ps := ["web", "k", "kept"]) 2 0 (by simp) rfl (fun _ _ _ _ _ _ _ us its hu hi => (match us, its, hu, hi with | [_, _], [_], _, _ => ⟨_, rfl, rfl⟩))
  exact ⟨_, ds, h1, h2, fun _ _ => (.cons .non .nil)⟩
theorem bi_shallow_0 {K : PySem.W.Frag} {fd : FuncData} (F : FunD K ("shallow") ("shallow") (defArgs (top 20)) (defBody (top 20)) (defScope (top 20)) (([] : List He.Dv).map (He.Dv.v K)) [] (He.fAd K ("shallow", none)) fd) :
    ∃ (dvs : List V) (dus : List Value), Vals dvs dus ∧ Binds K fd ["web", "k"] dus ∧ ∀ F H, RepL K F H dvs [] := by
  exact ⟨[], [], .nil, F.bindsN (ps := ["web", "k"]) fun _ _ _ _ _ _ us hl => (match us, hl with | [_, _], _ => rfl), fun _ _ => .nil⟩
theorem bi_law_drawn_web_0 {K : PySem.W.Frag} {fd : FuncData} (F : FunD K ("_law_drawn_web") ("_law_drawn_web") (defArgs (top 33)) (defBody (top 33)) (defScope (top 33)) (([] : List He.Dv).map (He.Dv.v K)) [] (He.fAd K ("_law_drawn_web", none)) fd) :
    ∃ (dvs : List V) (dus : List Value), Vals dvs dus ∧ Binds K fd ["_law_script", "_law_most"] dus ∧ ∀ F H, RepL K F H dvs [] := by
  exact ⟨[], [], .nil, F.bindsN (ps := ["_law_script", "_law_most"]) fun _ _ _ _ _ _ us hl => (match us, hl with | [_, _], _ => rfl), fun _ _ => .nil⟩
theorem bi_law_kept_0 {K : PySem.W.Frag} {fd : FuncData} (F : FunD K ("_law_kept") ("_law_kept") (defArgs (top 38)) (defBody (top 38)) (defScope (top 38)) (([] : List He.Dv).map (He.Dv.v K)) [] (He.fAd K ("_law_kept", none)) fd) :
    ∃ (dvs : List V) (dus : List Value), Vals dvs dus ∧ Binds K fd ["_law_web_here", "_law_k", "_law_number"] dus ∧ ∀ F H, RepL K F H dvs [] := by
  exact ⟨[], [], .nil, F.bindsN (ps := ["_law_web_here", "_law_k", "_law_number"]) fun _ _ _ _ _ _ us hl => (match us, hl with | [_, _, _], _ => rfl), fun _ _ => .nil⟩
theorem bi_law_due_0 {K : PySem.W.Frag} {fd : FuncData} (F : FunD K ("_law_due") ("_law_due") (defArgs (top 36)) (defBody (top 36)) (defScope (top 36)) (([] : List He.Dv).map (He.Dv.v K)) [] (He.fAd K ("_law_due", none)) fd) :
    ∃ (dvs : List V) (dus : List Value), Vals dvs dus ∧ Binds K fd ["_law_web_here", "_law_k", "_law_kept_here"] dus ∧ ∀ F H, RepL K F H dvs [] := by
  exact ⟨[], [], .nil, F.bindsN (ps := ["_law_web_here", "_law_k", "_law_kept_here"]) fun _ _ _ _ _ _ us hl => (match us, hl with | [_, _, _], _ => rfl), fun _ _ => .nil⟩
theorem bi_law_told_0 {K : PySem.W.Frag} {fd : FuncData} (F : FunD K ("_law_told") ("_law_told") (defArgs (top 37)) (defBody (top 37)) (defScope (top 37)) (([] : List He.Dv).map (He.Dv.v K)) [] (He.fAd K ("_law_told", none)) fd) :
    ∃ (dvs : List V) (dus : List Value), Vals dvs dus ∧ Binds K fd ["_law_which", "_law_web_here", "_law_k", "_law_kept_here"] dus ∧ ∀ F H, RepL K F H dvs [] := by
  exact ⟨[], [], .nil, F.bindsN (ps := ["_law_which", "_law_web_here", "_law_k", "_law_kept_here"]) fun _ _ _ _ _ _ us hl => (match us, hl with | [_, _, _, _], _ => rfl), fun _ _ => .nil⟩
theorem bi_law_0 {K : PySem.W.Frag} {fd : FuncData} (F : FunD K ("law") ("law") (defArgs (top 39)) (defBody (top 39)) (defScope (top 39)) (([] : List He.Dv).map (He.Dv.v K)) [] (He.fAd K ("law", none)) fd) :
    ∃ (dvs : List V) (dus : List Value), Vals dvs dus ∧ Binds K fd ["_law_script"] dus ∧ ∀ F H, RepL K F H dvs [] := by
  exact ⟨[], [], .nil, F.bindsN (ps := ["_law_script"]) fun _ _ _ _ _ _ us hl => (match us, hl with | [_], _ => rfl), fun _ _ => .nil⟩
theorem binds (K : PySem.W.Frag) : BindsAll pg defs K := by
  refine List.forall_mem_cons.mpr ⟨fun d fd hd F => by cases hd; exact bi_is_whole_0 F, ?_⟩
  refine List.forall_mem_cons.mpr ⟨fun d fd hd F => by cases hd; exact bi_values_0 F, ?_⟩
  refine List.forall_mem_cons.mpr ⟨fun d fd hd F => by cases hd; exact bi_is_link_0 F, ?_⟩
  refine List.forall_mem_cons.mpr ⟨fun d fd hd F => by cases hd; exact bi_with_values_0 F, ?_⟩
  refine List.forall_mem_cons.mpr ⟨fun d fd hd F => by cases hd; exact bi_led_0 F, ?_⟩
  refine List.forall_mem_cons.mpr ⟨fun d fd hd F => by cases hd; exact bi_links_0 F, ?_⟩
  refine List.forall_mem_cons.mpr ⟨fun d fd hd F => by cases hd; exact bi_met_but_0 F, ?_⟩
  refine List.forall_mem_cons.mpr ⟨fun d fd hd F => by cases hd; exact bi_led_part_0 F, ?_⟩
  refine List.forall_mem_cons.mpr ⟨fun d fd hd F => by cases hd; exact bi_copied_0 F, ?_⟩
  refine List.forall_mem_cons.mpr ⟨fun d fd hd F => by cases hd; exact bi_law_value_0 F, ?_⟩
  refine List.forall_mem_cons.mpr ⟨fun d fd hd F => by cases hd; exact bi_law_mix_0 F, ?_⟩
  refine List.forall_mem_cons.mpr ⟨fun d fd hd F => by cases hd; exact bi_law_values_0 F, ?_⟩
  refine List.forall_mem_cons.mpr ⟨fun d fd hd F => by cases hd; exact bi_law_part_0 F, ?_⟩
  refine List.forall_mem_cons.mpr ⟨fun d fd hd F => by cases hd; exact bi_law_vals_0 F, ?_⟩
  refine List.forall_mem_cons.mpr ⟨fun d fd hd F => by cases hd; exact bi_law_with_0 F, ?_⟩
  refine List.forall_mem_cons.mpr ⟨fun d fd hd F => by cases hd; exact bi_law_pool_0 F, ?_⟩
  refine List.forall_mem_cons.mpr ⟨fun d fd hd F => by cases hd; exact bi_law_cell_at_0 F, ?_⟩
  refine List.forall_mem_cons.mpr ⟨fun d fd hd F => by cases hd; exact bi_law_web_0 F, ?_⟩
  refine List.forall_mem_cons.mpr ⟨fun d fd hd F => by cases hd; exact bi_law_met_in_0 F, ?_⟩
  refine List.forall_mem_cons.mpr ⟨fun d fd hd F => by cases hd; exact bi_law_led_0 F, ?_⟩
  refine List.forall_mem_cons.mpr ⟨fun d fd hd F => by cases hd; exact bi_copied_1 F, ?_⟩
  refine List.forall_mem_cons.mpr ⟨fun d fd hd F => by cases hd; exact bi_shallow_0 F, ?_⟩
  refine List.forall_mem_cons.mpr ⟨fun d fd hd F => by cases hd; exact bi_law_drawn_web_0 F, ?_⟩
  refine List.forall_mem_cons.mpr ⟨fun d fd hd F => by cases hd; exact bi_law_kept_0 F, ?_⟩
  refine List.forall_mem_cons.mpr ⟨fun d fd hd F => by cases hd; exact bi_law_due_0 F, ?_⟩
  refine List.forall_mem_cons.mpr ⟨fun d fd hd F => by cases hd; exact bi_law_told_0 F, ?_⟩
  refine List.forall_mem_cons.mpr ⟨fun d fd hd F => by cases hd; exact bi_law_0 F, ?_⟩
  exact fun _ h => nomatch h
abbrev R : PySem.W.OpenRow := PySem.W.OpenLaw.row PySem.Challenge.rw_graphpack_k22_copies_but_for_kept_parts
abbrev hk : PySem.W.Hook := hookM 4 (faOf pg tb) defs (exOf pg tb)
def ob (s : PySem.W.SharedT) : He.AlD × Bool := (He.obsDG 4 (faOf pg tb) defs (HandSHeadRun.getT s), exOf pg tb (He.frG (HandSHeadRun.getT s) (He.asD (HandSHeadRun.getT s) 4)))
theorem ob_eq (s : PySem.W.SharedT) : ob s = hk.obs s.abs := obsM_eq (HandSHeadRun.getT_eq s)
theorem run (w : World) : HandSHeadRun.RunEq R (PySem.W.view R.prog [39]) hk ob 3000 [("WebError" : Str), ("NoText" : Str), ("NoPlace" : Str), ("NoValue" : Str), ("TooMany" : Str), ("NoWay" : Str), ("NoPack" : Str), ("MOST_PARTS" : Str), ("is_whole" : Str), ("is_link" : Str), ("values" : Str), ("links" : Str), ("with_values" : Str), ("led" : Str), ("led_part" : Str), ("met_but" : Str), ("copied" : Str), ("shallow" : Str), ("_law_cell_at" : Str), ("_law_pool" : Str), ("_law_mix" : Str), ("_law_value" : Str), ("_law_values" : Str), ("_law_part" : Str), ("_law_web" : Str), ("_law_vals" : Str), ("_law_head" : Str), ("_law_with" : Str), ("_law_led" : Str), ("_law_drawn_web" : Str), ("_law_changed" : Str), ("_law_met_in" : Str), ("_law_due" : Str), ("_law_told" : Str), ("_law_kept" : Str)] w := by
  intro os
  kernel_rfl
end PyI.K22


end
section
namespace PyI.K22
open PySem PySem.Spec PyProof.Rows L2
local macro_rules | `(tactic| simp_arith [$ts,*]) => `(tactic| simp (disch := first | assumption | omega | (simp only [List.length_cons, List.length_nil, List.length_append, List.length_map, List.length_range, List.length_take, List.length_drop, List.length_reverse, List.length_set]; omega)) only [w_var, w_kI, w_kS, w_kB, w_kN, w_glob, w_of, w_bin, w_binA, w_binB, w_binC, w_neg, w_negA, w_negB, w_not, w_notA, w_cmp, w_cmpA, w_cmpB, w_cmpC, w_cmp2, w_c2A, w_c2B, w_c2Dt, w_c2Df, w_c2E, w_and, w_andT, w_andF, w_or, w_orT, w_orF, w_ite, w_iteT, w_iteF, w_tup, w_tupA, w_tupC, w_lst, w_lstA, w_lstC, w_dk0, w_dt0, w_nil, w_cons, w_consA, w_consB, w_idx, w_idxA, w_idxB, w_idxC, w_sl, w_slA, w_slB, w_slC, w_slD, w_pN, w_pK, w_pV, w_pI, w_pB, w_pM, w_pX, w_pBi, w_pC, w_pG, w_call, w_callA, w_callF, w_callT, w_lent, w_bi, w_biA, w_biC, w_me, w_meA, w_meB, w_meC, w_mu, w_muB, w_muC, w_muK, w_opK, w_dK, w_blK, w_lc, w_iRng, w_rngA, w_rng1, w_rng2, w_itA, w_itB, w_itC, w_itV, w_itG, w_itS, w_itBin, w_itTup, w_itLst, w_itIdx, w_itSl, w_itCall, w_itBi, w_itMe, w_itLc, w_enum, w_enA, w_enB, w_irev, w_rvA, w_rvBl, w_rvBt, w_izip, w_zpA, w_zpB, w_zpll, w_zplt, w_zptl, w_zptt, w_pass, w_done, w_expr, w_exprK, w_asg, w_asgV, w_asgN, w_asgT, w_asgTK, w_asgTC, w_put, w_putA, w_putE, w_putB, w_putC, w_putD, w_if, w_ifT, w_ifF, w_for, w_ret, w_retK, w_retC, w_retN, w_frz, w_seq, w_seqN, w_seqR, w_fin, w_finN, w_finRv, w_finRn, w_turnN, w_turnR, w_eltV, w_eltN, w_isB, w_whT, w_whF, get_val, get_new, get_ref', out_val, out_new, out_ref', noRef_nil, noRef_val, noRef_new, deref_nil, deref_val, deref_new, deref_ref, anyRef_nil, anyRef_val, anyRef_new, anyRef_ref, refsOf_nil, refsOf_val, refsOf_new, refsOf_ref, Option.map_some, Option.bind_some, cell_lst, cell_dK, cell_dT, List.set_cons_zero, List.set_cons_succ, List.getElem?_cons_zero, List.getElem?_cons_succ, wp_ok, Out.val_ok, op_add_i, op_sub_i, p_mulr, p_mull, op_mod_i, op_fdiv_i, op_pow_i, opNeg_i, lt_i, le_i, gt_i, ge_i, eq_ii, ne_ii, p_eqs, p_nes, eq_bb, ne_bb, isI_int, isI_str, isI_bl, isI_tup, isI_lst, isI_non, isI_dK, is_int, is_bl, is_str, is_tup, is_lst, is_dK, is_non, List.any_cons, List.any_nil, Bool.or_false, Bool.false_or, Bool.true_or, Bool.or_true, Bool.not_true, Bool.not_false, List.nil_append, List.cons_append, List.append_nil, decide_true, decide_false, listRev_l, tuple_l, tuple_t, list_l, list_t, len_l, len_t, p_lens, min_i, max_i, int_i, int_b, abs_i, sl_l, sl_t, p_sls, mu_append', mu_clear, items_l, items_t, items_s, bind_one, bind_two, idx_t0, idx_t1, idx_2l, idx_3l, cut_2l, cut_3l, wipeS_nil, wipeS_cons, backS_nil, backS_cons, p_isN_non, p_notN_non, solid_int, solid_str, solid_bl, solid_non, solid_tup, solidL_nil, solidL_cons, isNon_non, isNon_int, isNon_tup, isNon_lst, isNon_str, isNon_bl, p_extend, p_pop, idx_last, if_true, if_false, eq_self, Bool.false_eq_true, List.getD_cons_zero, List.getD_cons_succ, m_append, m_extend, m_insert, m_pop, m_popAt, m_clear, m_reverse, m_sdK, m_sdT, n_join, n_startswith, n_split, n_partition, n_index, n_sidx, n_getK, n_getT, n_getOrK, n_getOrT, List.length_cons, List.length_nil, p_cast, Nat.reduceAdd, Int.reduceEq, Int.reduceLT, Int.reduceLE, Int.reduceAdd, Int.reduceSub, Int.reduceMul, k_text_row, k_text_table, k_text_record, k_row_text, k_row_table, k_row_record, k_table_text, k_table_row, k_table_record, k_record_text, k_record_row, k_record_table, l_bl, l_int, l_str, l_non, lrng_1, lrng_2, w_gIx, w_gAt, p_addl, p_addt, p_adds, w_dispK, w_dispT, w_diA, w_diB, w_diC, w_diD, dis_i, dis_s, dis_t2, w_revL, w_rvlA, w_rvlC, w_isE, w_isEA, w_isEC, w_isEB, subAny_nil, w_atE, w_atA, w_raise, w_rsA, w_try, w_tryK, w_tryHn, w_tryHs, wp_exc, w_iez, w_ezA, w_ezB, w_ezC, w_callM, w_cmA, w_cmB, w_cmCr, w_cmCn, w_cmD, lastR_one, lastR_more, valRs_nil, valRs_cons, ownAt_eq, ownS_own, selfR_some, selfR_none, selfN_some, selfN_none, w_finM, w_fmN, w_fmRv, w_fmRr, w_fmC, w_retM, w_rmO, $ts,*])
local macro_rules | `(tactic| simp_arith) => `(tactic| simp (disch := first | assumption | omega | (simp only [List.length_cons, List.length_nil, List.length_append, List.length_map, List.length_range, List.length_take, List.length_drop, List.length_reverse, List.length_set]; omega)) only [w_var, w_kI, w_kS, w_kB, w_kN, w_glob, w_of, w_bin, w_binA, w_binB, w_binC, w_neg, w_negA, w_negB, w_not, w_notA, w_cmp, w_cmpA, w_cmpB, w_cmpC, w_cmp2, w_c2A, w_c2B, w_c2Dt, w_c2Df, w_c2E, w_and, w_andT, w_andF, w_or, w_orT, w_orF, w_ite, w_iteT, w_iteF, w_tup, w_tupA, w_tupC, w_lst, w_lstA, w_lstC, w_dk0, w_dt0, w_nil, w_cons, w_consA, w_consB, w_idx, w_idxA, w_idxB, w_idxC, w_sl, w_slA, w_slB, w_slC, w_slD, w_pN, w_pK, w_pV, w_pI, w_pB, w_pM, w_pX, w_pBi, w_pC, w_pG, w_call, w_callA, w_callF, w_callT, w_lent, w_bi, w_biA, w_biC, w_me, w_meA, w_meB, w_meC, w_mu, w_muB, w_muC, w_muK, w_opK, w_dK, w_blK, w_lc, w_iRng, w_rngA, w_rng1, w_rng2, w_itA, w_itB, w_itC, w_itV, w_itG, w_itS, w_itBin, w_itTup, w_itLst, w_itIdx, w_itSl, w_itCall, w_itBi, w_itMe, w_itLc, w_enum, w_enA, w_enB, w_irev, w_rvA, w_rvBl, w_rvBt, w_izip, w_zpA, w_zpB, w_zpll, w_zplt, w_zptl, w_zptt, w_pass, w_done, w_expr, w_exprK, w_asg, w_asgV, w_asgN, w_asgT, w_asgTK, w_asgTC, w_put, w_putA, w_putE, w_putB, w_putC, w_putD, w_if, w_ifT, w_ifF, w_for, w_ret, w_retK, w_retC, w_retN, w_frz, w_seq, w_seqN, w_seqR, w_fin, w_finN, w_finRv, w_finRn, w_turnN, w_turnR, w_eltV, w_eltN, w_isB, w_whT, w_whF, get_val, get_new, get_ref', out_val, out_new, out_ref', noRef_nil, noRef_val, noRef_new, deref_nil, deref_val, deref_new, deref_ref, anyRef_nil, anyRef_val, anyRef_new, anyRef_ref, refsOf_nil, refsOf_val, refsOf_new, refsOf_ref, Option.map_some, Option.bind_some, cell_lst, cell_dK, cell_dT, List.set_cons_zero, List.set_cons_succ, List.getElem?_cons_zero, List.getElem?_cons_succ, wp_ok, Out.val_ok, op_add_i, op_sub_i, p_mulr, p_mull, op_mod_i, op_fdiv_i, op_pow_i, opNeg_i, lt_i, le_i, gt_i, ge_i, eq_ii, ne_ii, p_eqs, p_nes, eq_bb, ne_bb, isI_int, isI_str, isI_bl, isI_tup, isI_lst, isI_non, isI_dK, is_int, is_bl, is_str, is_tup, is_lst, is_dK, is_non, List.any_cons, List.any_nil, Bool.or_false, Bool.false_or, Bool.true_or, Bool.or_true, Bool.not_true, Bool.not_false, List.nil_append, List.cons_append, List.append_nil, decide_true, decide_false, listRev_l, tuple_l, tuple_t, list_l, list_t, len_l, len_t, p_lens, min_i, max_i, int_i, int_b, abs_i, sl_l, sl_t, p_sls, mu_append', mu_clear, items_l, items_t, items_s, bind_one, bind_two, idx_t0, idx_t1, idx_2l, idx_3l, cut_2l, cut_3l, wipeS_nil, wipeS_cons, backS_nil, backS_cons, p_isN_non, p_notN_non, solid_int, solid_str, solid_bl, solid_non, solid_tup, solidL_nil, solidL_cons, isNon_non, isNon_int, isNon_tup, isNon_lst, isNon_str, isNon_bl, p_extend, p_pop, idx_last, if_true, if_false, eq_self, Bool.false_eq_true, List.getD_cons_zero, List.getD_cons_succ, m_append, m_extend, m_insert, m_pop, m_popAt, m_clear, m_reverse, m_sdK, m_sdT, n_join, n_startswith, n_split, n_partition, n_index, n_sidx, n_getK, n_getT, n_getOrK, n_getOrT, List.length_cons, List.length_nil, p_cast, Nat.reduceAdd, Int.reduceEq, Int.reduceLT, Int.reduceLE, Int.reduceAdd, Int.reduceSub, Int.reduceMul, k_text_row, k_text_table, k_text_record, k_row_text, k_row_table, k_row_record, k_table_text, k_table_row, k_table_record, k_record_text, k_record_row, k_record_table, l_bl, l_int, l_str, l_non, lrng_1, lrng_2, w_gIx, w_gAt, p_addl, p_addt, p_adds, w_dispK, w_dispT, w_diA, w_diB, w_diC, w_diD, dis_i, dis_s, dis_t2, w_revL, w_rvlA, w_rvlC, w_isE, w_isEA, w_isEC, w_isEB, subAny_nil, w_atE, w_atA, w_raise, w_rsA, w_try, w_tryK, w_tryHn, w_tryHs, wp_exc, w_iez, w_ezA, w_ezB, w_ezC, w_callM, w_cmA, w_cmB, w_cmCr, w_cmCn, w_cmD, lastR_one, lastR_more, valRs_nil, valRs_cons, ownAt_eq, ownS_own, selfR_some, selfR_none, selfN_some, selfN_none, w_finM, w_fmN, w_fmRv, w_fmRr, w_fmC, w_retM, w_rmO])

/-! ### texts made sign by sign (shared) -/
def sgnAt (z : Str) (i : Int) : Nat := z.cps.toList.getD i.toNat 0
theorem rng1 {j : Int} (h : rngOk j = true) : opRng [.int j] = some (rngD 0 j) := by
  show (if rngOk j = true then some (rngD 0 j) else none) = _
  rw [if_pos h]
theorem idx_s {z : Str} {i : Int} (h1 : z.length ≤ 16777216) (h0 : 0 ≤ i) (h : i < z.length) : opIdx (.str z) (.int i) = .ok (.str ⟨#[sgnAt z i]⟩) := by
  unfold sgnAt
  show (if z.length ≤ 16777216 then Out.of ((atI z.cps.toList i).map fun c => D.str ⟨#[c]⟩) else Out.stuck) = _
  rw [if_pos h1]
  have hl : z.cps.toList.length = z.length := by rw [Array.length_toList]; rfl
  have hx : ixN z.cps.toList.length i = some i.toNat := by
    unfold ixN
    rw [if_pos h0, if_pos (by rw [hl]; exact h)]
  unfold atI
  rw [hx]
  have hi : i.toNat < z.cps.toList.length := by omega
  show Out.of ((z.cps.toList[i.toNat]?).map fun c => D.str ⟨#[c]⟩) = _
  rw [List.getElem?_eq_getElem hi, List.getD_eq_getElem?_getD, List.getElem?_eq_getElem hi]
  rfl
theorem idx_l {ds : List D} {i : Int} {d : D} (h0 : 0 ≤ i) (h : ds[i.toNat]? = some d) : opIdx (.lst ds) (.int i) = .ok d := by
  have hi := (List.getElem?_eq_some_iff.mp h).1
  show Out.of (atI ds i) = _
  have hx : ixN ds.length i = some i.toNat := by
    unfold ixN
    rw [if_pos h0, if_pos (by omega)]
  unfold atI
  rw [hx]
  show Out.of (ds[i.toNat]?) = _
  rw [h]; rfl
theorem idx_tt {ds : List D} {i : Int} {d : D} (h0 : 0 ≤ i) (h : ds[i.toNat]? = some d) : opIdx (.tup ds) (.int i) = .ok d := by
  have hi := (List.getElem?_eq_some_iff.mp h).1
  show Out.of (atI ds i) = _
  have hx : ixN ds.length i = some i.toNat := by
    unfold ixN
    rw [if_pos h0, if_pos (by omega)]
  unfold atI
  rw [hx]
  show Out.of (ds[i.toNat]?) = _
  rw [h]; rfl
theorem len_app (x y : Str) : (x ++ y).length = x.length + y.length := by
  rw [TL.len_tl, TL.tl_append, List.length_append, ← TL.len_tl, ← TL.len_tl]
theorem strsOf_map (cs : List Str) : strsOf (cs.map D.str) = some cs := by
  induction cs with
  | nil => rfl
  | cons c cs ih => show (strsOf (cs.map D.str)).map (c :: ·) = _; rw [ih]; rfl
theorem join_len (xs : List Str) : (Txt.join "" xs).length = (xs.map (·.length)).sum := by
  rw [TL.join_eq]
  have e0 : ("" : Str).length = 0 := by decide +kernel
  induction xs with
  | nil => decide +kernel
  | cons x r ih =>
    cases r with
    | nil => show x.length = _; simp
    | cons y r =>
      show (x ++ ("" : Str) ++ Str.join "" (y :: r)).length = _
      rw [len_app, len_app, ih, e0]
      simp
theorem join_ok {xs : List Str} (h : (xs.map (·.length)).sum ≤ 16777216) : opMe .join (.str "") [.lst (xs.map D.str)] = .ok (.val (.str (Txt.join "" xs))) := by
  show (Out.of (strsOf (xs.map D.str))).bind (fun zs => if (zs.map (·.length)).sum + zs.length * ("" : Str).length ≤ 16777216 then Out.ok (Res.val (.str (Txt.join "" zs))) else .stuck) = _
  have e0 : ("" : Str).length = 0 := by decide +kernel
  rw [strsOf_map]
  simp only [Out.of_some, Out.bd_ok, e0, Nat.mul_zero, Nat.add_zero]
  rw [if_pos h]
theorem cut_len (s : Str) (lo hi : Option Int) : (cutS s lo hi).length ≤ s.length := by
  have e : (cutS s lo hi).cps.toList = ((s.cps.toList.drop (HT.sIx s.length 0 lo)).take (HT.sIx s.length s.length hi - HT.sIx s.length 0 lo)) := by simp [cutS]
  rw [TL.len_tl, TL.len_tl]
  show (cutS s lo hi).cps.toList.length ≤ _
  rw [e]
  simp
  omega
theorem sl_s {s : Str} (h : s.length ≤ 16777216) (lo hi : Option Int) : opSl (.str s) lo hi = .ok (.val (.str (cutS s lo hi))) := by
  show (if s.length ≤ 16777216 then Out.ok (Res.val (.str (cutS s lo hi))) else .stuck) = _
  rw [if_pos h]
theorem evP_var {cx : Cxt} {n : Nat} {env : Nv} : evP cx (.var n) env = (evE cx (.var n) env).bind fun ra => match ra.1 with
    | .val (.int i) => .ok (some i, ra.2)
    | _ => .stuck := evP_eq _ _ rfl _
theorem evP_kI {cx : Cxt} {n : Int} {env : Nv} : evP cx (.kI n) env = .ok (some n, env) := by
  rw [evP_eq _ _ rfl, ev_kI]; rfl
/-- signs of a text, told one by one over a range -/
theorem lc_signs {cx : Cxt} {env env1 : Nv} {e src : I} {v : Nat} {n : Int} (hs : evIt cx src env = .ok ((rngD 0 n, []), env1)) (hn : n ≤ 1000000)
    (h : ∀ j : Int, 0 ≤ j → j < n → ∃ c : Nat, evE cx e ((wipeS env1 [v]).set v (.val (.int j))) = .ok (.val (.str ⟨#[c]⟩), (wipeS env1 [v]).set v (.val (.int j)))) :
    ∃ cs : List Nat, cs.length = n.toNat ∧ evE cx (.lc e [v] src .none_) env = .ok (.new (.lst ((cs.map fun c => (⟨#[c]⟩ : Str)).map D.str)), backS env1 (wipeS env1 [v]) [v]) := by
  have key : ∀ j : Int, ∃ c : Nat, 0 ≤ j → j < n → evE cx e ((wipeS env1 [v]).set v (.val (.int j))) = .ok (.val (.str ⟨#[c]⟩), (wipeS env1 [v]).set v (.val (.int j))) := fun j => by
    by_cases h0 : 0 ≤ j
    · by_cases h1 : j < n
      · obtain ⟨c, hc⟩ := h j h0 h1; exact ⟨c, fun _ _ => hc⟩
      · exact ⟨0, fun _ z => absurd z h1⟩
    · exact ⟨0, fun z _ => absurd z h0⟩
  have hex : ∃ f : Int → Nat, ∀ j, 0 ≤ j → j < n → evE cx e ((wipeS env1 [v]).set v (.val (.int j))) = .ok (.val (.str ⟨#[f j]⟩), (wipeS env1 [v]).set v (.val (.int j))) := ⟨fun j => Classical.choose (key j), fun j => Classical.choose_spec (key j)⟩
  obtain ⟨f, hf⟩ := hex
  refine ⟨(List.range n.toNat).map fun (k : Nat) => f (k : Int), by simp, ?_⟩
  have := lc_map (cx := cx) (env := env) (env1 := env1) (e := e) (src := src) (vs := [v]) (ds := rngD 0 n) (refs := []) (fun d => match d with | .int j => .str ⟨#[f j]⟩ | _ => .non) hs rfl (by simp [rngD]; omega) fun d hd => by
    obtain ⟨k, hk, rfl⟩ := List.mem_map.mp hd
    have hk : k < n.toNat := by simpa using hk
    refine ⟨_, _, rfl, hf _ (by omega) (by omega), rfl, ?_⟩
    show ((env1.set v .emp).set v _).set v .emp = env1.set v .emp
    rw [List.set_set, List.set_set]
  rw [this]
  congr 3
  simp [rngD]
theorem cut_hi (ds : List D) (n : Nat) : cutD ds none (some (n : Int)) = ds.take n := by
  unfold cutD
  rw [HT.sIx_none, HT.sIx_nat]
  show ((ds.drop 0).take (min n ds.length - 0)) = _
  rw [List.drop_zero, Nat.sub_zero]
  by_cases h : n ≤ ds.length
  · rw [Nat.min_eq_left h]
  · rw [Nat.min_eq_right (by omega), List.take_of_length_le (by omega), List.take_of_length_le (by omega)]
theorem cut_lo (ds : List D) (n : Nat) : cutD ds (some (n : Int)) none = ds.drop n := by
  unfold cutD
  rw [HT.sIx_none, HT.sIx_nat]
  by_cases h : n ≤ ds.length
  · rw [show min n ds.length = n from Nat.min_eq_left h, List.take_of_length_le (by simp)]
  · rw [Nat.min_eq_right (by omega), List.drop_of_length_le (by omega), List.drop_of_length_le (by omega)]; simp
/-- range of one number (told without simp: the kernel must not look into the bound) -/
theorem rng_ok {cx : Cxt} {a : I} {env env1 : Nv} {n : Int} (h : evA cx a env = .ok ([.val (.int n)], env1)) (hn : 0 ≤ n) (hn2 : n ≤ 1000000) :
    evIt cx (.iRng a) env = .ok ((rngD 0 n, []), env1) := by
  have hr : opRng [.int n] = some (rngD 0 n) := rng1 (by unfold rngOk; rw [decide_eq_true_iff]; omega)
  rw [evIt_rng, h]
  show (Out.of (opRng [.int n])).bind _ = _
  rw [hr]
  rfl

/-! ### texts of signs -/
theorem join_signs (cs : List Nat) : Txt.join "" (cs.map fun c => (⟨#[c]⟩ : Str)) = ⟨cs.toArray⟩ := by
  have e0 : ("" : Str).cps.toList = [] := by decide +kernel
  have key : (Txt.join "" (cs.map fun c => (⟨#[c]⟩ : Str))).cps.toList = cs := by
    rw [TL.join_eq]
    induction cs with
    | nil => exact e0
    | cons c r ih =>
      cases r with
      | nil => rfl
      | cons c2 r =>
        show ((⟨#[c]⟩ : Str) ++ ("" : Str) ++ Str.join "" ((c2 :: r).map fun c => ⟨#[c]⟩)).cps.toList = _
        have h1 := TL.tl_append ((⟨#[c]⟩ : Str) ++ ("" : Str)) (Str.join "" ((c2 :: r).map fun c => ⟨#[c]⟩))
        have h2 := TL.tl_append (⟨#[c]⟩ : Str) ("" : Str)
        have h1 : ((⟨#[c]⟩ : Str) ++ ("" : Str) ++ Str.join "" ((c2 :: r).map fun c => ⟨#[c]⟩)).cps.toList = ((⟨#[c]⟩ : Str) ++ ("" : Str)).cps.toList ++ (Str.join "" ((c2 :: r).map fun c => ⟨#[c]⟩)).cps.toList := h1
        have h2 : ((⟨#[c]⟩ : Str) ++ ("" : Str)).cps.toList = [c] ++ ("" : Str).cps.toList := h2
        rw [h1, h2, e0, ih]
        rfl
  have : ∀ s : Str, s.cps.toList = cs → s = ⟨cs.toArray⟩ := fun s h => by
    cases s with
    | mk a => congr 1; rw [← h]
  exact this _ key

/-! ### parts (shared) -/
inductive Pt
  | text (w : Str)
  | row (vs : List D)
  | table (ps : List (Str × D))
  | rcd (c : Str) (ps : List (Str × D))
def pairsD (ps : List (Str × D)) : List D := ps.map fun p => .tup [.str p.1, p.2]
def namesD (ns : List Str) : List D := ns.map D.str
def Pt.d : Pt → D
  | .text w => .tup [.str "text", .str w]
  | .row vs => .tup [.str "row", .tup vs]
  | .table ps => .tup [.str "table", .tup (pairsD ps)]
  | .rcd c ps => .tup [.str "record", .str c, .tup (pairsD ps)]
def Pt.vals : Pt → List D
  | .text _ => []
  | .row vs => vs
  | .table ps => ps.map (·.2)
  | .rcd _ ps => ps.map (·.2)
def Pt.head : Pt → D
  | .text w => .tup [.str "text", .str w]
  | .row vs => .tup [.str "row", .int vs.length]
  | .table ps => .tup [.str "table", .tup (namesD (ps.map (·.1)))]
  | .rcd c ps => .tup [.str "record", .str c, .tup (namesD (ps.map (·.1)))]
def Pt.put : Pt → List D → Pt
  | .text w, _ => .text w
  | .row _, us => .row us
  | .table ps, us => .table ((ps.map (·.1)).zip us)
  | .rcd c ps, us => .rcd c ((ps.map (·.1)).zip us)
def Pt.few : Pt → Prop
  | .text _ => True
  | .row vs => vs.length ≤ 1000
  | .table ps => ps.length ≤ 1000
  | .rcd _ ps => ps.length ≤ 1000
theorem ne_rt : (("row" : Str) == "text") = false := by decide +kernel
theorem ne_tt : (("table" : Str) == "text") = false := by decide +kernel
theorem ne_ct : (("record" : Str) == "text") = false := by decide +kernel
theorem ne_tr : (("table" : Str) == "row") = false := by decide +kernel
theorem ne_cr : (("record" : Str) == "row") = false := by decide +kernel
theorem idx_2l (a b : D) : opIdx (.tup [a, b]) (.int (-1)) = .ok b := rfl
theorem idx_3l (a b c : D) : opIdx (.tup [a, b, c]) (.int (-1)) = .ok c := rfl
theorem cut_2l (a b : D) : cutD [a, b] none (some (-1)) = [a] := rfl
theorem cut_3l (a b c : D) : cutD [a, b, c] none (some (-1)) = [a, b] := rfl
theorem evP_neg {cx : Cxt} {n : Int} {env : Nv} : evP cx (.neg (.kI n)) env = .ok (some (-n), env) := by rw [evP_eq _ _ rfl, ev_neg, ev_kI]; rfl
theorem evP_bin {cx : Cxt} {o : BOp} {a b : I} {env : Nv} : evP cx (.bin o a b) env = (evE cx (.bin o a b) env).bind fun ra => match ra.1 with
    | .val (.int i) => .ok (some i, ra.2)
    | _ => .stuck := evP_eq _ _ rfl _
/-- a comprehension over pairs of a name and a value -/
theorem lc_pairs {cx : Cxt} {env env1 : Nv} {e src : I} {i j : Nat} (ps : List (Str × D)) (f : Str → D → D) (hs : evIt cx src env = .ok ((pairsD ps, []), env1)) (hl : ps.length ≤ 16777216)
    (h : ∀ n d, evE cx e (((wipeS env1 [i, j]).set i (.val (.str n))).set j (.val d)) = .ok (.val (f n d), ((wipeS env1 [i, j]).set i (.val (.str n))).set j (.val d)))
    (hw : ∀ n d, wipeS (((wipeS env1 [i, j]).set i (.val (.str n))).set j (.val d)) [i, j] = wipeS env1 [i, j]) :
    evE cx (.lc e [i, j] src .none_) env = .ok (.new (.lst (ps.map fun p => f p.1 p.2)), backS env1 (wipeS env1 [i, j]) [i, j]) := by
  have := lc_map (cx := cx) (env := env) (env1 := env1) (e := e) (src := src) (vs := [i, j]) (ds := pairsD ps) (refs := []) (fun d => match d with | .tup [.str n, x] => f n x | _ => .non) hs rfl (by rw [pairsD, List.length_map]; exact hl) fun d hd => by
    obtain ⟨p, hp, rfl⟩ := List.mem_map.mp hd
    exact ⟨_, _, rfl, h p.1 p.2, rfl, hw p.1 p.2⟩
  rw [this, pairsD, List.map_map]
  rfl
theorem zip_fst {α β : Type} : ∀ (l : List α) (us : List β), (l.zip us).map (·.1) = l.take us.length
  | [], us => by simp
  | a :: l, [] => rfl
  | a :: l, u :: us => by
    show a :: (l.zip us).map (·.1) = a :: l.take us.length
    rw [zip_fst l us]
theorem zip_snd {α β : Type} : ∀ {l : List α} {us : List β}, us.length ≤ l.length → (l.zip us).map (·.2) = us
  | [], [], _ => rfl
  | [], _ :: _, h => by simp at h
  | a :: l, [], _ => rfl
  | a :: l, u :: us, h => by
    show u :: (l.zip us).map (·.2) = _
    rw [zip_snd (by simpa using h)]
theorem cut_mid (ds : List D) (a b : Nat) (h : b ≤ ds.length) : cutD ds (some (a : Int)) (some (b : Int)) = (ds.take b).drop a := by
  unfold cutD
  rw [HT.sIx_nat, HT.sIx_nat, Nat.min_eq_left h]
  by_cases h2 : a ≤ ds.length
  · rw [Nat.min_eq_left h2, List.drop_take]
  · rw [Nat.min_eq_right (by omega), List.drop_of_length_le (Nat.le_refl _), List.drop_of_length_le (by rw [List.length_take]; omega)]; simp
/-! heads compared -/
theorem eqvL_strs : ∀ a b : List Str, D.eqvL (namesD a) (namesD b) = decide (a = b)
  | [], [] => by simp [namesD]
  | [], _ :: _ => by simp [namesD]
  | _ :: _, [] => by simp [namesD]
  | x :: a, y :: b => by
    have ih := eqvL_strs a b
    simp only [namesD, List.map_cons, eqvL_cc, eqv_ss] at ih ⊢
    rw [ih, Bool.eq_iff_iff]
    simp
theorem namesD_plain (a : List Str) : D.plainL (namesD a) = true := plainL_all fun d hd => by obtain ⟨n, _, rfl⟩ := List.mem_map.mp hd; simp
theorem namesD_depth (a : List Str) : D.depthL (namesD a) = 0 := Nat.le_zero.mp (depthL_le fun d hd => by obtain ⟨n, _, rfl⟩ := List.mem_map.mp hd; simp)
theorem head_plain (p : Pt) : p.head.plain = true ∧ p.head.depth ≤ 2 := by
  cases p <;> simp [Pt.head, namesD_plain, namesD_depth]
theorem head_eqOk (p q : Pt) : eqOk p.head q.head = true := eqOk_of' (head_plain p).1 (head_plain q).1 (by have := (head_plain p).2; omega)
def Pt.sameHead : Pt → Pt → Bool
  | .text w, .text z => w == z
  | .row us, .row vs => decide (us.length = vs.length)
  | .table ps, .table qs => decide (ps.map (·.1) = qs.map (·.1))
  | .rcd c ps, .rcd e qs => (c == e) && decide (ps.map (·.1) = qs.map (·.1))
  | _, _ => false
theorem ne_tx : (("text" : Str) == "row") = false := by decide +kernel
theorem ne_tb : (("text" : Str) == "table") = false := by decide +kernel
theorem ne_tc : (("text" : Str) == "record") = false := by decide +kernel
theorem ne_rb : (("row" : Str) == "table") = false := by decide +kernel
theorem ne_rc : (("row" : Str) == "record") = false := by decide +kernel
theorem ne_bc : (("table" : Str) == "record") = false := by decide +kernel
theorem ne_cb : (("record" : Str) == "table") = false := by decide +kernel
theorem head_eqv (p q : Pt) : D.eqv p.head q.head = p.sameHead q := by
  cases p <;> cases q <;> simp [Pt.head, Pt.sameHead, eqvL_strs, ne_tx, ne_tb, ne_tc, ne_rb, ne_rc, ne_bc, ne_cb, ne_rt, ne_tt, ne_ct, ne_tr, ne_cr] <;> omega
theorem heads_eq (p q : Pt) : opCmp .eq p.head q.head = .ok (p.sameHead q) := by rw [eq_d (head_eqOk p q), head_eqv]
theorem heads_ne (p q : Pt) : opCmp .ne p.head q.head = .ok (!p.sameHead q) := by rw [ne_d (head_eqOk p q), head_eqv]

/-! ### values, head (shared) -/
theorem values_eq (k : Nat) (p : Pt) (hp : p.few) : pg.call (k + 1) 2 [p.d] = .ok (.new (.lst p.vals)) := by
  rw [c_values]
  cases p with
  | text w => simp [b_values, evT_eq, Pt.d, Pt.vals, idx_t0]
  | row vs => simp [b_values, evT_eq, Pt.d, Pt.vals, idx_t0, idx_t1, ne_rt]
  | table ps =>
    have hl := lc_pairs (cx := pg.cx k) (env := [.val (Pt.table ps).d, .emp, .emp]) (env1 := [.val (Pt.table ps).d, .emp, .emp]) (e := .var 2) (src := .idx (.var 0) (.neg (.kI 1))) (i := 1) (j := 2) ps (fun _ d => d)
      (by simp [Pt.d, idx_2l]) (by have : ps.length ≤ 1000 := hp; omega) (fun n d => by simp [wipeS]) (fun n d => rfl)
    simp [b_values, evT_eq, Pt.d, idx_t0, ne_tt, ne_tr]
    simp only [Pt.d] at hl
    rw [hl]
    simp [Pt.vals]
  | rcd c ps =>
    have hl := lc_pairs (cx := pg.cx k) (env := [.val (Pt.rcd c ps).d, .emp, .emp]) (env1 := [.val (Pt.rcd c ps).d, .emp, .emp]) (e := .var 2) (src := .idx (.var 0) (.neg (.kI 1))) (i := 1) (j := 2) ps (fun _ d => d)
      (by simp [Pt.d, idx_3l]) (by have : ps.length ≤ 1000 := hp; omega) (fun n d => by simp [wipeS]) (fun n d => rfl)
    simp [b_values, evT_eq, Pt.d, idx_t0, ne_ct, ne_cr]
    simp only [Pt.d] at hl
    rw [hl]
    simp [Pt.vals]

/-! ### values, parts with their types (shared) -/
inductive Vl
  | non
  | int (i : Int)
  | lnk (k : Nat)
def Vl.d : Vl → D
  | .non => .non
  | .int i => .int i
  | .lnk k => .tup [.str "at", .int k]
def Vl.isAt : Vl → Bool
  | .lnk _ => true
  | _ => false
def Vl.to : Vl → Option Nat
  | .lnk k => some k
  | _ => none
inductive Pa
  | text (w : Str)
  | row (vs : List Vl)
  | table (ps : List (Str × Vl))
  | rcd (c : Str) (ps : List (Str × Vl))
def dPs (ps : List (Str × Vl)) : List (Str × D) := ps.map fun p => (p.1, p.2.d)
def Pa.pt : Pa → Pt
  | .text w => .text w
  | .row vs => .row (vs.map Vl.d)
  | .table ps => .table (dPs ps)
  | .rcd c ps => .rcd c (dPs ps)
def Pa.vals : Pa → List Vl
  | .text _ => []
  | .row vs => vs
  | .table ps => ps.map (·.2)
  | .rcd _ ps => ps.map (·.2)
def Pa.links (p : Pa) : List Nat := p.vals.filterMap Vl.to
theorem pt_vals (p : Pa) : p.pt.vals = p.vals.map Vl.d := by
  cases p <;> simp [Pa.pt, Pt.vals, Pa.vals, dPs]
def Pa.few (p : Pa) : Prop := p.vals.length ≤ 12
theorem pt_few {p : Pa} (h : p.few) : p.pt.few := by
  cases p with
  | text w => trivial
  | row vs => have h : vs.length ≤ 12 := h; show (vs.map Vl.d).length ≤ 1000; simp; omega
  | table ps => have h : (ps.map (·.2)).length ≤ 12 := h; show (dPs ps).length ≤ 1000; simp [dPs] at *; omega
  | rcd c ps => have h : (ps.map (·.2)).length ≤ 12 := h; show (dPs ps).length ≤ 1000; simp [dPs] at *; omega
def okW (W : List Pa) : Prop := W.length ≤ 1000 ∧ ∀ p ∈ W, p.few ∧ ∀ k ∈ p.links, k < W.length
def webD (W : List Pa) : List D := W.map fun p => p.pt.d
theorem vl_plain (v : Vl) : v.d.plain = true ∧ v.d.depth ≤ 1 ∧ v.d.solid = true := by cases v <;> simp [Vl.d]
theorem pa_plain (p : Pa) : p.pt.d.plain = true ∧ p.pt.d.depth ≤ 4 := by
  have vs : ∀ vs : List Vl, D.plainL (vs.map Vl.d) = true ∧ D.depthL (vs.map Vl.d) ≤ 1 := fun vs => ⟨plainL_all fun d hd => by
    obtain ⟨v, _, rfl⟩ := List.mem_map.mp hd; exact (vl_plain v).1, depthL_le fun d hd => by
    obtain ⟨v, _, rfl⟩ := List.mem_map.mp hd; exact (vl_plain v).2.1⟩
  have ps : ∀ ps : List (Str × Vl), D.plainL (pairsD (dPs ps)) = true ∧ D.depthL (pairsD (dPs ps)) ≤ 2 := fun ps => ⟨plainL_all fun d hd => by
    obtain ⟨v, hv, rfl⟩ := List.mem_map.mp hd
    obtain ⟨q, _, rfl⟩ := List.mem_map.mp hv
    simp [(vl_plain q.2).1], depthL_le fun d hd => by
    obtain ⟨v, hv, rfl⟩ := List.mem_map.mp hd
    obtain ⟨q, _, rfl⟩ := List.mem_map.mp hv
    have := (vl_plain q.2).2.1
    simp; omega⟩
  cases p with
  | text w => simp [Pa.pt, Pt.d]
  | row l => have := vs l; simp [Pa.pt, Pt.d, this.1]; omega
  | table l => have := ps l; simp [Pa.pt, Pt.d, this.1]; omega
  | rcd c l => have := ps l; simp [Pa.pt, Pt.d, this.1]; omega
theorem web_plain (W : List Pa) : (D.tup (webD W)).plain = true ∧ (D.tup (webD W)).depth ≤ 5 := by
  have h1 : D.plainL (webD W) = true := plainL_all fun d hd => by
    obtain ⟨v, _, rfl⟩ := List.mem_map.mp hd; exact (pa_plain v).1
  have h2 : D.depthL (webD W) ≤ 4 := depthL_le fun d hd => by
    obtain ⟨v, _, rfl⟩ := List.mem_map.mp hd; exact (pa_plain v).2
  simp [h1]; omega
theorem ne_self {d : D} (h1 : d.plain = true) (h2 : d.depth ≤ 64) : opCmp .ne d d = .ok false := by
  rw [ne_d (eqOk_of' h1 h1 h2), eqv_refl d h1]; rfl
theorem eq_selfd {d : D} (h1 : d.plain = true) (h2 : d.depth ≤ 64) : opCmp .eq d d = .ok true := by
  rw [eq_d (eqOk_of' h1 h1 h2), eqv_refl d h1]
theorem web_idx {W : List Pa} {k : Nat} {p : Pa} (h : W[k]? = some p) : opIdx (.tup (webD W)) (.int k) = .ok p.pt.d := idx_tt (by omega) (by
  rw [Int.toNat_natCast, webD, List.getElem?_map, h]; rfl)
theorem web_len (W : List Pa) : (webD W).length = W.length := by simp [webD]
/-! numbers of parts -/
def nD (l : List Nat) : List D := l.map fun (k : Nat) => D.int k
theorem nD_len (l : List Nat) : (nD l).length = l.length := by simp [nD]
theorem nD_app (a b : List Nat) : nD (a ++ b) = nD a ++ nD b := by simp [nD]
theorem nD_rev (a : List Nat) : nD a.reverse = (nD a).reverse := by simp [nD]
theorem nD_plain (a : List Nat) : D.plainL (nD a) = true := plainL_all fun d hd => by obtain ⟨n, _, rfl⟩ := List.mem_map.mp hd; simp
theorem nD_depth (a : List Nat) : D.depthL (nD a) = 0 := Nat.le_zero.mp (depthL_le fun d hd => by obtain ⟨n, _, rfl⟩ := List.mem_map.mp hd; simp)
theorem nD_eqv : ∀ a b : List Nat, D.eqvL (nD a) (nD b) = decide (a = b)
  | [], [] => by simp [nD]
  | [], _ :: _ => by simp [nD]
  | _ :: _, [] => by simp [nD]
  | x :: a, y :: b => by
    have ih := nD_eqv a b
    simp only [nD, List.map_cons, eqvL_cc, eqv_ii] at ih ⊢
    rw [ih, Bool.eq_iff_iff]
    simp
    omega
theorem nD_eq (a b : List Nat) : opCmp .eq (.lst (nD a)) (.lst (nD b)) = .ok (decide (a = b)) := by
  rw [eq_d (eqOk_of' (by simp [nD_plain]) (by simp [nD_plain]) (by simp [nD_depth])), eqv_ll, nD_eqv]
theorem nD_ne (a b : List Nat) : opCmp .ne (.lst (nD a)) (.lst (nD b)) = .ok (!decide (a = b)) := by
  rw [ne_d (eqOk_of' (by simp [nD_plain]) (by simp [nD_plain]) (by simp [nD_depth])), eqv_ll, nD_eqv]
theorem nD_find (k : Nat) : ∀ l : List Nat, inD (.int k) (nD l) = decide (k ∈ l)
  | [] => by simp [nD, inD, findD]
  | a :: l => by
    have ih := nD_find k l
    simp only [inD, nD, List.map_cons] at ih ⊢
    unfold findD
    rw [eqv_ii]
    by_cases h : (a : Int) = k
    · have h2 : a = k := by omega
      subst h2
      simp
    · have h2 : ¬ a = k := by omega
      rw [decide_eq_false h]
      simp only [Bool.false_eq_true, if_false, Option.isSome_map, ih, List.mem_cons]
      congr 1
      simp [Ne.symm h2]
theorem nD_inOk (k : Nat) (l : List Nat) : inOk (.int k) (nD l) = true := by simp [inOk, nD_plain, nD_depth]
theorem nD_in (k : Nat) (l : List Nat) : opCmp .isIn (.int k) (.lst (nD l)) = .ok (decide (k ∈ l)) := by
  show (if inOk (.int k) (nD l) = true then Out.ok (inD (.int k) (nD l)) else .stuck) = _
  rw [if_pos (nD_inOk k l), nD_find]
theorem nD_nin (k : Nat) (l : List Nat) : opCmp .notIn (.int k) (.lst (nD l)) = .ok (!decide (k ∈ l)) := by
  show (if inOk (.int k) (nD l) = true then Out.ok (inD (.int k) (nD l)) else .stuck).bind _ = _
  rw [if_pos (nD_inOk k l), nD_find]; rfl
theorem nD_get {l : List Nat} {j k : Nat} (h : l[j]? = some k) : opIdx (.lst (nD l)) (.int j) = .ok (.int k) := idx_l (by omega) (by
  rw [Int.toNat_natCast, nD, List.getElem?_map, h]; rfl)
/-- a dict that knows some numbers -/
def kn (l : List Nat) : List (Key × D) := l.map fun (k : Nat) => (.inl (k : Int), D.bl true)
theorem kn_look (k : Nat) : ∀ l : List Nat, dlook (kn l) (.inl (k : Int)) = if k ∈ l then some (.bl true) else none
  | [] => by simp [kn, dlook]
  | a :: l => by
    have ih := kn_look k l
    simp only [kn, List.map_cons] at ih ⊢
    unfold dlook
    by_cases h : a = k
    · subst h; simp
    · have h2 : ¬ ((.inl (a : Int) : Key) = .inl (k : Int)) := fun z => h (by have := Sum.inl.inj z; omega)
      rw [if_neg h2, ih]
      simp [Ne.symm h]
theorem zip_unzip {α β : Type} (l : List (α × β)) : (l.map (·.1)).zip (l.map (·.2)) = l := by
  induction l with
  | nil => rfl
  | cons a l ih => simp [ih]
theorem kn_nin (k : Nat) (l : List Nat) : opCmp .notIn (.int k) (.dK ((kn l).map (·.1)) ((kn l).map (·.2))) = .ok (!decide (k ∈ l)) := by
  show (Out.bind (Out.bind (Out.of (some (dlook (((kn l).map (·.1)).zip ((kn l).map (·.2))) (.inl (k : Int))))) fun o => .ok o.isSome) fun r => .ok (!r)) = _
  rw [zip_unzip, kn_look]
  by_cases h : k ∈ l <;> simp [h]
theorem kn_put {k : Nat} {l : List Nat} (h : k ∉ l) (hl : l.length < 16777216) : (Cell.dK (kn l)).put (.int k) (.bl true) = some (.dK (kn (l ++ [k]))) := by
  show (if (kn l).length < 16777216 then some (Cell.dK (dput (kn l) (.inl (k : Int)) (.bl true))) else none) = _
  rw [if_pos (by simpa [kn] using hl)]
  unfold dput
  rw [kn_look, if_neg h]
  simp [kn]
/-! links -/
def isTupB : D → Bool
  | .tup _ => true
  | _ => false
def tupSnd : D → D
  | .tup [_, x] => x
  | _ => .non
theorem is_link_v (k : Nat) (v : Vl) : pg.call (k + 2) 1 [v.d] = .ok (.val (.bl v.isAt)) := by
  apply eq_of_wp
  rw [c_is_link, w_fin]
  have hw : ∀ j : Nat, pg.call (k + 1) 0 [.int j] = .ok (.val (.bl true)) := fun j => by
    apply eq_of_wp
    rw [c_is_whole, w_fin]
    simp_arith [b_is_whole]
  cases v with
  | non => simp_arith [b_is_link, Vl.d, Vl.isAt]
  | int i => simp_arith [b_is_link, Vl.d, Vl.isAt]
  | lnk j =>
    have h2 : (0 : Int) ≤ j := by omega
    simp_arith [b_is_link, Vl.d, Vl.isAt, hw, e_is_whole, h2, List.length_cons, List.length_nil]
theorem to_map (vs : List Vl) : ((vs.map Vl.d).filter isTupB).map tupSnd = nD (vs.filterMap Vl.to) := by
  induction vs with
  | nil => rfl
  | cons v vs ih =>
    cases v with
    | non => simpa [Vl.d, Vl.to, List.filter_cons, List.filterMap_cons, isTupB] using ih
    | int i => simpa [Vl.d, Vl.to, List.filter_cons, List.filterMap_cons, isTupB] using ih
    | lnk j => simp only [List.map_cons, Vl.d, List.filter_cons, List.filterMap_cons, Vl.to, if_true, nD, isTupB, tupSnd] at ih ⊢; rw [ih]

/-! ### the links (shared) -/
theorem links_eq (k : Nat) {p : Pa} (hp : p.few) : pg.call (k + 3) 3 [p.pt.d] = .ok (.new (.lst (nD p.links))) := by
  apply eq_of_wp
  rw [c_links, w_fin]
  have V := values_eq (k + 1) p.pt (pt_few hp)
  rw [pt_vals] at V
  have hl : p.vals.length ≤ 12 := hp
  simp_arith [b_links, e_values, V]
  refine lc_test isTupB tupSnd rfl (by simp; omega) rfl (fun d hd => ?_) ?_
  · obtain ⟨v, _, rfl⟩ := List.mem_map.mp hd
    have L := is_link_v k v
    refine ⟨_, rfl, ?_, fun h => ?_⟩
    · cases v <;> simp_arith [e_is_link, L, w_isK] <;> rfl
    · cases v with
      | non => cases h
      | int i => cases h
      | lnk j =>
        simp_arith [Vl.d]
        rfl
  · rw [to_map]
    simp_arith
    rfl


/-! ### loops over a mapped list (shared) -/
section
variable {cx : Cxt} {E : KX} {env : Nv} {α : Type}
theorem for_map {f : α → D} {ws : List α} {vs : List Nat} {b : I} {S : KS} {refs : List Nat} (P : List α → Nv → Prop) (hr : refs.any (fun i => b.hits i || vs.contains i) = false) (h0 : P [] env)
    (hs : ∀ (us : List α) (w : α) (e : Nv), w ∈ ws → (∀ u ∈ us, u ∈ ws) → us.length < ws.length → P us e → ∃ e1, bindV vs (f w) e = some e1 ∧ Wp (evS cx b e1) (turnK (P (us ++ [w])) S) E)
    (hq : ∀ e, P ws e → S (.next, e)) : forK cx E vs b S ((ws.map f, refs), env) := by
  refine for_list (fun p e => ∃ us : List α, us = ws.take p.length ∧ p = us.map f ∧ P us e) hr ⟨[], rfl, rfl, h0⟩ (fun p d s e h hp => ?_) (fun e he => ?_)
  · obtain ⟨us, hu, hpm, hP⟩ := hp
    have hlt : p.length < ws.length := by
      have := congrArg List.length h
      simp at this
      omega
    have hul : us.length = p.length := by rw [hpm, List.length_map]
    have hd : d = f (ws[p.length]) := by
      have h1 : (ws.map f)[p.length]? = some d := by rw [h, List.getElem?_append_right (Nat.le_refl _), Nat.sub_self]; rfl
      rw [List.getElem?_map, List.getElem?_eq_getElem hlt] at h1
      exact (Option.some.inj h1).symm
    subst hd
    obtain ⟨e1, h1, h2⟩ := hs us ws[p.length] e (List.getElem_mem _) (fun u hx => by rw [hu] at hx; exact List.mem_of_mem_take hx) (by omega) hP
    refine ⟨e1, h1, h2.mono fun r hr => ?_⟩
    have hn : us ++ [ws[p.length]] = ws.take (p ++ [f ws[p.length]]).length := by
      rw [List.length_append]
      show us ++ [ws[p.length]] = ws.take (p.length + 1)
      rw [← List.take_append_getElem hlt, ← hu]
    obtain ⟨c, e2⟩ := r
    cases c with
    | next => exact ⟨_, hn, by rw [List.map_append, ← hpm]; rfl, hr⟩
    | ret v => exact hr
  · obtain ⟨us, hu, hp, hP⟩ := he
    rw [List.length_map, List.take_length] at hu
    subst hu
    exact hq e hP
theorem lc_each {g f : α → D} {ws : List α} {x : I} {vs : List Nat} {Q : KE} {refs : List Nat} (hr : refs.any (fun i => x.hits i || I.hits i .none_ || vs.contains i) = false) (hl : ws.length ≤ 1000000)
    (h : ∀ w ∈ ws, ∃ e1, bindV vs (g w) (wipeS env vs) = some e1 ∧ Wp (evE cx x e1) (eltK e1 (fun y => y = f w)) noE)
    (hq : Q (.new (.lst (ws.map f)), backS env (wipeS env vs) vs)) : lcK cx E x vs .none_ Q ((ws.map g, refs), env) := by
  refine lc_rel (fun j _ y => ∃ w, ws[j]? = some w ∧ y = f w) hr (by rw [List.length_map]; omega) (fun j d hd => ?_) fun xs g1 g2 => ?_
  · rw [List.getElem?_map] at hd
    obtain ⟨w, hw, rfl⟩ := Option.map_eq_some_iff.mp hd
    obtain ⟨e1, h1, h2⟩ := h w (List.mem_of_getElem? hw)
    refine ⟨e1, h1, h2.mono fun r hr => ?_⟩
    obtain ⟨a, y, b, c⟩ := hr
    exact ⟨a, y, b, w, hw, c⟩
  · have : xs = ws.map f := by
      rw [List.length_map] at g1
      apply List.ext_getElem?
      intro j
      rw [List.getElem?_map]
      by_cases hj : j < ws.length
      · have hx : xs[j]? = some (xs[j]'(by omega)) := List.getElem?_eq_getElem (by omega)
        have hd : (ws.map g)[j]? = some (g (ws[j]'hj)) := by rw [List.getElem?_map, List.getElem?_eq_getElem hj]; rfl
        obtain ⟨w, hw, e⟩ := g2 j _ _ hd hx
        rw [hx, e, hw]; rfl
      · rw [List.getElem?_eq_none (by omega), List.getElem?_eq_none (by omega)]; rfl
    rw [this] at *
    exact hq
end
theorem ins_0 {ds : List D} (d : D) (h : ds.length < 16777216) : opMu .insert (.lst ds) [.int 0, d] = .ok (.non, .lst (d :: ds)) := by
  show (if (0 : Int) ≤ 0 ∧ (0 : Int) ≤ ds.length ∧ ds.length < 16777216 then Out.ok (D.non, Cell.lst (ds.take (0 : Int).toNat ++ d :: ds.drop (0 : Int).toNat)) else .stuck) = _
  rw [if_pos ⟨by omega, by omega, h⟩]
  rfl
theorem end_2 (a b : D) : opIdx (.tup [a, b]) (.int (-1)) = .ok b := rfl
theorem end_3 (a b c : D) : opIdx (.tup [a, b, c]) (.int (-1)) = .ok c := rfl
theorem for_pre {cx : Cxt} {E : KX} {env : Nv} {α : Type} {f : α → D} {ws : List α} {vs : List Nat} {b : I} {S : KS} {refs : List Nat} (P : List α → Nv → Prop) (hr : refs.any (fun i => b.hits i || vs.contains i) = false) (h0 : P [] env)
    (hs : ∀ (us : List α) (w : α) (post : List α) (e : Nv), ws = us ++ w :: post → P us e → ∃ e1, bindV vs (f w) e = some e1 ∧ Wp (evS cx b e1) (turnK (P (us ++ [w])) S) E)
    (hq : ∀ e, P ws e → S (.next, e)) : forK cx E vs b S ((ws.map f, refs), env) := by
  refine for_list (fun p e => ∃ us post : List α, ws = us ++ post ∧ p = us.map f ∧ P us e) hr ⟨[], ws, rfl, rfl, h0⟩ (fun p d s e h hp => ?_) (fun e he => ?_)
  · obtain ⟨us, post, hu, hpm, hP⟩ := hp
    rw [hu, List.map_append, hpm] at h
    have h := List.append_cancel_left h
    cases post with
    | nil => cases h
    | cons w post =>
      have hd : f w = d := (List.cons.inj h).1
      subst hd
      obtain ⟨e1, h1, h2⟩ := hs us w post e hu hP
      refine ⟨e1, h1, h2.mono fun r hr => ?_⟩
      obtain ⟨c, e2⟩ := r
      cases c with
      | next => exact ⟨_, post, by rw [hu, List.append_assoc]; rfl, by rw [List.map_append, ← hpm]; rfl, hr⟩
      | ret v => exact hr
  · obtain ⟨us, post, hu, hp, hP⟩ := he
    have hl := congrArg List.length hp
    rw [List.length_map, List.length_map] at hl
    have hl2 := congrArg List.length hu
    rw [List.length_append] at hl2
    have : post = [] := List.length_eq_zero_iff.mp (by omega)
    subst this
    rw [List.append_nil] at hu
    subst hu
    exact hq e hP

/-! ### with_values (shared) -/
theorem zip_map : ∀ (ps : List (Str × D)) (us : List D), (zipD (pairsD ps) us).map (fun d => match d with | .tup [.tup [.str n, _], u] => .tup [.str n, u] | _ => D.non) = pairsD ((ps.map (·.1)).zip us)
  | [], _ => rfl
  | p :: ps, [] => rfl
  | p :: ps, u :: us => by
    show D.tup [.str p.1, u] :: (zipD (pairsD ps) us).map _ = _
    rw [zip_map ps us]
    rfl
theorem zip_mem : ∀ {ps : List (Str × D)} {us : List D} {d : D}, d ∈ zipD (pairsD ps) us → ∃ n x u, d = .tup [.tup [.str n, x], u]
  | [], _, d, h => by cases h
  | p :: ps, [], d, h => by cases h
  | p :: ps, u :: us, d, h => by
    have h : d ∈ D.tup [.tup [.str p.1, p.2], u] :: zipD (pairsD ps) us := h
    rcases List.mem_cons.mp h with rfl | h
    · exact ⟨_, _, _, rfl⟩
    · exact zip_mem h
theorem with_lc {cx : Cxt} {p : D} {ps : List (Str × D)} {us : List D} (hi : opIdx p (.int (-1)) = .ok (.tup (pairsD ps))) (hp : ps.length ≤ 1000) :
    evE cx (.lc (.tup (.cons (.idx (.var 3) (.kI 0)) (.cons (.var 4) .nil))) [3, 4] (.iZip (.idx (.var 0) (.neg (.kI 1))) (.var 1)) .none_) [.val p, .val (.lst us), .emp, .emp, .emp]
      = .ok (.new (.lst (pairsD ((ps.map (·.1)).zip us))), [.val p, .val (.lst us), .emp, .emp, .emp]) := by
  have := lc_map (cx := cx) (env := [.val p, .val (.lst us), .emp, .emp, .emp]) (env1 := [.val p, .val (.lst us), .emp, .emp, .emp]) (e := .tup (.cons (.idx (.var 3) (.kI 0)) (.cons (.var 4) .nil))) (src := .iZip (.idx (.var 0) (.neg (.kI 1))) (.var 1)) (vs := [3, 4]) (ds := zipD (pairsD ps) us) (refs := [])
    (fun d => match d with | .tup [.tup [.str n, _], u] => .tup [.str n, u] | _ => D.non) (by simp [hi, zipOf, seqOf]) rfl (by rw [zip_len, pairsD, List.length_map]; omega) fun d hd => by
      obtain ⟨n, x, u, rfl⟩ := zip_mem hd
      refine ⟨_, .val (.tup [.str n, u]), rfl, ?_, rfl, rfl⟩
      simp [wipeS, idx_t0]
  rw [this, zip_map]
  rfl
theorem with_values_eq (k : Nat) (p : Pt) (us : List D) (hp : p.few) : pg.call (k + 1) 4 [p.d, .lst us] = .ok (.val (p.put us).d) := by
  rw [c_with_values]
  have hz : ∀ ps : List (Str × D), ps.length ≤ 1000 → (pairsD ((ps.map (·.1)).zip us)).length ≤ 1000 := fun ps h => by rw [pairsD]; simp; omega
  cases p with
  | text w => simp [b_with_values, evT_eq, Pt.d, Pt.put, idx_t0]
  | row vs => simp [b_with_values, evT_eq, Pt.d, Pt.put, idx_t0, idx_t1, ne_rt]
  | table ps =>
    have hl := with_lc (cx := pg.cx k) (p := (Pt.table ps).d) (us := us) rfl hp
    simp only [Pt.d] at hl
    simp [b_with_values, evT_eq, Pt.d, idx_t0, ne_tt, ne_tr, evP_neg, cut_2l, hl]
    simp [Pt.put]
  | rcd c ps =>
    have hl := with_lc (cx := pg.cx k) (p := (Pt.rcd c ps).d) (us := us) rfl hp
    simp only [Pt.d] at hl
    simp [b_with_values, evT_eq, Pt.d, idx_t0, ne_ct, ne_cr, evP_neg, cut_3l, hl]
    simp [Pt.put]

/-! ### what is met: depth first (shared) -/
inductive Dfs (G : Nat → List Nat) : Nat → List Nat → List Nat → List Nat → Prop
  | nil (f : List Nat) : Dfs G 0 f [] f
  | old {n : Nat} {f r z : List Nat} {a : Nat} : a ∈ f → Dfs G n f r z → Dfs G (n + 1) f (a :: r) z
  | new {n : Nat} {f r z : List Nat} {a : Nat} : a ∉ f → Dfs G n (f ++ [a]) (G a ++ r) z → Dfs G (n + 1) f (a :: r) z
theorem nodup_le : ∀ (N : Nat) (f : List Nat), f.Nodup → (∀ a ∈ f, a < N) → f.length ≤ N
  | 0, f, _, h => by
    cases f with
    | nil => simp
    | cons a f => exact absurd (h a List.mem_cons_self) (by omega)
  | N + 1, f, hd, h => by
    have h1 := nodup_le N (f.erase N) (hd.erase N) fun a ha => by
      have h2 := (hd.mem_erase_iff).mp ha
      have := h a h2.2
      have := h2.1
      omega
    rw [List.length_erase] at h1
    split at h1 <;> omega
theorem Dfs.ex {G : Nat → List Nat} {N : Nat} (hG : ∀ a, a < N → ∀ b ∈ G a, b < N) : ∀ (m : Nat) (f : List Nat), N - f.length ≤ m → f.Nodup → (∀ a ∈ f, a < N) → ∀ t : List Nat, (∀ a ∈ t, a < N) → ∃ n z, Dfs G n f t z := by
  intro m
  induction m with
  | zero =>
    intro f hm hd hf t ht
    have hl := nodup_le N f hd hf
    induction t with
    | nil => exact ⟨0, f, .nil f⟩
    | cons a r ih =>
      have ha : a ∈ f := Classical.byContradiction fun hn => by
        have := nodup_le N (a :: f) (List.nodup_cons.mpr ⟨hn, hd⟩) fun b hb => by
          rcases List.mem_cons.mp hb with rfl | hb
          · exact ht _ List.mem_cons_self
          · exact hf b hb
        simp at this
        omega
      obtain ⟨n, z, h⟩ := ih fun b hb => ht b (List.mem_cons_of_mem _ hb)
      exact ⟨n + 1, z, .old ha h⟩
  | succ m ihm =>
    intro f hm hd hf t ht
    induction t with
    | nil => exact ⟨0, f, .nil f⟩
    | cons a r ih =>
      by_cases ha : a ∈ f
      · obtain ⟨n, z, h⟩ := ih fun b hb => ht b (List.mem_cons_of_mem _ hb)
        exact ⟨n + 1, z, .old ha h⟩
      · have hd2 : (f ++ [a]).Nodup := by
          rw [List.nodup_append]
          exact ⟨hd, by simp, fun x hx y hy => by
            have := List.mem_singleton.mp hy
            subst this
            exact fun e => ha (e ▸ hx)⟩
        obtain ⟨n, z, h⟩ := ihm (f ++ [a]) (by simp; omega) hd2 (fun b hb => by
          rcases List.mem_append.mp hb with hb | hb
          · exact hf b hb
          · rw [List.mem_singleton.mp hb]; exact ht _ List.mem_cons_self) (G a ++ r) fun b hb => by
          rcases List.mem_append.mp hb with hb | hb
          · exact hG a (ht _ List.mem_cons_self) b hb
          · exact ht b (List.mem_cons_of_mem _ hb)
        exact ⟨n + 1, z, .new ha h⟩
theorem Dfs.uniq {G : Nat → List Nat} {n m : Nat} {f t z y : List Nat} (h1 : Dfs G n f t z) (h2 : Dfs G m f t y) : z = y := by
  induction h1 generalizing m with
  | nil f => cases h2; rfl
  | old ha _ ih => cases h2 with
    | old _ h => exact ih h
    | new hn _ => exact absurd ha hn
  | new ha _ ih => cases h2 with
    | old hn _ => exact absurd hn ha
    | new _ h => exact ih h
/-- what a web's parts link to -/
def lk (W : List Pa) (a : Nat) : List Nat := match W[a]? with
  | some p => p.links
  | none => []
theorem lk_lt {W : List Pa} (h : okW W) (a b : Nat) (hb : b ∈ lk W a) : b < W.length := by
  unfold lk at hb
  split at hb
  · rename_i p hp
    exact (h.2 p (List.mem_of_getElem? hp)).2 b hb
  · cases hb
theorem lk_len {W : List Pa} (h : okW W) (a : Nat) : (lk W a).length ≤ 12 := by
  unfold lk
  split
  · rename_i p hp
    have := (h.2 p (List.mem_of_getElem? hp)).1
    exact Nat.le_trans (List.length_filterMap_le _ _) this
  · simp
def Met (W : List Pa) (s : Nat) (z : List Nat) : Prop := ∃ n, Dfs (lk W) n [] [s] z
theorem Met.ex {W : List Pa} (h : okW W) {s : Nat} (hs : s < W.length) : ∃ z, Met W s z := by
  obtain ⟨n, z, hz⟩ := Dfs.ex (G := lk W) (N := W.length) (fun a _ b hb => lk_lt h a b hb) W.length [] (by simp) (by simp) (by simp) [s] (by simpa using hs)
  exact ⟨z, n, hz⟩
theorem Met.uniq {W : List Pa} {s : Nat} {z y : List Nat} (h1 : Met W s z) (h2 : Met W s y) : z = y := by
  obtain ⟨_, h1⟩ := h1
  obtain ⟨_, h2⟩ := h2
  exact h1.uniq h2
/-- what stands in a run: the found ones, what is still to do -/
structure Ds (W : List Pa) (f t : List Nat) : Prop where
  nd : f.Nodup
  lt : ∀ a ∈ f, a < W.length
  tlt : ∀ a ∈ t, a < W.length
  len : t.length ≤ 12 * f.length + 1
theorem Ds.few {W : List Pa} {f t : List Nat} (h : Ds W f t) : f.length ≤ W.length := nodup_le _ f h.nd h.lt
theorem Ds.old {W : List Pa} {f r : List Nat} {a : Nat} (h : Ds W f (a :: r)) : Ds W f r := ⟨h.nd, h.lt, fun b hb => h.tlt b (List.mem_cons_of_mem _ hb), by have := h.len; simp at this; omega⟩
theorem Ds.new {W : List Pa} (ok : okW W) {f r : List Nat} {a : Nat} (h : Ds W f (a :: r)) (ha : a ∉ f) : Ds W (f ++ [a]) (lk W a ++ r) := ⟨by
    rw [List.nodup_append]
    exact ⟨h.nd, by simp, fun x hx y hy => by
      have := List.mem_singleton.mp hy
      subst this
      exact fun e => ha (e ▸ hx)⟩, fun b hb => by
    rcases List.mem_append.mp hb with hb | hb
    · exact h.lt b hb
    · rw [List.mem_singleton.mp hb]; exact h.tlt _ List.mem_cons_self, fun b hb => by
    rcases List.mem_append.mp hb with hb | hb
    · exact lk_lt ok a b hb
    · exact h.tlt b (List.mem_cons_of_mem _ hb), by
    have := h.len
    have := lk_len ok a
    simp at *
    omega⟩
theorem Ds.one {W : List Pa} {s : Nat} (hs : s < W.length) : Ds W [] [s] := ⟨by simp, by simp, by simpa using hs, by simp⟩
theorem Dfs.ds {W : List Pa} (ok : okW W) {n : Nat} {f t z : List Nat} (h : Dfs (lk W) n f t z) (d : Ds W f t) : Ds W z [] := by
  induction h with
  | nil f => exact d
  | old ha _ ih => exact ih d.old
  | new ha _ ih => exact ih (d.new ok ha)
theorem Met.ds {W : List Pa} (ok : okW W) {s : Nat} {z : List Nat} (h : Met W s z) (hs : s < W.length) : Ds W z [] := by
  obtain ⟨n, h⟩ := h
  exact h.ds ok (Ds.one hs)

/-! ### webs numbered anew, drawn webs (plain, shared) -/
def Vl.re (φ : Nat → Nat) : Vl → Vl
  | .lnk k => .lnk (φ k)
  | v => v
def Pa.re (φ : Nat → Nat) : Pa → Pa
  | .text w => .text w
  | .row vs => .row (vs.map (Vl.re φ))
  | .table ps => .table (ps.map fun p => (p.1, p.2.re φ))
  | .rcd c ps => .rcd c (ps.map fun p => (p.1, p.2.re φ))
theorem re_vals (φ : Nat → Nat) (p : Pa) : (p.re φ).vals = p.vals.map (Vl.re φ) := by
  cases p <;> simp [Pa.re, Pa.vals]
theorem re_to (φ : Nat → Nat) (vs : List Vl) : (vs.map (Vl.re φ)).filterMap Vl.to = (vs.filterMap Vl.to).map φ := by
  induction vs with
  | nil => rfl
  | cons v vs ih => cases v <;> simp [Vl.re, Vl.to, List.filterMap_cons, ih]
theorem re_links (φ : Nat → Nat) (p : Pa) : (p.re φ).links = p.links.map φ := by rw [Pa.links, re_vals, re_to]; rfl
theorem re_few (φ : Nat → Nat) {p : Pa} (h : p.few) : (p.re φ).few := by
  have h : p.vals.length ≤ 12 := h
  show (p.re φ).vals.length ≤ 12
  rw [re_vals, List.length_map]; exact h
theorem vl_re_re (φ ψ : Nat → Nat) (v : Vl) : (v.re φ).re ψ = v.re (ψ ∘ φ) := by cases v <;> rfl
theorem re_re (φ ψ : Nat → Nat) (p : Pa) : (p.re φ).re ψ = p.re (ψ ∘ φ) := by
  cases p <;> simp [Pa.re, vl_re_re]
theorem vl_congr {φ ψ : Nat → Nat} {v : Vl} (h : ∀ k, v.to = some k → φ k = ψ k) : v.re φ = v.re ψ := by
  cases v with
  | lnk k => show Vl.lnk (φ k) = Vl.lnk (ψ k); rw [h k rfl]
  | _ => rfl
theorem re_congr {φ ψ : Nat → Nat} {p : Pa} (h : ∀ k ∈ p.links, φ k = ψ k) : p.re φ = p.re ψ := by
  have g : ∀ v ∈ p.vals, v.re φ = v.re ψ := fun v hv => vl_congr fun k hk => h k (List.mem_filterMap.mpr ⟨v, hv, hk⟩)
  cases p with
  | text w => rfl
  | row vs => exact congrArg Pa.row (List.map_congr_left fun v hv => g v hv)
  | table ps => exact congrArg Pa.table (List.map_congr_left fun q hq => by rw [g q.2 (List.mem_map.mpr ⟨q, hq, rfl⟩)])
  | rcd c ps => exact congrArg (Pa.rcd c) (List.map_congr_left fun q hq => by rw [g q.2 (List.mem_map.mpr ⟨q, hq, rfl⟩)])
theorem Dfs.mem {G : Nat → List Nat} {n : Nat} {f t z : List Nat} (h : Dfs G n f t z) : (∀ a ∈ f, a ∈ z) ∧ ∀ a ∈ t, a ∈ z := by
  induction h with
  | nil f => exact ⟨fun a h => h, fun a h => nomatch h⟩
  | old ha _ ih =>
    exact ⟨ih.1, fun b hb => by
      rcases List.mem_cons.mp hb with rfl | hb
      · exact ih.1 _ ha
      · exact ih.2 _ hb⟩
  | new ha _ ih =>
    exact ⟨fun b hb => ih.1 b (List.mem_append_left _ hb), fun b hb => by
      rcases List.mem_cons.mp hb with rfl | hb
      · exact ih.1 _ (List.mem_append_right _ List.mem_cons_self)
      · exact ih.2 _ (List.mem_append_right _ hb)⟩
/-- what is met is closed -/
theorem Dfs.shut {G : Nat → List Nat} {n : Nat} {f t z : List Nat} (h : Dfs G n f t z) (hf : ∀ a ∈ f, ∀ b ∈ G a, b ∈ f ∨ b ∈ t) : ∀ a ∈ z, ∀ b ∈ G a, b ∈ z := by
  induction h with
  | nil f =>
    exact fun a ha b hb => by
      rcases hf a ha b hb with h | h
      · exact h
      · cases h
  | old ha _ ih =>
    exact ih fun a h b hb => by
      rcases hf a h b hb with h | h
      · exact .inl h
      · rcases List.mem_cons.mp h with rfl | h
        · exact .inl ha
        · exact .inr h
  | @new n f r z c ha _ ih =>
    exact ih fun a h b hb => by
      rcases List.mem_append.mp h with h | h
      · rcases hf a h b hb with h | h
        · exact .inl (List.mem_append_left _ h)
        · rcases List.mem_cons.mp h with rfl | h
          · exact .inl (List.mem_append_right _ List.mem_cons_self)
          · exact .inr (List.mem_append_right _ h)
      · have e : a = c := by simpa using h
        rw [e] at hb
        exact .inr (List.mem_append_left _ hb)
theorem Met.shut {W : List Pa} {s : Nat} {z : List Nat} (h : Met W s z) : ∀ a ∈ z, ∀ b ∈ lk W a, b ∈ z := by
  obtain ⟨n, h⟩ := h
  exact h.shut fun a ha => nomatch ha
theorem Met.start {W : List Pa} {s : Nat} {z : List Nat} (h : Met W s z) : s ∈ z := by
  obtain ⟨n, h⟩ := h
  exact h.mem.2 s List.mem_cons_self
theorem Dfs.sim {G G' : Nat → List Nat} {φ : Nat → Nat} {C : Nat → Prop} (hC : ∀ a, C a → ∀ b ∈ G a, C b) (inj : ∀ a b, C a → C b → φ a = φ b → a = b) (hG : ∀ a, C a → G' (φ a) = (G a).map φ)
    {n : Nat} {f t z : List Nat} (h : Dfs G n f t z) (hf : ∀ a ∈ f, C a) (ht : ∀ a ∈ t, C a) : Dfs G' n (f.map φ) (t.map φ) (z.map φ) := by
  induction h with
  | nil f => exact .nil _
  | old ha _ ih => exact .old (List.mem_map.mpr ⟨_, ha, rfl⟩) (ih hf fun b hb => ht b (List.mem_cons_of_mem _ hb))
  | @new n f r z a ha _ ih =>
    have ca := ht a List.mem_cons_self
    refine .new (fun h => ?_) ?_
    · obtain ⟨b, hb, e⟩ := List.mem_map.mp h
      exact ha (inj b a (hf b hb) ca e ▸ hb)
    · rw [hG a ca]
      have := ih (fun b hb => by
        rcases List.mem_append.mp hb with hb | hb
        · exact hf b hb
        · have : b = a := by simpa using hb
          exact this ▸ ca) (fun b hb => by
        rcases List.mem_append.mp hb with hb | hb
        · exact hC a ca b hb
        · exact ht b (List.mem_cons_of_mem _ hb))
      simpa using this
/-- the number of k in z -/
def pos (z : List Nat) (k : Nat) : Nat := z.idxOf k
theorem pos_lt {z : List Nat} {k : Nat} (h : k ∈ z) : pos z k < z.length := List.idxOf_lt_length_iff.mpr h
theorem pos_get {z : List Nat} {k : Nat} (h : k ∈ z) : z[pos z k]? = some k := by
  rw [List.getElem?_eq_getElem (pos_lt h)]
  exact congrArg some (List.getElem_idxOf (pos_lt h))
theorem pos_inj {z : List Nat} {a b : Nat} (ha : a ∈ z) (hb : b ∈ z) (h : pos z a = pos z b) : a = b := by
  have h1 := pos_get ha
  have h2 := pos_get hb
  rw [h, h2] at h1
  exact (Option.some.inj h1).symm
theorem pos_map {φ : Nat → Nat} : ∀ {z : List Nat} {k : Nat}, (∀ a ∈ z, φ a = φ k → a = k) → k ∈ z → pos (z.map φ) (φ k) = pos z k
  | [], _, _, h => nomatch h
  | a :: z, k, inj, h => by
    show (φ a :: z.map φ).idxOf (φ k) = (a :: z).idxOf k
    rw [List.idxOf_cons, List.idxOf_cons]
    by_cases e : a = k
    · subst e; simp
    · have e2 : ¬ φ a = φ k := fun z => e (inj a List.mem_cons_self z)
      have ih := pos_map (φ := φ) (z := z) (k := k) (fun b hb => inj b (List.mem_cons_of_mem _ hb)) (by
        rcases List.mem_cons.mp h with rfl | h
        · exact absurd rfl e
        · exact h)
      have ih : (z.map φ).idxOf (φ k) = z.idxOf k := ih
      rw [ih, show (φ a == φ k) = false by simpa using e2, show (a == k) = false by simpa using e]
theorem pos_range {z : List Nat} (h : z.Nodup) : z.map (pos z) = List.range z.length := by
  apply List.ext_getElem?
  intro i
  rw [List.getElem?_map]
  by_cases hi : i < z.length
  · rw [List.getElem?_eq_getElem hi, List.getElem?_range hi]
    exact congrArg some (h.idxOf_getElem i hi)
  · rw [List.getElem?_eq_none (by omega), List.getElem?_eq_none (by simp; omega)]; rfl
def noP : Pa := .text ⟨#[]⟩
theorem lk_get (W : List Pa) (a : Nat) : lk W a = (W.getD a noP).links := by
  unfold lk
  rw [List.getD_eq_getElem?_getD]
  cases W[a]? <;> rfl
/-- the web drawn: of what is met, numbered by its place -/
def drawnW (W : List Pa) (z : List Nat) : List Pa := z.map fun k => (W.getD k noP).re (pos z)
theorem Dfs.pre {G : Nat → List Nat} {n : Nat} {f t z : List Nat} (h : Dfs G n f t z) : ∃ r, z = f ++ r := by
  induction h with
  | nil f => exact ⟨[], by simp⟩
  | old _ _ ih => exact ih
  | new _ _ ih =>
    obtain ⟨r, hr⟩ := ih
    exact ⟨_, by rw [hr, List.append_assoc]⟩
theorem Met.first {W : List Pa} {s : Nat} {z : List Nat} (h : Met W s z) : ∃ r, z = s :: r := by
  obtain ⟨n, h⟩ := h
  cases h with
  | old ha _ => cases ha
  | new _ h =>
    obtain ⟨r, hr⟩ := h.pre
    exact ⟨r, by simpa using hr⟩
theorem Met.pos_0 {W : List Pa} {s : Nat} {z : List Nat} (h : Met W s z) : pos z s = 0 := by
  obtain ⟨r, rfl⟩ := h.first
  simp [pos]
theorem drawn_sim {W W' : List Pa} {s : Nat} {z : List Nat} {φ : Nat → Nat} (h : Met W s z) (inj : ∀ a b, a ∈ z → b ∈ z → φ a = φ b → a = b) (hW : ∀ a ∈ z, W'.getD (φ a) noP = (W.getD a noP).re φ) :
    Met W' (φ s) (z.map φ) ∧ drawnW W' (z.map φ) = drawnW W z := by
  constructor
  · obtain ⟨n, hd⟩ := h
    exact ⟨n, Dfs.sim (G := lk W) (G' := lk W') (C := fun a => a ∈ z) (fun a ha b hb => Met.shut ⟨n, hd⟩ a ha b hb) inj (fun a ha => by rw [lk_get, lk_get, hW a ha, re_links]) hd (fun a ha => nomatch ha) (fun a ha => by
      have : a = s := by simpa using ha
      exact this ▸ Met.start ⟨n, hd⟩)⟩
  · unfold drawnW
    rw [List.map_map]
    refine List.map_congr_left fun k hk => ?_
    show (W'.getD (φ k) noP).re (pos (z.map φ)) = _
    rw [hW k hk, re_re]
    refine re_congr fun l hl => ?_
    have hl : l ∈ z := h.shut k hk l (by rw [lk_get]; exact hl)
    exact pos_map (fun a ha e => inj a l ha hl e) hl
theorem drawn_len (W : List Pa) (z : List Nat) : (drawnW W z).length = z.length := by simp [drawnW]
theorem drawn_get {W : List Pa} {z : List Nat} {a : Nat} (h : a ∈ z) : (drawnW W z).getD (pos z a) noP = (W.getD a noP).re (pos z) := by
  rw [List.getD_eq_getElem?_getD, drawnW, List.getElem?_map, pos_get h]; rfl
/-- a drawn web drawn -/
theorem drawn_self {W : List Pa} {s : Nat} {z : List Nat} (h : Met W s z) (nd : z.Nodup) : Met (drawnW W z) 0 (List.range z.length) ∧ drawnW (drawnW W z) (List.range z.length) = drawnW W z := by
  have := drawn_sim (W' := drawnW W z) (φ := pos z) h (fun a b ha hb e => pos_inj ha hb e) (fun a ha => drawn_get ha)
  rw [h.pos_0, pos_range nd] at this
  exact this
theorem drawn_mem {W : List Pa} {z : List Nat} {p : Pa} (h : p ∈ drawnW W z) (hz : ∀ a ∈ z, a < W.length) : ∃ q ∈ W, p = q.re (pos z) ∧ ∀ l ∈ q.links, ∃ a ∈ z, l ∈ lk W a := by
  obtain ⟨k, hk, rfl⟩ := List.mem_map.mp h
  have hl := hz k hk
  have e : W.getD k noP = W[k] := by rw [List.getD_eq_getElem?_getD, List.getElem?_eq_getElem hl]; rfl
  exact ⟨W[k], List.getElem_mem hl, by rw [e], fun l hl' => ⟨k, hk, by rw [lk_get, e]; exact hl'⟩⟩
theorem drawn_ok {W : List Pa} {s : Nat} {z : List Nat} (ok : okW W) (hs : s < W.length) (h : Met W s z) : okW (drawnW W z) := by
  have ds := h.ds ok hs
  refine ⟨by rw [drawn_len]; have := ds.few; have := ok.1; omega, fun p hp => ?_⟩
  obtain ⟨q, hq, rfl, hl⟩ := drawn_mem hp ds.lt
  refine ⟨re_few _ (ok.2 q hq).1, fun k hk => ?_⟩
  rw [re_links] at hk
  obtain ⟨l, h1, rfl⟩ := List.mem_map.mp hk
  obtain ⟨a, ha, hla⟩ := hl l h1
  rw [drawn_len]
  exact pos_lt (h.shut a ha l hla)

end PyI.K22

end
section
namespace PyI.K22
open PySem PySem.Spec PyProof.Rows L2
local macro_rules | `(tactic| simp_arith [$ts,*]) => `(tactic| simp (disch := first | assumption | omega | (simp only [List.length_cons, List.length_nil, List.length_append, List.length_map, List.length_range, List.length_take, List.length_drop, List.length_reverse, List.length_set]; omega)) only [w_var, w_kI, w_kS, w_kB, w_kN, w_glob, w_of, w_bin, w_binA, w_binB, w_binC, w_neg, w_negA, w_negB, w_not, w_notA, w_cmp, w_cmpA, w_cmpB, w_cmpC, w_cmp2, w_c2A, w_c2B, w_c2Dt, w_c2Df, w_c2E, w_and, w_andT, w_andF, w_or, w_orT, w_orF, w_ite, w_iteT, w_iteF, w_tup, w_tupA, w_tupC, w_lst, w_lstA, w_lstC, w_dk0, w_dt0, w_nil, w_cons, w_consA, w_consB, w_idx, w_idxA, w_idxB, w_idxC, w_sl, w_slA, w_slB, w_slC, w_slD, w_pN, w_pK, w_pV, w_pI, w_pB, w_pM, w_pX, w_pBi, w_pC, w_pG, w_call, w_callA, w_callF, w_callT, w_lent, w_bi, w_biA, w_biC, w_me, w_meA, w_meB, w_meC, w_mu, w_muB, w_muC, w_muK, w_opK, w_dK, w_blK, w_lc, w_iRng, w_rngA, w_rng1, w_rng2, w_itA, w_itB, w_itC, w_itV, w_itG, w_itS, w_itBin, w_itTup, w_itLst, w_itIdx, w_itSl, w_itCall, w_itBi, w_itMe, w_itLc, w_enum, w_enA, w_enB, w_irev, w_rvA, w_rvBl, w_rvBt, w_izip, w_zpA, w_zpB, w_zpll, w_zplt, w_zptl, w_zptt, w_pass, w_done, w_expr, w_exprK, w_asg, w_asgV, w_asgN, w_asgT, w_asgTK, w_asgTC, w_put, w_putA, w_putE, w_putB, w_putC, w_putD, w_if, w_ifT, w_ifF, w_for, w_ret, w_retK, w_retC, w_retN, w_frz, w_seq, w_seqN, w_seqR, w_fin, w_finN, w_finRv, w_finRn, w_turnN, w_turnR, w_eltV, w_eltN, w_isB, w_whT, w_whF, get_val, get_new, get_ref', out_val, out_new, out_ref', noRef_nil, noRef_val, noRef_new, deref_nil, deref_val, deref_new, deref_ref, anyRef_nil, anyRef_val, anyRef_new, anyRef_ref, refsOf_nil, refsOf_val, refsOf_new, refsOf_ref, Option.map_some, Option.bind_some, cell_lst, cell_dK, cell_dT, List.set_cons_zero, List.set_cons_succ, List.getElem?_cons_zero, List.getElem?_cons_succ, wp_ok, Out.val_ok, op_add_i, op_sub_i, p_mulr, p_mull, op_mod_i, op_fdiv_i, op_pow_i, opNeg_i, lt_i, le_i, gt_i, ge_i, eq_ii, ne_ii, p_eqs, p_nes, eq_bb, ne_bb, isI_int, isI_str, isI_bl, isI_tup, isI_lst, isI_non, isI_dK, is_int, is_bl, is_str, is_tup, is_lst, is_dK, is_non, List.any_cons, List.any_nil, Bool.or_false, Bool.false_or, Bool.true_or, Bool.or_true, Bool.not_true, Bool.not_false, List.nil_append, List.cons_append, List.append_nil, decide_true, decide_false, listRev_l, tuple_l, tuple_t, list_l, list_t, len_l, len_t, p_lens, min_i, max_i, int_i, int_b, abs_i, sl_l, sl_t, p_sls, mu_append', mu_clear, items_l, items_t, items_s, bind_one, bind_two, idx_t0, idx_t1, idx_2l, idx_3l, cut_2l, cut_3l, wipeS_nil, wipeS_cons, backS_nil, backS_cons, p_isN_non, p_notN_non, solid_int, solid_str, solid_bl, solid_non, solid_tup, solidL_nil, solidL_cons, isNon_non, isNon_int, isNon_tup, isNon_lst, isNon_str, isNon_bl, p_extend, p_pop, idx_last, if_true, if_false, eq_self, Bool.false_eq_true, List.getD_cons_zero, List.getD_cons_succ, m_append, m_extend, m_insert, m_pop, m_popAt, m_clear, m_reverse, m_sdK, m_sdT, n_join, n_startswith, n_split, n_partition, n_index, n_sidx, n_getK, n_getT, n_getOrK, n_getOrT, List.length_cons, List.length_nil, p_cast, Nat.reduceAdd, Int.reduceEq, Int.reduceLT, Int.reduceLE, Int.reduceAdd, Int.reduceSub, Int.reduceMul, k_text_row, k_text_table, k_text_record, k_row_text, k_row_table, k_row_record, k_table_text, k_table_row, k_table_record, k_record_text, k_record_row, k_record_table, l_bl, l_int, l_str, l_non, lrng_1, lrng_2, w_gIx, w_gAt, p_addl, p_addt, p_adds, w_dispK, w_dispT, w_diA, w_diB, w_diC, w_diD, dis_i, dis_s, dis_t2, w_revL, w_rvlA, w_rvlC, w_isE, w_isEA, w_isEC, w_isEB, subAny_nil, w_atE, w_atA, w_raise, w_rsA, w_try, w_tryK, w_tryHn, w_tryHs, wp_exc, w_iez, w_ezA, w_ezB, w_ezC, w_callM, w_cmA, w_cmB, w_cmCr, w_cmCn, w_cmD, lastR_one, lastR_more, valRs_nil, valRs_cons, ownAt_eq, ownS_own, selfR_some, selfR_none, selfN_some, selfN_none, w_finM, w_fmN, w_fmRv, w_fmRr, w_fmC, w_retM, w_rmO, $ts,*])
local macro_rules | `(tactic| simp_arith) => `(tactic| simp (disch := first | assumption | omega | (simp only [List.length_cons, List.length_nil, List.length_append, List.length_map, List.length_range, List.length_take, List.length_drop, List.length_reverse, List.length_set]; omega)) only [w_var, w_kI, w_kS, w_kB, w_kN, w_glob, w_of, w_bin, w_binA, w_binB, w_binC, w_neg, w_negA, w_negB, w_not, w_notA, w_cmp, w_cmpA, w_cmpB, w_cmpC, w_cmp2, w_c2A, w_c2B, w_c2Dt, w_c2Df, w_c2E, w_and, w_andT, w_andF, w_or, w_orT, w_orF, w_ite, w_iteT, w_iteF, w_tup, w_tupA, w_tupC, w_lst, w_lstA, w_lstC, w_dk0, w_dt0, w_nil, w_cons, w_consA, w_consB, w_idx, w_idxA, w_idxB, w_idxC, w_sl, w_slA, w_slB, w_slC, w_slD, w_pN, w_pK, w_pV, w_pI, w_pB, w_pM, w_pX, w_pBi, w_pC, w_pG, w_call, w_callA, w_callF, w_callT, w_lent, w_bi, w_biA, w_biC, w_me, w_meA, w_meB, w_meC, w_mu, w_muB, w_muC, w_muK, w_opK, w_dK, w_blK, w_lc, w_iRng, w_rngA, w_rng1, w_rng2, w_itA, w_itB, w_itC, w_itV, w_itG, w_itS, w_itBin, w_itTup, w_itLst, w_itIdx, w_itSl, w_itCall, w_itBi, w_itMe, w_itLc, w_enum, w_enA, w_enB, w_irev, w_rvA, w_rvBl, w_rvBt, w_izip, w_zpA, w_zpB, w_zpll, w_zplt, w_zptl, w_zptt, w_pass, w_done, w_expr, w_exprK, w_asg, w_asgV, w_asgN, w_asgT, w_asgTK, w_asgTC, w_put, w_putA, w_putE, w_putB, w_putC, w_putD, w_if, w_ifT, w_ifF, w_for, w_ret, w_retK, w_retC, w_retN, w_frz, w_seq, w_seqN, w_seqR, w_fin, w_finN, w_finRv, w_finRn, w_turnN, w_turnR, w_eltV, w_eltN, w_isB, w_whT, w_whF, get_val, get_new, get_ref', out_val, out_new, out_ref', noRef_nil, noRef_val, noRef_new, deref_nil, deref_val, deref_new, deref_ref, anyRef_nil, anyRef_val, anyRef_new, anyRef_ref, refsOf_nil, refsOf_val, refsOf_new, refsOf_ref, Option.map_some, Option.bind_some, cell_lst, cell_dK, cell_dT, List.set_cons_zero, List.set_cons_succ, List.getElem?_cons_zero, List.getElem?_cons_succ, wp_ok, Out.val_ok, op_add_i, op_sub_i, p_mulr, p_mull, op_mod_i, op_fdiv_i, op_pow_i, opNeg_i, lt_i, le_i, gt_i, ge_i, eq_ii, ne_ii, p_eqs, p_nes, eq_bb, ne_bb, isI_int, isI_str, isI_bl, isI_tup, isI_lst, isI_non, isI_dK, is_int, is_bl, is_str, is_tup, is_lst, is_dK, is_non, List.any_cons, List.any_nil, Bool.or_false, Bool.false_or, Bool.true_or, Bool.or_true, Bool.not_true, Bool.not_false, List.nil_append, List.cons_append, List.append_nil, decide_true, decide_false, listRev_l, tuple_l, tuple_t, list_l, list_t, len_l, len_t, p_lens, min_i, max_i, int_i, int_b, abs_i, sl_l, sl_t, p_sls, mu_append', mu_clear, items_l, items_t, items_s, bind_one, bind_two, idx_t0, idx_t1, idx_2l, idx_3l, cut_2l, cut_3l, wipeS_nil, wipeS_cons, backS_nil, backS_cons, p_isN_non, p_notN_non, solid_int, solid_str, solid_bl, solid_non, solid_tup, solidL_nil, solidL_cons, isNon_non, isNon_int, isNon_tup, isNon_lst, isNon_str, isNon_bl, p_extend, p_pop, idx_last, if_true, if_false, eq_self, Bool.false_eq_true, List.getD_cons_zero, List.getD_cons_succ, m_append, m_extend, m_insert, m_pop, m_popAt, m_clear, m_reverse, m_sdK, m_sdT, n_join, n_startswith, n_split, n_partition, n_index, n_sidx, n_getK, n_getT, n_getOrK, n_getOrT, List.length_cons, List.length_nil, p_cast, Nat.reduceAdd, Int.reduceEq, Int.reduceLT, Int.reduceLE, Int.reduceAdd, Int.reduceSub, Int.reduceMul, k_text_row, k_text_table, k_text_record, k_row_text, k_row_table, k_row_record, k_table_text, k_table_row, k_table_record, k_record_text, k_record_row, k_record_table, l_bl, l_int, l_str, l_non, lrng_1, lrng_2, w_gIx, w_gAt, p_addl, p_addt, p_adds, w_dispK, w_dispT, w_diA, w_diB, w_diC, w_diD, dis_i, dis_s, dis_t2, w_revL, w_rvlA, w_rvlC, w_isE, w_isEA, w_isEC, w_isEB, subAny_nil, w_atE, w_atA, w_raise, w_rsA, w_try, w_tryK, w_tryHn, w_tryHs, wp_exc, w_iez, w_ezA, w_ezB, w_ezC, w_callM, w_cmA, w_cmB, w_cmCr, w_cmCn, w_cmD, lastR_one, lastR_more, valRs_nil, valRs_cons, ownAt_eq, ownS_own, selfR_some, selfR_none, selfN_some, selfN_none, w_finM, w_fmN, w_fmRv, w_fmRr, w_fmC, w_retM, w_rmO])

theorem put_re (φ : Nat → Nat) (p : Pa) : p.pt.put (p.vals.map fun v => (v.re φ).d) = (p.re φ).pt := by
  have z : ∀ ps : List (Str × Vl), ((dPs ps).map (·.1)).zip ((ps.map (·.2)).map fun v => (v.re φ).d) = dPs (ps.map fun p => (p.1, p.2.re φ)) := fun ps => by
    induction ps with
    | nil => rfl
    | cons p ps ih =>
      simp only [dPs, List.map_cons, List.zip_cons_cons] at ih ⊢
      rw [ih]
  cases p with
  | text w => rfl
  | row vs => simp [Pa.pt, Pt.put, Pa.re, Pa.vals]
  | table ps => exact congrArg Pt.table (z ps)
  | rcd c ps => exact congrArg (Pt.rcd c) (z ps)
theorem led_eq (k : Nat) {v : Vl} {φ : Nat → Nat} {dd : D} (h : ∀ i, v.to = some i → opIdx dd (.int (i : Nat)) = .ok (.int (φ i : Nat))) : pg.call (k + 3) 5 [v.d, dd] = .ok (.val (v.re φ).d) := by
  apply eq_of_wp
  rw [c_led, w_fin]
  have L := is_link_v k v
  cases v with
  | non => simp only [Vl.d, Vl.isAt] at L; simp_arith [b_led, Vl.d, Vl.re, e_is_link, L]
  | int i => simp only [Vl.d, Vl.isAt] at L; simp_arith [b_led, Vl.d, Vl.re, e_is_link, L]
  | lnk j =>
    simp only [Vl.d, Vl.isAt] at L
    have g := h j rfl
    simp_arith [b_led, Vl.d, Vl.re, e_is_link, L, g]
theorem led_part_eq (k : Nat) {p : Pa} (hp : p.few) {φ : Nat → Nat} {dd : D} (h : ∀ i ∈ p.links, opIdx dd (.int (i : Nat)) = .ok (.int (φ i : Nat))) : pg.call (k + 4) 6 [p.pt.d, dd] = .ok (.val (p.re φ).pt.d) := by
  apply eq_of_wp
  rw [c_led_part, w_fin]
  have hl : p.vals.length ≤ 12 := hp
  have V := values_eq (k + 2) p.pt (pt_few hp)
  rw [pt_vals] at V
  have W := with_values_eq (k + 2) p.pt (p.vals.map fun v => (v.re φ).d) (pt_few hp)
  rw [put_re] at W
  simp_arith [b_led_part, e_values, V]
  refine lc_each (f := fun v => (v.re φ).d) rfl (by omega) (fun v hv => ⟨_, rfl, ?_⟩) ?_
  · have L := led_eq k (v := v) (φ := φ) (dd := dd) fun i hi => h i (List.mem_filterMap.mpr ⟨v, hv, hi⟩)
    simp_arith [e_led, L]
  · simp_arith [e_with_values, W]

/-! ### pairs of numbers (shared) -/
abbrev Pr := Nat × Nat
def pD (p : Pr) : D := .tup [.int p.1, .int p.2]
def prD (l : List Pr) : List D := l.map pD
theorem prD_len (l : List Pr) : (prD l).length = l.length := by simp [prD]
theorem prD_app (a b : List Pr) : prD (a ++ b) = prD a ++ prD b := by simp [prD]
theorem prD_rev (a : List Pr) : prD a.reverse = (prD a).reverse := by simp [prD]
theorem pD_plain (p : Pr) : (pD p).plain = true := by simp [pD]
theorem pD_depth (p : Pr) : (pD p).depth ≤ 1 := by simp [pD]
theorem prD_plain (l : List Pr) : D.plainL (prD l) = true := plainL_all fun d hd => by obtain ⟨p, _, rfl⟩ := List.mem_map.mp hd; exact pD_plain p
theorem prD_depth (l : List Pr) : D.depthL (prD l) ≤ 1 := depthL_le fun d hd => by obtain ⟨p, _, rfl⟩ := List.mem_map.mp hd; exact pD_depth p
theorem pD_eqv (p q : Pr) : D.eqv (pD p) (pD q) = decide (p = q) := by
  obtain ⟨a, b⟩ := p
  obtain ⟨c, d⟩ := q
  rw [pD, pD, eqv_tt, eqvL_cc, eqvL_cc, eqvL_nn, eqv_ii, eqv_ii, Bool.eq_iff_iff]
  simp
  omega
theorem prD_eqv : ∀ a b : List Pr, D.eqvL (prD a) (prD b) = decide (a = b)
  | [], [] => by simp [prD]
  | [], _ :: _ => by simp [prD]
  | _ :: _, [] => by simp [prD]
  | x :: a, y :: b => by
    have ih := prD_eqv a b
    simp only [prD, List.map_cons, eqvL_cc] at ih ⊢
    rw [pD_eqv, ih, Bool.eq_iff_iff]
    simp
theorem prD_ok (a b : List Pr) : eqOk (.lst (prD a)) (.lst (prD b)) = true := by
  have := prD_depth a
  exact eqOk_of' (by simp [prD_plain]) (by simp [prD_plain]) (by simp; omega)
theorem prD_eq (a b : List Pr) : opCmp .eq (.lst (prD a)) (.lst (prD b)) = .ok (decide (a = b)) := by
  rw [eq_d (prD_ok a b), eqv_ll, prD_eqv]
theorem prD_ne (a b : List Pr) : opCmp .ne (.lst (prD a)) (.lst (prD b)) = .ok (!decide (a = b)) := by
  rw [ne_d (prD_ok a b), eqv_ll, prD_eqv]
theorem prD_get {l : List Pr} {j : Nat} {p : Pr} (h : l[j]? = some p) : opIdx (.lst (prD l)) (.int j) = .ok (pD p) := idx_l (by omega) (by
  rw [Int.toNat_natCast, prD, List.getElem?_map, h]; rfl)
theorem pD_0 (p : Pr) : opIdx (pD p) (.int 0) = .ok (.int p.1) := rfl
theorem pD_1 (p : Pr) : opIdx (pD p) (.int 1) = .ok (.int p.2) := rfl
def kP (p : Pr) : List Key := [.inl (p.1 : Int), .inl (p.2 : Int)]
theorem kP_inj {p q : Pr} (h : kP p = kP q) : p = q := by
  obtain ⟨a, b⟩ := p
  obtain ⟨c, d⟩ := q
  simp [kP] at h
  simp
  omega
theorem kP_key (p : Pr) : (pD p).keyT = some (kP p) := rfl
def knP (l : List Pr) : List (List Key × D) := l.map fun p => (kP p, D.bl true)
theorem knP_len (l : List Pr) : (knP l).length = l.length := by simp [knP]
theorem knP_look (p : Pr) : ∀ l : List Pr, dlook (knP l) (kP p) = if p ∈ l then some (.bl true) else none
  | [] => by simp [knP, dlook]
  | a :: l => by
    have ih := knP_look p l
    simp only [knP, List.map_cons] at ih ⊢
    unfold dlook
    by_cases h : a = p
    · subst h; simp
    · have h2 : ¬ kP a = kP p := fun z => h (kP_inj z)
      rw [if_neg h2, ih]
      simp [Ne.symm h]
def dTc (l : List (List Key × D)) : D := .dT (l.map (·.1)) (l.map (·.2))
theorem knP_in (p : Pr) (l : List Pr) : opCmp .isIn (pD p) (.dT ((knP l).map (·.1)) ((knP l).map (·.2))) = .ok (decide (p ∈ l)) := by
  show (Out.of (some (dlook (((knP l).map (·.1)).zip ((knP l).map (·.2))) (kP p)))).bind (fun o => Out.ok o.isSome) = _
  rw [zip_unzip, knP_look]
  by_cases h : p ∈ l <;> simp [h]
theorem knP_nin (p : Pr) (l : List Pr) : opCmp .notIn (pD p) (.dT ((knP l).map (·.1)) ((knP l).map (·.2))) = .ok (!decide (p ∈ l)) := by
  show (Out.bind (Out.bind (Out.of (some (dlook (((knP l).map (·.1)).zip ((knP l).map (·.2))) (kP p)))) fun o => .ok o.isSome) fun r => .ok (!r)) = _
  rw [zip_unzip, knP_look]
  by_cases h : p ∈ l <;> simp [h]
def addP (l : List Pr) (p : Pr) : List Pr := if p ∈ l then l else l ++ [p]
theorem mem_addP {l : List Pr} {p q : Pr} : q ∈ addP l p ↔ q ∈ l ∨ q = p := by
  unfold addP
  split
  · rename_i h
    exact ⟨.inl, fun z => by rcases z with z | rfl <;> assumption⟩
  · simp
theorem addP_new {l : List Pr} {p : Pr} (h : p ∉ l) : addP l p = l ++ [p] := by unfold addP; rw [if_neg h]
theorem addP_len (l : List Pr) (p : Pr) : (addP l p).length ≤ l.length + 1 := by
  unfold addP
  split <;> simp
theorem knP_put (p : Pr) (l : List Pr) (hl : l.length < 16777216) : (Cell.dT (knP l)).put (pD p) (.bl true) = some (.dT (knP (addP l p))) := by
  show (if (knP l).length < 16777216 then some (Cell.dT (dput (knP l) (kP p) (.bl true))) else none) = _
  rw [if_pos (by rw [knP_len]; exact hl)]
  congr 2
  unfold dput addP
  rw [knP_look]
  by_cases h : p ∈ l
  · rw [if_pos h, if_pos h]
    simp only [Option.isSome_some, if_true]
    unfold knP
    rw [List.map_map]
    refine List.map_congr_left fun q _ => ?_
    simp only [Function.comp_apply]
    split <;> rfl
  · rw [if_neg h, if_neg h]
    simp [knP]
theorem knP_list (l : List Pr) : opBi .list [.dT ((knP l).map (·.1)) ((knP l).map (·.2))] = .ok (.new (.lst (prD l))) := by
  show (Out.of (listOf (.dT ((knP l).map (·.1)) ((knP l).map (·.2))))).bind (fun ds => Out.ok (Res.new (.lst ds))) = _
  have h1 : (((knP l).map (·.1)).all fun k => k.all keyOk) = true := by
    rw [List.all_eq_true]
    intro k hk
    obtain ⟨q, hq, rfl⟩ := List.mem_map.mp hk
    obtain ⟨p, _, rfl⟩ := List.mem_map.mp hq
    rfl
  have h2 : ((knP l).map (·.1)).map (fun k => D.tup (k.map kD)) = prD l := by
    unfold knP prD
    rw [List.map_map, List.map_map]
    rfl
  show (Out.of (if (((knP l).map (·.1)).all fun k => k.all keyOk) = true then some (((knP l).map (·.1)).map fun k => .tup (k.map kD)) else none)).bind (fun ds => Out.ok (Res.new (.lst ds))) = _
  rw [if_pos h1, h2]
  rfl
theorem bind_pD (i j : Nat) (p : Pr) (e : Nv) : bindV [i, j] (pD p) e = some ((e.set i (.val (.int p.1))).set j (.val (.int p.2))) := rfl
/-! sorted -/
def lP (p q : Pr) : Bool := leP ((p.1 : Int), (p.2 : Int)) ((q.1 : Int), (q.2 : Int))
def sortP (l : List Pr) : List Pr := isort lP l
theorem insB_map {α β : Type} (f : α → β) (le : β → β → Bool) (x : α) : ∀ l : List α, insB le (f x) (l.map f) = (insB (fun a b => le (f a) (f b)) x l).map f
  | [] => rfl
  | y :: l => by
    have ih := insB_map f le x l
    simp only [List.map_cons, insB]
    split
    · rfl
    · rw [ih]; rfl
theorem isort_map {α β : Type} (f : α → β) (le : β → β → Bool) : ∀ l : List α, isort le (l.map f) = (isort (fun a b => le (f a) (f b)) l).map f
  | [] => rfl
  | x :: l => by
    show insB le (f x) (isort le (l.map f)) = _
    rw [isort_map f le l, insB_map]; rfl
theorem insB_perm {α : Type} (le : α → α → Bool) (x : α) : ∀ l : List α, (insB le x l).Perm (x :: l)
  | [] => .refl _
  | y :: l => by
    unfold insB
    split
    · exact .refl _
    · exact (List.Perm.cons y (insB_perm le x l)).trans (List.Perm.swap x y l)
theorem isort_perm {α : Type} (le : α → α → Bool) : ∀ l : List α, (isort le l).Perm l
  | [] => .refl _
  | x :: l => (insB_perm le x _).trans ((isort_perm le l).cons x)
theorem prsOf_map (l : List Pr) : prsOf (prD l) = some (l.map fun p => ((p.1 : Int), (p.2 : Int))) := by
  induction l with
  | nil => rfl
  | cons p l ih =>
    show (prsOf (prD l)).map (((p.1 : Int), (p.2 : Int)) :: ·) = _
    rw [ih]; rfl
theorem sorted_P (l : List Pr) : opBi .sorted [.lst (prD l)] = .ok (.new (.lst (prD (sortP l)))) := by
  show opSorted (prD l) = _
  cases l with
  | nil => rfl
  | cons p l =>
    show (match prsOf (prD (p :: l)) with
      | some ps => Out.ok (Res.new (.lst ((isort leP ps).map fun p : Int × Int => D.tup [.int p.1, .int p.2])))
      | none => .stuck) = _
    rw [prsOf_map]
    simp only
    rw [isort_map, List.map_map]
    rfl
theorem sortP_mem {l : List Pr} {p : Pr} : p ∈ sortP l ↔ p ∈ l := (isort_perm lP l).mem_iff
theorem sortP_len (l : List Pr) : (sortP l).length = l.length := (isort_perm lP l).length_eq
theorem lP_iff (p q : Pr) : lP p q = true ↔ p.1 < q.1 ∨ (p.1 = q.1 ∧ p.2 ≤ q.2) := by
  unfold lP leP
  rw [decide_eq_true_iff]
  omega
theorem insB_comm {α : Type} {le : α → α → Bool} (tot : ∀ a b, le a b = true ∨ le b a = true) (tr : ∀ a b c, le a b = true → le b c = true → le a c = true) (an : ∀ a b, le a b = true → le b a = true → a = b) (x y : α) : ∀ l : List α, insB le x (insB le y l) = insB le y (insB le x l)
  | [] => by
    simp only [insB]
    rcases hxy : le x y with _ | _ <;> rcases hyx : le y x with _ | _
    · have := tot x y; simp [hxy, hyx] at this
    · simp
    · simp
    · rw [an x y hxy hyx]
  | z :: l => by
    have ih := insB_comm tot tr an x y l
    by_cases h1 : le y z = true <;> by_cases h2 : le x z = true <;> by_cases hxy : le x y = true <;> by_cases hyx : le y x = true
    all_goals first
      | (exfalso; have := tot x y; simp [hxy, hyx] at this; done)
      | (have e := an x y hxy hyx; subst e; rfl)
      | skip
    all_goals simp only [insB, h1, h2, hxy, hyx, if_true, Bool.false_eq_true, if_false, ih]
    all_goals first
      | rfl
      | (exfalso; exact h1 (tr _ _ _ hyx h2))
      | (exfalso; exact h2 (tr _ _ _ hxy h1))
theorem isort_eq {α : Type} {le : α → α → Bool} (tot : ∀ a b, le a b = true ∨ le b a = true) (tr : ∀ a b c, le a b = true → le b c = true → le a c = true) (an : ∀ a b, le a b = true → le b a = true → a = b) {l m : List α} (h : l.Perm m) : isort le l = isort le m := by
  induction h with
  | nil => rfl
  | cons x _ ih => show insB le x _ = insB le x _; rw [ih]
  | swap x y l => exact insB_comm tot tr an y x _
  | trans _ _ ih1 ih2 => exact ih1.trans ih2
theorem sortP_eq {l m : List Pr} (h : l.Perm m) : sortP l = sortP m :=
  isort_eq (fun a b => by rw [lP_iff, lP_iff]; omega) (fun a b c h1 h2 => by rw [lP_iff] at *; omega) (fun a b h1 h2 => by
    rw [lP_iff] at *
    obtain ⟨a1, a2⟩ := a
    obtain ⟨b1, b2⟩ := b
    simp at *
    omega) h
theorem nodup_perm {α : Type} [DecidableEq α] {l m : List α} (h1 : l.Nodup) (h2 : m.Nodup) (h : ∀ a, a ∈ l ↔ a ∈ m) : l.Perm m := by
  rw [List.perm_iff_count]
  intro a
  by_cases ha : a ∈ l
  · rw [h1.count, h2.count, if_pos ha, if_pos ((h a).mp ha)]
  · rw [h1.count, h2.count, if_neg ha, if_neg fun z => ha ((h a).mpr z)]
/-- pairs of numbers below N: no more than N * N -/
theorem prs_le {N : Nat} {l : List Pr} (hd : l.Nodup) (h : ∀ p ∈ l, p.1 < N ∧ p.2 < N) : l.length ≤ N * N := by
  have key : (l.map fun p : Pr => p.1 * N + p.2).Nodup := by
    rw [List.nodup_iff_pairwise_ne, List.pairwise_map]
    refine List.Pairwise.imp_of_mem (fun {a b} ha hb hab => ?_) (List.nodup_iff_pairwise_ne.mp hd)
    intro e
    apply hab
    have ha := h a ha
    have hb := h b hb
    obtain ⟨a1, a2⟩ := a
    obtain ⟨b1, b2⟩ := b
    simp only at ha hb e
    have e1 : (a1 * N + a2) / N = a1 := by rw [Nat.add_comm, Nat.add_mul_div_right _ _ (by omega), Nat.div_eq_of_lt ha.2]; omega
    have e2 : (b1 * N + b2) / N = b1 := by rw [Nat.add_comm, Nat.add_mul_div_right _ _ (by omega), Nat.div_eq_of_lt hb.2]; omega
    have : a1 = b1 := by rw [← e1, ← e2, e]
    subst this
    have : a2 = b2 := by omega
    rw [this]
  have := nodup_le (N * N) _ key fun a ha => by
    obtain ⟨p, hp, rfl⟩ := List.mem_map.mp ha
    have := h p hp
    have : p.1 * N + N ≤ N * N := by
      have := Nat.mul_le_mul_right N (show p.1 + 1 ≤ N by omega)
      rw [Nat.succ_mul] at this
      exact this
    omega
  rwa [List.length_map] at this

/-! ### heads, what goes together (plain, shared) -/
def Pa.hd : Pa → Nat × Option Str × List Str × Nat
  | .text w => (0, some w, [], 0)
  | .row vs => (1, none, [], vs.length)
  | .table ps => (2, none, ps.map (·.1), 0)
  | .rcd c ps => (3, some c, ps.map (·.1), 0)
theorem names_eqv : ∀ a b : List Str, D.eqvL (namesD a) (namesD b) = decide (a = b)
  | [], [] => by simp [namesD]
  | [], _ :: _ => by simp [namesD]
  | _ :: _, [] => by simp [namesD]
  | x :: a, y :: b => by
    have ih := names_eqv a b
    simp only [namesD, List.map_cons, eqvL_cc, eqv_ss] at ih ⊢
    rw [ih, Bool.eq_iff_iff]
    simp
theorem dPs_names (ps : List (Str × Vl)) : (dPs ps).map (·.1) = ps.map (·.1) := by simp [dPs]
theorem eqv_is (i : Int) (s : Str) : D.eqv (.int i) (.str s) = false := by unfold D.eqv; rfl
theorem eqv_si (i : Int) (s : Str) : D.eqv (.str s) (.int i) = false := by unfold D.eqv; rfl
theorem eqv_st (i : List D) (s : Str) : D.eqv (.str s) (.tup i) = false := by unfold D.eqv; rfl
theorem eqv_ts (i : List D) (s : Str) : D.eqv (.tup i) (.str s) = false := by unfold D.eqv; rfl
theorem hd_eqv (p q : Pa) : D.eqv p.pt.head q.pt.head = decide (p.hd = q.hd) := by
  have kk : ∀ a b : Str, (a == b) = decide (a = b) := fun a b => by rw [Bool.eq_iff_iff]; simp
  cases p <;> cases q <;> simp only [Pa.pt, Pt.head, Pa.hd, eqv_tt, eqvL_cc, eqvL_nn, eqvL_nc, eqvL_cn, eqv_ss, eqv_ii, eqv_is, eqv_si, eqv_st, eqv_ts, kk, names_eqv, dPs_names, k_text_row, k_text_table, k_text_record, k_row_text, k_row_table, k_row_record, k_table_text, k_table_row, k_table_record, k_record_text, k_record_row, k_record_table, decide_false, Bool.false_and, Bool.and_false, Bool.and_true, decide_true, Bool.true_and, List.length_map] <;> (rw [Bool.eq_iff_iff]; simp; try omega)
theorem hd_plain (p : Pa) : p.pt.head.plain = true ∧ p.pt.head.depth ≤ 64 := by
  have h1 : ∀ l : List Str, D.plainL (namesD l) = true := fun l => plainL_all fun d hd => by obtain ⟨n, _, rfl⟩ := List.mem_map.mp hd; simp
  have h2 : ∀ l : List Str, D.depthL (namesD l) ≤ 1 := fun l => depthL_le fun d hd => by obtain ⟨n, _, rfl⟩ := List.mem_map.mp hd; simp
  cases p with
  | text w => simp [Pa.pt, Pt.head]
  | row vs => simp [Pa.pt, Pt.head]
  | table ps =>
    have a := h1 ((dPs ps).map (·.1))
    have b := h2 ((dPs ps).map (·.1))
    simp only [Pa.pt, Pt.head, plain_tup, plainL_cons, plainL_nil, plain_str, a, depth_tup, depthL_cons, depthL_nil, depth_str]
    refine ⟨rfl, by omega⟩
  | rcd c ps =>
    have a := h1 ((dPs ps).map (·.1))
    have b := h2 ((dPs ps).map (·.1))
    simp only [Pa.pt, Pt.head, plain_tup, plainL_cons, plainL_nil, plain_str, a, depth_tup, depthL_cons, depthL_nil, depth_str]
    refine ⟨rfl, by omega⟩
theorem hd_ne (p q : Pa) : opCmp .ne p.pt.head q.pt.head = .ok (!decide (p.hd = q.hd)) := by
  rw [ne_d (eqOk_of' (hd_plain p).1 (hd_plain q).1 (hd_plain p).2), hd_eqv]
theorem hd_eq (p q : Pa) : opCmp .eq p.pt.head q.pt.head = .ok (decide (p.hd = q.hd)) := by
  rw [eq_d (eqOk_of' (hd_plain p).1 (hd_plain q).1 (hd_plain p).2), hd_eqv]
theorem hd_len {p q : Pa} (h : p.hd = q.hd) : p.vals.length = q.vals.length := by
  cases p <;> cases q <;> simp [Pa.hd] at h <;> simp [Pa.vals]
  · exact h
  · have := congrArg List.length h
    simpa using this
  · have := congrArg List.length h.2
    simpa using this
/-- two values are the same -/
def Vl.same : Vl → Vl → Bool
  | .non, .non => true
  | .int i, .int j => decide (i = j)
  | .lnk i, .lnk j => decide (i = j)
  | _, _ => false
theorem vl_eqv (v w : Vl) : D.eqv v.d w.d = v.same w := by
  cases v <;> cases w <;> simp [Vl.d, Vl.same]
  all_goals first
    | omega
    | (unfold D.eqv; rfl)
theorem vl_eq (v w : Vl) : opCmp .eq v.d w.d = .ok (v.same w) := by
  have h := vl_plain v
  rw [eq_d (eqOk_of' h.1 (vl_plain w).1 (by omega)), vl_eqv]
theorem vl_ne (v w : Vl) : opCmp .ne v.d w.d = .ok (!v.same w) := by
  have h := vl_plain v
  rw [ne_d (eqOk_of' h.1 (vl_plain w).1 (by omega)), vl_eqv]
theorem vl_same_iff (v w : Vl) : v.same w = true ↔ v = w := by
  cases v <;> cases w <;> simp [Vl.same]
abbrev VP := Vl × Vl
/-- links on both sides -/
def lp : VP → Option Pr
  | (.lnk i, .lnk j) => some (i, j)
  | _ => none
def okv (q : VP) : Bool := (lp q).isSome || q.1.same q.2
def tog (S : List Pr) (q : VP) : Bool := match lp q with
  | some p => decide (p ∈ S)
  | none => q.1.same q.2
theorem tog_eq (S : List Pr) (q : VP) : tog S q = (okv q && ((lp q).toList.all fun p => decide (p ∈ S))) := by
  unfold tog okv
  cases lp q <;> simp
/-- two parts' values side by side -/
def side (p q : Pa) : List VP := p.vals.zip q.vals
def holdP (S : List Pr) (p q : Pa) : Bool := decide (p.hd = q.hd) && (side p q).all (tog S)
def hold (A B : List Pa) (S : List Pr) (x : Pr) : Bool := holdP S (A.getD x.1 noP) (B.getD x.2 noP)
/-- what the pair leads on to, if it does not part -/
def goL (p q : Pa) : Option (List Pr) := if p.hd = q.hd ∧ (side p q).all okv = true then some ((side p q).filterMap lp) else none
def goW (A B : List Pa) (x : Pr) : Option (List Pr) := goL (A.getD x.1 noP) (B.getD x.2 noP)
theorem hold_go (S : List Pr) (p q : Pa) : holdP S p q = match goL p q with
    | some l => l.all fun x => decide (x ∈ S)
    | none => false := by
  have key : ∀ l : List VP, l.all (tog S) = (l.all okv && ((l.filterMap lp).all fun x => decide (x ∈ S))) := fun l => by
    induction l with
    | nil => rfl
    | cons a l ih =>
      rw [List.all_cons, List.all_cons, ih, tog_eq, List.filterMap_cons]
      cases h : lp a with
      | none => simp [Bool.and_assoc]
      | some x =>
        simp only [Option.toList, List.all_cons, List.all_nil, Bool.and_true]
        cases okv a <;> cases decide (x ∈ S) <;> cases l.all okv <;> simp
  unfold holdP goL
  rw [key]
  by_cases h : p.hd = q.hd
  · by_cases h2 : (side p q).all okv = true
    · rw [if_pos ⟨h, h2⟩, h2, decide_eq_true h]; rfl
    · rw [if_neg fun z => h2 z.2]
      have : (side p q).all okv = false := by simpa using h2
      rw [this]; simp
  · rw [if_neg fun z => h z.1, decide_eq_false h]; rfl
theorem hold_congr {A B : List Pa} {S T : List Pr} (h : ∀ p, p ∈ S ↔ p ∈ T) (x : Pr) : hold A B S x = hold A B T x := by
  have : ∀ q, tog S q = tog T q := fun q => by
    unfold tog
    cases lp q with
    | none => rfl
    | some p => simp only [h p]
  have e : tog S = tog T := funext this
  unfold hold holdP
  rw [e]
theorem side_len {p q : Pa} (h : p.hd = q.hd) : (side p q).length = p.vals.length := by
  rw [side, List.length_zip, ← hd_len h, Nat.min_self]
theorem zipD_map {α β : Type} (f : α → D) (g : β → D) : ∀ (a : List α) (b : List β), zipD (a.map f) (b.map g) = (a.zip b).map fun q => .tup [f q.1, g q.2]
  | [], _ => rfl
  | x :: a, [] => rfl
  | x :: a, y :: b => by
    show D.tup [f x, g y] :: zipD (a.map f) (b.map g) = _
    rw [zipD_map f g a b]; rfl
theorem go_mem {A B : List Pa} (okA : okW A) (okB : okW B) {x : Pr} {l : List Pr} (h : goW A B x = some l) : ∀ y ∈ l, y.1 < A.length ∧ y.2 < B.length := by
  unfold goW goL at h
  split at h
  · have h := Option.some.inj h
    subst h
    intro y hy
    obtain ⟨q, hq, e⟩ := List.mem_filterMap.mp hy
    obtain ⟨v, w⟩ := q
    have hz := List.of_mem_zip hq
    have lt : ∀ {W : List Pa} {k j : Nat}, okW W → Vl.lnk j ∈ (W.getD k noP).vals → j < W.length := fun {W k j} ok hv => by
      rw [List.getD_eq_getElem?_getD] at hv
      cases hk : W[k]? with
      | none => rw [hk] at hv; cases hv
      | some p =>
        rw [hk] at hv
        exact (ok.2 p (List.mem_of_getElem? hk)).2 j (List.mem_filterMap.mpr ⟨_, hv, rfl⟩)
    cases v <;> cases w <;> first | (cases e; done) | skip
    cases e
    exact ⟨lt okA hz.1, lt okB hz.2⟩
  · cases h
theorem go_len {A B : List Pa} (okA : okW A) {x : Pr} {l : List Pr} (h : goW A B x = some l) : l.length ≤ 12 := by
  unfold goW goL at h
  split at h
  · have h := Option.some.inj h
    subst h
    refine Nat.le_trans (List.length_filterMap_le _ _) ?_
    rw [side, List.length_zip]
    have : (A.getD x.1 noP).vals.length ≤ 12 := by
      rw [List.getD_eq_getElem?_getD]
      cases hk : A[x.1]? with
      | none => simp [noP, Pa.vals]
      | some p => exact (okA.2 p (List.mem_of_getElem? hk)).1
    omega
  · cases h

/-! ### a part with other values (plain, shared) -/
def Pa.wv : Pa → List Vl → Pa
  | .text w, _ => .text w
  | .row _, us => .row us
  | .table ps, us => .table ((ps.map (·.1)).zip us)
  | .rcd c ps, us => .rcd c ((ps.map (·.1)).zip us)
theorem zip_snds {α β : Type} : ∀ {a : List α} {b : List β}, b.length = a.length → (a.zip b).map (·.2) = b
  | [], [], _ => rfl
  | [], _ :: _, h => by simp at h
  | _ :: _, [], h => by simp at h
  | x :: a, y :: b, h => by
    show y :: (a.zip b).map (·.2) = _
    rw [zip_snds (by simpa using h)]
theorem zip_fsts {α β : Type} : ∀ {a : List α} {b : List β}, b.length = a.length → (a.zip b).map (·.1) = a
  | [], [], _ => rfl
  | [], _ :: _, h => by simp at h
  | _ :: _, [], h => by simp at h
  | x :: a, y :: b, h => by
    show x :: (a.zip b).map (·.1) = _
    rw [zip_fsts (by simpa using h)]
theorem wv_vals {p : Pa} {us : List Vl} (h : us.length = p.vals.length) : (p.wv us).vals = us := by
  cases p with
  | text w => simp [Pa.vals] at h; subst h; rfl
  | row vs => rfl
  | table ps => exact zip_snds (by simpa [Pa.vals] using h)
  | rcd c ps => exact zip_snds (by simpa [Pa.vals] using h)
theorem wv_hd {p : Pa} {us : List Vl} (h : us.length = p.vals.length) : (p.wv us).hd = p.hd := by
  cases p with
  | text w => rfl
  | row vs => simp [Pa.vals] at h; simp [Pa.wv, Pa.hd, h]
  | table ps => simp only [Pa.wv, Pa.hd]; rw [zip_fsts (by simpa [Pa.vals] using h)]
  | rcd c ps => simp only [Pa.wv, Pa.hd]; rw [zip_fsts (by simpa [Pa.vals] using h)]
theorem wv_put (p : Pa) (us : List Vl) : p.pt.put (us.map Vl.d) = (p.wv us).pt := by
  have z : ∀ (ps : List (Str × Vl)) (us : List Vl), ((dPs ps).map (·.1)).zip (us.map Vl.d) = dPs ((ps.map (·.1)).zip us) := fun ps => by
    induction ps with
    | nil => intro us; rfl
    | cons p ps ih =>
      intro us
      cases us with
      | nil => rfl
      | cons u us =>
        have ih := ih us
        simp only [dPs, List.map_cons, List.zip_cons_cons] at ih ⊢
        rw [ih]
  cases p with
  | text w => rfl
  | row vs => rfl
  | table ps => exact congrArg Pt.table (z ps us)
  | rcd c ps => exact congrArg (Pt.rcd c) (z ps us)
theorem wv_re (φ : Nat → Nat) (p : Pa) : p.wv (p.vals.map (Vl.re φ)) = p.re φ := by
  have z : ∀ ps : List (Str × Vl), (ps.map (·.1)).zip ((ps.map (·.2)).map (Vl.re φ)) = ps.map fun p => (p.1, p.2.re φ) := fun ps => by
    induction ps with
    | nil => rfl
    | cons p ps ih =>
      simp only [List.map_cons, List.zip_cons_cons] at ih ⊢
      rw [ih]
  cases p with
  | text w => rfl
  | row vs => rfl
  | table ps => exact congrArg Pa.table (z ps)
  | rcd c ps => exact congrArg (Pa.rcd c) (z ps)
/-- a part whose links lead below m -/
def ltP (m : Nat) (p : Pa) : Prop := p.few ∧ ∀ k ∈ p.links, k < m
def ltV (m : Nat) (v : Vl) : Prop := ∀ i, v.to = some i → i < m
theorem ltP_of {m : Nat} {p : Pa} (h : p.few) (h2 : ∀ v ∈ p.vals, ltV m v) : ltP m p := ⟨h, fun k hk => by
  obtain ⟨v, hv, e⟩ := List.mem_filterMap.mp hk
  exact h2 v hv k e⟩
theorem ltP_vals {m : Nat} {p : Pa} (h : ltP m p) : ∀ v ∈ p.vals, ltV m v := fun v hv k e => h.2 k (List.mem_filterMap.mpr ⟨v, hv, e⟩)
theorem wv_lt {m : Nat} {p : Pa} {us : List Vl} (h : us.length = p.vals.length) (hf : p.few) (hu : ∀ v ∈ us, ltV m v) : ltP m (p.wv us) := by
  have hf : p.vals.length ≤ 12 := hf
  refine ltP_of (show (p.wv us).vals.length ≤ 12 by rw [wv_vals h, h]; exact hf) ?_
  rw [wv_vals h]
  exact hu
theorem getD_ok {W : List Pa} {k : Nat} (h : k < W.length) : W[k]? = some (W.getD k noP) := by
  rw [List.getD_eq_getElem?_getD, List.getElem?_eq_getElem h]; rfl
theorem getD_mem {W : List Pa} {k : Nat} (h : k < W.length) : W.getD k noP ∈ W := List.mem_of_getElem? (getD_ok h)
theorem solidL_all {ds : List D} (h : ∀ d ∈ ds, d.solid = true) : D.solidL ds = true := by
  induction ds with
  | nil => simp
  | cons d ds ih => simp [h d List.mem_cons_self, ih fun x hx => h x (List.mem_cons_of_mem _ hx)]
theorem pa_solid (p : Pa) : (Res.val p.pt.d).solid = true := by
  show p.pt.d.solid = true
  have vs : ∀ vs : List Vl, D.solidL (vs.map Vl.d) = true := fun vs => solidL_all fun d hd => by
    obtain ⟨v, _, rfl⟩ := List.mem_map.mp hd; exact (vl_plain v).2.2
  have ps : ∀ ps : List (Str × Vl), D.solidL (pairsD (dPs ps)) = true := fun ps => solidL_all fun d hd => by
    obtain ⟨v, hv, rfl⟩ := List.mem_map.mp hd
    obtain ⟨q, _, rfl⟩ := List.mem_map.mp hv
    simp [(vl_plain q.2).2.2]
  cases p with
  | text w => simp [Pa.pt, Pt.d]
  | row l => simp [Pa.pt, Pt.d, vs l]
  | table l => simp [Pa.pt, Pt.d, ps l]
  | rcd c l => simp [Pa.pt, Pt.d, ps l]
theorem web_app (V : List Pa) (p : Pa) : webD (V ++ [p]) = webD V ++ [p.pt.d] := by simp [webD]

end PyI.K22

end
section
namespace PyI.K22
open PySem PySem.Spec PyProof.Rows L2
local macro_rules | `(tactic| simp_arith [$ts,*]) => `(tactic| simp (disch := first | assumption | omega | (simp only [List.length_cons, List.length_nil, List.length_append, List.length_map, List.length_range, List.length_take, List.length_drop, List.length_reverse, List.length_set]; omega)) only [w_var, w_kI, w_kS, w_kB, w_kN, w_glob, w_of, w_bin, w_binA, w_binB, w_binC, w_neg, w_negA, w_negB, w_not, w_notA, w_cmp, w_cmpA, w_cmpB, w_cmpC, w_cmp2, w_c2A, w_c2B, w_c2Dt, w_c2Df, w_c2E, w_and, w_andT, w_andF, w_or, w_orT, w_orF, w_ite, w_iteT, w_iteF, w_tup, w_tupA, w_tupC, w_lst, w_lstA, w_lstC, w_dk0, w_dt0, w_nil, w_cons, w_consA, w_consB, w_idx, w_idxA, w_idxB, w_idxC, w_sl, w_slA, w_slB, w_slC, w_slD, w_pN, w_pK, w_pV, w_pI, w_pB, w_pM, w_pX, w_pBi, w_pC, w_pG, w_call, w_callA, w_callF, w_callT, w_lent, w_bi, w_biA, w_biC, w_me, w_meA, w_meB, w_meC, w_mu, w_muB, w_muC, w_muK, w_opK, w_dK, w_blK, w_lc, w_iRng, w_rngA, w_rng1, w_rng2, w_itA, w_itB, w_itC, w_itV, w_itG, w_itS, w_itBin, w_itTup, w_itLst, w_itIdx, w_itSl, w_itCall, w_itBi, w_itMe, w_itLc, w_enum, w_enA, w_enB, w_irev, w_rvA, w_rvBl, w_rvBt, w_izip, w_zpA, w_zpB, w_zpll, w_zplt, w_zptl, w_zptt, w_pass, w_done, w_expr, w_exprK, w_asg, w_asgV, w_asgN, w_asgT, w_asgTK, w_asgTC, w_put, w_putA, w_putE, w_putB, w_putC, w_putD, w_if, w_ifT, w_ifF, w_for, w_ret, w_retK, w_retC, w_retN, w_frz, w_seq, w_seqN, w_seqR, w_fin, w_finN, w_finRv, w_finRn, w_turnN, w_turnR, w_eltV, w_eltN, w_isB, w_whT, w_whF, get_val, get_new, get_ref', out_val, out_new, out_ref', noRef_nil, noRef_val, noRef_new, deref_nil, deref_val, deref_new, deref_ref, anyRef_nil, anyRef_val, anyRef_new, anyRef_ref, refsOf_nil, refsOf_val, refsOf_new, refsOf_ref, Option.map_some, Option.bind_some, cell_lst, cell_dK, cell_dT, List.set_cons_zero, List.set_cons_succ, List.getElem?_cons_zero, List.getElem?_cons_succ, wp_ok, Out.val_ok, op_add_i, op_sub_i, p_mulr, p_mull, op_mod_i, op_fdiv_i, op_pow_i, opNeg_i, lt_i, le_i, gt_i, ge_i, eq_ii, ne_ii, p_eqs, p_nes, eq_bb, ne_bb, isI_int, isI_str, isI_bl, isI_tup, isI_lst, isI_non, isI_dK, is_int, is_bl, is_str, is_tup, is_lst, is_dK, is_non, List.any_cons, List.any_nil, Bool.or_false, Bool.false_or, Bool.true_or, Bool.or_true, Bool.not_true, Bool.not_false, List.nil_append, List.cons_append, List.append_nil, decide_true, decide_false, listRev_l, tuple_l, tuple_t, list_l, list_t, len_l, len_t, p_lens, min_i, max_i, int_i, int_b, abs_i, sl_l, sl_t, p_sls, mu_append', mu_clear, items_l, items_t, items_s, bind_one, bind_two, idx_t0, idx_t1, idx_2l, idx_3l, cut_2l, cut_3l, wipeS_nil, wipeS_cons, backS_nil, backS_cons, p_isN_non, p_notN_non, solid_int, solid_str, solid_bl, solid_non, solid_tup, solidL_nil, solidL_cons, isNon_non, isNon_int, isNon_tup, isNon_lst, isNon_str, isNon_bl, p_extend, p_pop, idx_last, if_true, if_false, eq_self, Bool.false_eq_true, List.getD_cons_zero, List.getD_cons_succ, m_append, m_extend, m_insert, m_pop, m_popAt, m_clear, m_reverse, m_sdK, m_sdT, n_join, n_startswith, n_split, n_partition, n_index, n_sidx, n_getK, n_getT, n_getOrK, n_getOrT, List.length_cons, List.length_nil, p_cast, Nat.reduceAdd, Int.reduceEq, Int.reduceLT, Int.reduceLE, Int.reduceAdd, Int.reduceSub, Int.reduceMul, k_text_row, k_text_table, k_text_record, k_row_text, k_row_table, k_row_record, k_table_text, k_table_row, k_table_record, k_record_text, k_record_row, k_record_table, l_bl, l_int, l_str, l_non, lrng_1, lrng_2, w_gIx, w_gAt, p_addl, p_addt, p_adds, w_dispK, w_dispT, w_diA, w_diB, w_diC, w_diD, dis_i, dis_s, dis_t2, w_revL, w_rvlA, w_rvlC, w_isE, w_isEA, w_isEC, w_isEB, subAny_nil, w_atE, w_atA, w_raise, w_rsA, w_try, w_tryK, w_tryHn, w_tryHs, wp_exc, w_iez, w_ezA, w_ezB, w_ezC, w_callM, w_cmA, w_cmB, w_cmCr, w_cmCn, w_cmD, lastR_one, lastR_more, valRs_nil, valRs_cons, ownAt_eq, ownS_own, selfR_some, selfR_none, selfN_some, selfN_none, w_finM, w_fmN, w_fmRv, w_fmRr, w_fmC, w_retM, w_rmO, $ts,*])
local macro_rules | `(tactic| simp_arith) => `(tactic| simp (disch := first | assumption | omega | (simp only [List.length_cons, List.length_nil, List.length_append, List.length_map, List.length_range, List.length_take, List.length_drop, List.length_reverse, List.length_set]; omega)) only [w_var, w_kI, w_kS, w_kB, w_kN, w_glob, w_of, w_bin, w_binA, w_binB, w_binC, w_neg, w_negA, w_negB, w_not, w_notA, w_cmp, w_cmpA, w_cmpB, w_cmpC, w_cmp2, w_c2A, w_c2B, w_c2Dt, w_c2Df, w_c2E, w_and, w_andT, w_andF, w_or, w_orT, w_orF, w_ite, w_iteT, w_iteF, w_tup, w_tupA, w_tupC, w_lst, w_lstA, w_lstC, w_dk0, w_dt0, w_nil, w_cons, w_consA, w_consB, w_idx, w_idxA, w_idxB, w_idxC, w_sl, w_slA, w_slB, w_slC, w_slD, w_pN, w_pK, w_pV, w_pI, w_pB, w_pM, w_pX, w_pBi, w_pC, w_pG, w_call, w_callA, w_callF, w_callT, w_lent, w_bi, w_biA, w_biC, w_me, w_meA, w_meB, w_meC, w_mu, w_muB, w_muC, w_muK, w_opK, w_dK, w_blK, w_lc, w_iRng, w_rngA, w_rng1, w_rng2, w_itA, w_itB, w_itC, w_itV, w_itG, w_itS, w_itBin, w_itTup, w_itLst, w_itIdx, w_itSl, w_itCall, w_itBi, w_itMe, w_itLc, w_enum, w_enA, w_enB, w_irev, w_rvA, w_rvBl, w_rvBt, w_izip, w_zpA, w_zpB, w_zpll, w_zplt, w_zptl, w_zptt, w_pass, w_done, w_expr, w_exprK, w_asg, w_asgV, w_asgN, w_asgT, w_asgTK, w_asgTC, w_put, w_putA, w_putE, w_putB, w_putC, w_putD, w_if, w_ifT, w_ifF, w_for, w_ret, w_retK, w_retC, w_retN, w_frz, w_seq, w_seqN, w_seqR, w_fin, w_finN, w_finRv, w_finRn, w_turnN, w_turnR, w_eltV, w_eltN, w_isB, w_whT, w_whF, get_val, get_new, get_ref', out_val, out_new, out_ref', noRef_nil, noRef_val, noRef_new, deref_nil, deref_val, deref_new, deref_ref, anyRef_nil, anyRef_val, anyRef_new, anyRef_ref, refsOf_nil, refsOf_val, refsOf_new, refsOf_ref, Option.map_some, Option.bind_some, cell_lst, cell_dK, cell_dT, List.set_cons_zero, List.set_cons_succ, List.getElem?_cons_zero, List.getElem?_cons_succ, wp_ok, Out.val_ok, op_add_i, op_sub_i, p_mulr, p_mull, op_mod_i, op_fdiv_i, op_pow_i, opNeg_i, lt_i, le_i, gt_i, ge_i, eq_ii, ne_ii, p_eqs, p_nes, eq_bb, ne_bb, isI_int, isI_str, isI_bl, isI_tup, isI_lst, isI_non, isI_dK, is_int, is_bl, is_str, is_tup, is_lst, is_dK, is_non, List.any_cons, List.any_nil, Bool.or_false, Bool.false_or, Bool.true_or, Bool.or_true, Bool.not_true, Bool.not_false, List.nil_append, List.cons_append, List.append_nil, decide_true, decide_false, listRev_l, tuple_l, tuple_t, list_l, list_t, len_l, len_t, p_lens, min_i, max_i, int_i, int_b, abs_i, sl_l, sl_t, p_sls, mu_append', mu_clear, items_l, items_t, items_s, bind_one, bind_two, idx_t0, idx_t1, idx_2l, idx_3l, cut_2l, cut_3l, wipeS_nil, wipeS_cons, backS_nil, backS_cons, p_isN_non, p_notN_non, solid_int, solid_str, solid_bl, solid_non, solid_tup, solidL_nil, solidL_cons, isNon_non, isNon_int, isNon_tup, isNon_lst, isNon_str, isNon_bl, p_extend, p_pop, idx_last, if_true, if_false, eq_self, Bool.false_eq_true, List.getD_cons_zero, List.getD_cons_succ, m_append, m_extend, m_insert, m_pop, m_popAt, m_clear, m_reverse, m_sdK, m_sdT, n_join, n_startswith, n_split, n_partition, n_index, n_sidx, n_getK, n_getT, n_getOrK, n_getOrT, List.length_cons, List.length_nil, p_cast, Nat.reduceAdd, Int.reduceEq, Int.reduceLT, Int.reduceLE, Int.reduceAdd, Int.reduceSub, Int.reduceMul, k_text_row, k_text_table, k_text_record, k_row_text, k_row_table, k_row_record, k_table_text, k_table_row, k_table_record, k_record_text, k_record_row, k_record_table, l_bl, l_int, l_str, l_non, lrng_1, lrng_2, w_gIx, w_gAt, p_addl, p_addt, p_adds, w_dispK, w_dispT, w_diA, w_diB, w_diC, w_diD, dis_i, dis_s, dis_t2, w_revL, w_rvlA, w_rvlC, w_isE, w_isEA, w_isEC, w_isEB, subAny_nil, w_atE, w_atA, w_raise, w_rsA, w_try, w_tryK, w_tryHn, w_tryHs, wp_exc, w_iez, w_ezA, w_ezB, w_ezC, w_callM, w_cmA, w_cmB, w_cmCr, w_cmCn, w_cmD, lastR_one, lastR_more, valRs_nil, valRs_cons, ownAt_eq, ownS_own, selfR_some, selfR_none, selfN_some, selfN_none, w_finM, w_fmN, w_fmRv, w_fmRr, w_fmC, w_retM, w_rmO])

theorem cell_eq (k : Nat) (ns : List Int) {j : Int} (hj : 0 ≤ j) : ∃ c : Int, pg.call (k + 1) 10 [.lst (ns.map D.int), .int j] = .ok (.val (.int c)) := by
  suffices h : Wp (pg.call (k + 1) 10 [.lst (ns.map D.int), .int j]) (fun r => ∃ c : Int, r = .val (.int c)) noE by
    obtain ⟨r, h1, c, rfl⟩ := h.ex
    exact ⟨c, h1⟩
  rw [c_law_cell_at, w_fin]
  simp_arith [b_law_cell_at]
  refine dec_k (fun h => ?_) (fun h => ?_)
  · have := idx_l (ds := ns.map D.int) (i := j) (d := .int (ns.getD j.toNat 0)) hj (by
      simp at h
      rw [List.getElem?_map, List.getD_eq_getElem?_getD, List.getElem?_eq_getElem (show j.toNat < ns.length by omega)]; rfl)
    simp_arith [this]
    exact ⟨_, rfl⟩
  · simp_arith
    exact ⟨_, rfl⟩
theorem rel_ex {α : Type} (f : α → D) (P : α → Prop) : ∀ {xs : List D}, (∀ (j : Nat) (y : D), xs[j]? = some y → ∃ a, P a ∧ y = f a) → ∃ as : List α, xs = as.map f ∧ ∀ a ∈ as, P a
  | [], _ => ⟨[], rfl, fun _ h => nomatch h⟩
  | x :: xs, h => by
    obtain ⟨as, h1, h2⟩ := rel_ex f P (xs := xs) fun j y hy => h (j + 1) y (by simpa using hy)
    obtain ⟨a, h3, h4⟩ := h 0 x rfl
    refine ⟨a :: as, by rw [h4, h1]; rfl, fun b hb => ?_⟩
    rcases List.mem_cons.mp hb with rfl | hb
    · exact h3
    · exact h2 b hb
theorem one_sum : ∀ {cs : List Str}, (∀ c ∈ cs, c.length = 1) → (cs.map (·.length)).sum = cs.length
  | [], _ => rfl
  | c :: cs, h => by
    have := one_sum (cs := cs) fun x hx => h x (List.mem_cons_of_mem _ hx)
    rw [List.map_cons, List.sum_cons, this, h c List.mem_cons_self, List.length_cons]
    omega
theorem mix_eq (k : Nat) (c : Int) {j : Int} (hj : 0 ≤ j) (hj2 : j ≤ 1000) : ∃ m : Int, 0 ≤ m ∧ m < 2147483647 ∧ pg.call (k + 1) 12 [.int c, .int j] = .ok (.val (.int m)) := by
  suffices h : Wp (pg.call (k + 1) 12 [.int c, .int j]) (fun r => ∃ m : Int, 0 ≤ m ∧ m < 2147483647 ∧ r = .val (.int m)) noE by
    obtain ⟨r, h1, c, h2, h3, rfl⟩ := h.ex
    exact ⟨c, h2, h3, h1⟩
  rw [c_law_mix, w_fin]
  simp_arith [b_law_mix]
  generalize (c % 2147483647 + 1) * (48271 + 7 * j) = y
  exact ⟨_, by omega, by omega, rfl⟩
theorem mul_8 {s : Str} (h : s.length ≤ 1000) : opBin .mul (.int 8) (.str s) = .ok (.val (.str (Txt.mul s 8))) := by
  show (if (0 : Int) ≤ 8 ∧ (8 : Int) ≤ 1000 ∧ s.length ≤ 1000 then Out.ok (Res.val (.str (Txt.mul s 8))) else .stuck) = _
  rw [if_pos ⟨by omega, by omega, h⟩]
def sOk (s : Str) : Prop := s.length ≤ 1000
theorem pool_eq (k : Nat) (c t : Int) : ∃ ss : List Str, ss.length = 8 ∧ (∀ s ∈ ss, sOk s) ∧ ∃ r : Res, (r = .val (.lst (ss.map D.str)) ∨ r = .new (.lst (ss.map D.str))) ∧ pg.call (k + 1) 11 [.int c, .int t] = .ok r := by
  suffices h : Wp (pg.call (k + 1) 11 [.int c, .int t]) (fun r => ∃ ss : List Str, ss.length = 8 ∧ (∀ s ∈ ss, sOk s) ∧ (r = .val (.lst (ss.map D.str)) ∨ r = .new (.lst (ss.map D.str)))) noE by
    obtain ⟨r, h1, c, h2, h3, h4⟩ := h.ex
    exact ⟨c, h2, h3, r, h4, h1⟩
  rw [c_law_pool, w_fin]
  simp_arith [b_law_pool]
  generalize hz : Str.ofString "abcdefghijklmnopqrstuvwxyz0123456789" = z
  have zl : z.length = 36 := by rw [← hz]; decide +kernel
  clear hz
  refine for_rng (fun j e => ∃ (c' : Int) (ps : List Int) (s5 : Slot), ps.length = j ∧ (∀ p ∈ ps, 0 ≤ p ∧ p < 36) ∧ e = [.val (.int c'), .val (.int t), .val (.str z), .val (.int (1 + c % 8)), .own (.lst (ps.map D.int)), s5, .emp, .emp, .emp, .emp]) ⟨_, [], _, rfl, by simp, rfl⟩ (fun j e hj he => ?_) (fun e he => ?_)
  · obtain ⟨c', ps, s5, h1, h2, rfl⟩ := he
    simp_arith [f_law_pool_0]
    refine ⟨_, ps ++ [c' % 36], _, by simp [h1], fun p hp => ?_, by rw [List.map_append]; rfl⟩
    rcases List.mem_append.mp hp with hp | hp
    · exact h2 p hp
    · rw [List.mem_singleton.mp hp]; omega
  obtain ⟨c', ps, s5, h1, h2, rfl⟩ := he
  simp_arith
  refine lc_each (f := fun p => D.str ⟨#[sgnAt z p]⟩) rfl (by omega) (fun p hp => ⟨_, rfl, ?_⟩) ?_
  · have := h2 p hp
    have ix := idx_s (z := z) (i := p) (by omega) (by omega) (by omega)
    simp_arith [ix]
  have e1 : ps.map (fun p => D.str ⟨#[sgnAt z p]⟩) = (ps.map fun p => (⟨#[sgnAt z p]⟩ : Str)).map D.str := by rw [List.map_map]; rfl
  rw [e1]
  have hsum := one_sum (cs := ps.map fun p => (⟨#[sgnAt z p]⟩ : Str)) fun c hc => by
    obtain ⟨p, _, rfl⟩ := List.mem_map.mp hc
    rfl
  rw [List.length_map] at hsum
  have J := join_ok (xs := ps.map fun p => (⟨#[sgnAt z p]⟩ : Str)) (by omega)
  have jl := join_len (ps.map fun p => (⟨#[sgnAt z p]⟩ : Str))
  rw [hsum] at jl
  generalize Txt.join "" (ps.map fun p => (⟨#[sgnAt z p]⟩ : Str)) = base at *
  have pl : ps.length ≤ 8 := by omega
  simp_arith [J]
  refine dec_k (fun h => ?_) (fun h => ?_)
  · have M := mul_8 (s := base) (by omega)
    have Ml := len_mul_leN (x := base) (n := 8) (L := 8) (N := 8) (by omega) (by omega)
    generalize Txt.mul base 8 = big at *
    simp_arith
    refine lc_range2 (lo := 1) (hi := 9) (fun j => .str (cutS big none (some (1 + (j : Int))))) (by omega) (fun j hj => ?_) ?_
    · simp_arith [M]
    · simp_arith
      refine ⟨(List.range 8).map fun (j : Nat) => cutS big none (some (1 + (j : Int))), by simp, fun s hs => ?_, .inr ?_⟩
      · obtain ⟨j, _, rfl⟩ := List.mem_map.mp hs
        have := cut_len big none (some (1 + (j : Int)))
        show _ ≤ 1000
        omega
      · rw [List.map_map]; rfl
  · simp_arith
    have t0 := Int.emod_nonneg t (show 1 + c % 8 ≠ 0 by omega)
    have t1 := Int.emod_lt_of_pos t (show 0 < 1 + c % 8 by omega)
    generalize t % (1 + c % 8) = at' at *
    have hps : at'.toNat < ps.length := by omega
    have g := idx_l (ds := ps.map D.int) (i := at') (d := .int ps[at'.toNat]) t0 (by rw [List.getElem?_map, List.getElem?_eq_getElem hps]; rfl)
    refine for_rng (fun j e => ∃ (ss : List Str) (s5 s9 : Slot), ss.length = j ∧ (∀ s ∈ ss, sOk s) ∧ e = [.val (.int c'), .val (.int t), .val (.str z), .val (.int (1 + c % 8)), .val (.lst (ps.map D.int)), s5, .val (.str base), .val (.int at'), .own (.lst (ss.map D.str)), s9]) ⟨[], _, _, rfl, by simp, rfl⟩ (fun j e hj he => ?_) (fun e he => ?_)
    · obtain ⟨ss, s5, s9, q1, q2, rfl⟩ := he
      generalize ps[at'.toNat] = u at *
      have ix := idx_s (z := z) (i := (u + 4 * (j : Int)) % 36) (by omega) (by omega) (by omega)
      generalize hs : (⟨#[sgnAt z ((u + 4 * (j : Int)) % 36)]⟩ : Str) = s1 at ix
      have sl : s1.length = 1 := by rw [← hs]; rfl
      have c1 := cut_len base none (some at')
      have c2 := cut_len base (some (at' + 1)) none
      have a1 := p_sls (s := base) (by omega) none (some at')
      have a2 := p_sls (s := base) (by omega) (some (at' + 1)) none
      generalize cutS base none (some at') = x at *
      generalize cutS base (some (at' + 1)) none = y at *
      have c3 := len_app x s1
      have c4 := len_app (x ++ s1) y
      have hle : ss.length ≤ 8 := by omega
      simp_arith [f_law_pool_1, g, ix, a1, a2]
      refine ⟨ss ++ [x ++ s1 ++ y], _, _, by simp [q1], fun s hs => ?_, by rw [List.map_append]; rfl⟩
      rcases List.mem_append.mp hs with hs | hs
      · exact q2 s hs
      · rw [List.mem_singleton.mp hs]
        show _ ≤ 1000
        omega
    · obtain ⟨ss, s5, s9, q1, q2, rfl⟩ := he
      simp_arith
      exact ⟨ss, by omega, q2, .inl rfl⟩
theorem value_eq (k : Nat) {x : Int} (hx : 0 ≤ x) (hx2 : x < 2147483647) {m : Nat} (hm : 0 < m) : ∃ v : Vl, ltV m v ∧ pg.call (k + 1) 13 [.int x, .int m] = .ok (.val v.d) := by
  suffices h : Wp (pg.call (k + 1) 13 [.int x, .int m]) (fun r => ∃ v : Vl, ltV m v ∧ r = .val v.d) noE by
    obtain ⟨r, h1, v, h2, rfl⟩ := h.ex
    exact ⟨v, h2, h1⟩
  rw [c_law_value, w_fin]
  simp_arith [b_law_value]
  refine dec_k (fun h => ?_) (fun h => ?_)
  · have h4 := Int.emod_nonneg (x / 10) (show (m : Int) ≠ 0 by omega)
    have h5 := Int.emod_lt_of_pos (x / 10) (show (0 : Int) < m by omega)
    have h3 : (((x / 10 % (m : Int)).toNat : Nat) : Int) = x / 10 % m := by omega
    simp_arith
    exact ⟨.lnk (x / 10 % (m : Int)).toNat, (fun i z => by have z := Option.some.inj z; omega), by rw [Vl.d, h3]⟩
  simp_arith
  refine dec_k (fun h2 => ?_) (fun h2 => ?_)
  · simp_arith
    exact ⟨.non, (fun _ z => by cases z), rfl⟩
  simp_arith
  refine dec_k (fun h3 => ?_) (fun h3 => ?_)
  · simp_arith
    exact ⟨.int _, (fun _ z => by cases z), rfl⟩
  have hp : ∃ P : Int, opBin .pow (.int (x / 10)) (.int 7) = .ok (.val (.int P)) := ⟨_, op_pow_i (by omega) (by omega) (by omega)⟩
  obtain ⟨P, hp⟩ := hp
  have ht : ∃ T : Int, 0 < T ∧ opBin .pow (.int 10) (.int 60) = .ok (.val (.int T)) := ⟨10 ^ 60, by decide +kernel, op_pow_i (by omega) (by omega) (by decide +kernel)⟩
  obtain ⟨T, t0, ht⟩ := ht
  simp_arith [hp, ht, -op_pow_i]
  exact ⟨.int _, (fun _ z => by cases z), rfl⟩
theorem values_ex (k : Nat) {x : Int} (hx : 0 ≤ x) {n m : Nat} (hn : n ≤ 12) (hm : 0 < m) : ∃ vs : List Vl, vs.length = n ∧ (∀ v ∈ vs, ltV m v) ∧ pg.call (k + 2) 14 [.int x, .int n, .int m] = .ok (.val (.lst (vs.map Vl.d))) := by
  suffices h : Wp (pg.call (k + 2) 14 [.int x, .int n, .int m]) (fun r => ∃ vs : List Vl, vs.length = n ∧ (∀ v ∈ vs, ltV m v) ∧ r = .val (.lst (vs.map Vl.d))) noE by
    obtain ⟨r, h1, v, h2, h3, rfl⟩ := h.ex
    exact ⟨v, h2, h3, h1⟩
  rw [c_law_values, w_fin]
  simp_arith [b_law_values]
  refine for_rng (fun j e => ∃ (x' : Int) (vs : List Vl) (s4 : Slot), vs.length = j ∧ (∀ v ∈ vs, ltV m v) ∧ e = [.val (.int x'), .val (.int n), .val (.int m), .own (.lst (vs.map Vl.d)), s4]) ⟨_, [], _, rfl, by simp, rfl⟩ (fun j e hj he => ?_) (fun e he => ?_)
  · obtain ⟨x', vs, s4, h1, h2, rfl⟩ := he
    generalize hy : x' * 48271 = y
    obtain ⟨v, v1, v2⟩ := value_eq k (x := y % 2147483647) (by omega) (by omega) hm
    simp_arith [f_law_values_0, hy, e_law_value, v2]
    refine ⟨_, vs ++ [v], _, by simp [h1], fun u hu => ?_, by rw [List.map_append]; rfl⟩
    rcases List.mem_append.mp hu with hu | hu
    · exact h2 u hu
    · rw [List.mem_singleton.mp hu]; exact v1
  · obtain ⟨x', vs, s4, h1, h2, rfl⟩ := he
    simp_arith
    exact ⟨vs, by omega, h2, rfl⟩
theorem four_ix {a b c d : Str} {i : Int} (h0 : 0 ≤ i) (h : i < 4) : ∃ s : Str, opIdx (.lst [.str a, .str b, .str c, .str d]) (.int i) = .ok (.str s) := by
  have : i = 0 ∨ i = 1 ∨ i = 2 ∨ i = 3 := by omega
  rcases this with rfl | rfl | rfl | rfl
  · exact ⟨a, rfl⟩
  · exact ⟨b, rfl⟩
  · exact ⟨c, rfl⟩
  · exact ⟨d, rfl⟩
theorem lit_len : (" 0" : Str).length = 2 := by decide +kernel
theorem eight_ix {i : Int} (h0 : 0 ≤ i) (h : i < 8) : ∃ n : Nat, n ≤ 12 ∧ opIdx (.lst [.int 0, .int 1, .int 2, .int 2, .int 3, .int 2, .int 3, .int 1]) (.int i) = .ok (.int (n : Nat)) := by
  have : i = 0 ∨ i = 1 ∨ i = 2 ∨ i = 3 ∨ i = 4 ∨ i = 5 ∨ i = 6 ∨ i = 7 := by omega
  rcases this with rfl | rfl | rfl | rfl | rfl | rfl | rfl | rfl
  · exact ⟨0, by omega, rfl⟩
  · exact ⟨1, by omega, rfl⟩
  · exact ⟨2, by omega, rfl⟩
  · exact ⟨2, by omega, rfl⟩
  · exact ⟨3, by omega, rfl⟩
  · exact ⟨2, by omega, rfl⟩
  · exact ⟨3, by omega, rfl⟩
  · exact ⟨1, by omega, rfl⟩
theorem pairs_ex {n : Nat} (f : Nat → Str) {vs : List Vl} (h : vs.length = n) : (List.range n).map (fun j => D.tup [.str (f j), (vs.map Vl.d).getD j .non]) = pairsD (dPs (((List.range n).map f).zip vs)) := by
  apply List.ext_getElem?
  intro j
  simp only [pairsD, dPs, List.getElem?_map]
  by_cases hj : j < n
  · have e1 : (List.range n)[j]? = some j := by rw [List.getElem?_eq_getElem (by simpa using hj)]; simp
    have e2 : (((List.range n).map f).zip vs)[j]? = some (f j, vs[j]'(by omega)) := by
      rw [List.getElem?_zip_eq_some]
      exact ⟨by rw [List.getElem?_map, e1]; rfl, List.getElem?_eq_getElem (by omega)⟩
    rw [e1, e2]
    simp only [Option.map_some]
    rw [List.getD_eq_getElem?_getD, List.getElem?_map, List.getElem?_eq_getElem (show j < vs.length by omega)]
    rfl
  · rw [List.getElem?_eq_none (by simpa using hj), List.getElem?_eq_none (by rw [List.length_zip, List.length_map, List.length_range]; omega)]
    rfl
theorem part_eq (k : Nat) {x : Int} (hx : 0 ≤ x) {m : Nat} {vs : List Vl} (hl : vs.length ≤ 12) (hv : ∀ v ∈ vs, ltV m v) {ss : List Str} (hs : ss.length = 8) (hs2 : ∀ s ∈ ss, sOk s) : ∃ p : Pa, ltP m p ∧ pg.call (k + 1) 15 [.int x, .lst (vs.map Vl.d), .lst (ss.map D.str)] = .ok (.val p.pt.d) := by
  suffices h : Wp (pg.call (k + 1) 15 [.int x, .lst (vs.map Vl.d), .lst (ss.map D.str)]) (fun r => ∃ p : Pa, ltP m p ∧ r = .val p.pt.d) noE by
    obtain ⟨r, h1, p, h2, rfl⟩ := h.ex
    exact ⟨p, h2, h1⟩
  rw [c_law_part, w_fin]
  have nm : ∀ i : Int, 0 ≤ i → i < 8 → opIdx (.lst (ss.map D.str)) (.int i) = .ok (.str (ss.getD i.toNat ⟨#[]⟩)) ∧ sOk (ss.getD i.toNat ⟨#[]⟩) := fun i h0 h1 => by
    have hlt : i.toNat < ss.length := by omega
    have e : ss.getD i.toNat ⟨#[]⟩ = ss[i.toNat] := by rw [List.getD_eq_getElem?_getD, List.getElem?_eq_getElem hlt]; rfl
    rw [e]
    exact ⟨idx_l h0 (by rw [List.getElem?_map, List.getElem?_eq_getElem hlt]; rfl), hs2 _ (List.getElem_mem _)⟩
  obtain ⟨n0, n1⟩ := nm 0 (by omega) (by omega)
  have l3 := lit_len
  have n1 : (ss.getD (0 : Int).toNat ⟨#[]⟩).length ≤ 1000 := n1
  have hok : ∀ ps : List (Str × Vl), ps.map (·.2) = vs → ltP m (.table ps) ∧ ∀ c, ltP m (.rcd c ps) := fun ps e => ⟨ltP_of (show (ps.map (·.2)).length ≤ 12 by rw [e]; exact hl) (by show ∀ v ∈ ps.map (·.2), _; rw [e]; exact hv), fun c => ltP_of (show (ps.map (·.2)).length ≤ 12 by rw [e]; exact hl) (by show ∀ v ∈ ps.map (·.2), _; rw [e]; exact hv)⟩
  simp_arith [b_law_part]
  refine dec_k (fun h => ?_) (fun h => ?_)
  · generalize hw : (ss.getD (0 : Int).toNat ⟨#[]⟩) = w0 at *
    obtain ⟨s, s2⟩ := four_ix (a := "") (b := "a") (c := " a") (d := w0 ++ " 0") (i := x / 16 % 4) (by omega) (by omega)
    simp_arith [n0, s2]
    exact ⟨.text s, ltP_of (by simp [Pa.few, Pa.vals]) (by simp [Pa.vals]), rfl⟩
  simp_arith
  refine dec_k (fun h2 => ?_) (fun h2 => ?_)
  · simp_arith
    exact ⟨.row vs, ltP_of hl hv, rfl⟩
  simp_arith
  refine lc_range (fun (j : Nat) => .tup [.str (ss.getD ((x / 8 % 2 * 3 + (j : Int)) % 8).toNat ⟨#[]⟩), (vs.map Vl.d).getD j .non]) (by simp; omega) (fun j hj => ?_) ?_
  · obtain ⟨q1, _⟩ := nm ((x / 8 % 2 * 3 + (j : Int)) % 8) (by omega) (by omega)
    have q2 := idx_pl (ds := vs.map Vl.d) (i := (j : Int)) (by omega) (by simpa using hj)
    rw [Int.toNat_natCast] at q2
    simp_arith [q1, q2]
  rw [List.length_map, show ((vs.length : Nat) : Int).toNat = vs.length by omega, pairs_ex (fun (j : Nat) => ss.getD ((x / 8 % 2 * 3 + (j : Int)) % 8).toNat ⟨#[]⟩) rfl]
  have e2 : (((List.range vs.length).map fun (j : Nat) => ss.getD ((x / 8 % 2 * 3 + (j : Int)) % 8).toNat ⟨#[]⟩).zip vs).map (·.2) = vs := zip_snds (by simp)
  obtain ⟨o1, o2⟩ := hok _ e2
  generalize ((List.range vs.length).map fun (j : Nat) => ss.getD ((x / 8 % 2 * 3 + (j : Int)) % 8).toNat ⟨#[]⟩).zip vs = ps at *
  simp_arith
  refine dec_k (fun h3 => ?_) (fun h3 => ?_)
  · simp_arith
    exact ⟨.table ps, o1, rfl⟩
  · obtain ⟨q1, _⟩ := nm (x / 16 % 2) (by omega) (by omega)
    simp_arith [q1]
    exact ⟨.rcd _ ps, o2 _, rfl⟩
theorem two_ix (b : Bool) : ∃ n : Nat, n ≤ 12 ∧ opIdx (.lst [.int 8, .int 12]) (.int (if b = true then 1 else 0)) = .ok (.int (n : Nat)) := by
  cases b
  · exact ⟨8, by omega, rfl⟩
  · exact ⟨12, by omega, rfl⟩
theorem web_eq (k : Nat) {cs : List Int} (hc : 0 < cs.length) (hc2 : cs.length ≤ 1000) {m : Nat} (h0 : 0 < m) (h1 : m ≤ 60) {ss : List Str} (hs : ss.length = 8) (hs2 : ∀ s ∈ ss, sOk s) : ∃ W : List Pa, W.length = m ∧ okW W ∧ pg.call (k + 3) 16 [.lst (cs.map D.int), .int m, .lst (ss.map D.str)] = .ok (.val (.tup (webD W))) := by
  suffices h : Wp (pg.call (k + 3) 16 [.lst (cs.map D.int), .int m, .lst (ss.map D.str)]) (fun r => ∃ W : List Pa, W.length = m ∧ okW W ∧ r = .val (.tup (webD W))) noE by
    obtain ⟨r, h1, p, h2, h3, rfl⟩ := h.ex
    exact ⟨p, h2, h3, h1⟩
  rw [c_law_web, w_fin]
  simp_arith [b_law_web]
  refine for_rng (fun j e => ∃ (W : List Pa) (s4 s5 s6 s7 : Slot), W.length = j ∧ (∀ p ∈ W, ltP m p) ∧ e = [.val (.lst (cs.map D.int)), .val (.int m), .val (.lst (ss.map D.str)), .own (.lst (webD W)), s4, s5, s6, s7]) ⟨[], _, _, _, _, rfl, by simp, rfl⟩ (fun j e hj he => ?_) (fun e he => ?_)
  · obtain ⟨W, s4, s5, s6, s7, w1, w2, rfl⟩ := he
    have c0 := Int.emod_nonneg (j : Int) (show (cs.length : Int) ≠ 0 by omega)
    have c1 := Int.emod_lt_of_pos (j : Int) (show 0 < (cs.length : Int) by omega)
    have cl : (cs.map D.int).length = cs.length := by simp
    have c2 : ∃ c : Int, opIdx (.lst (cs.map D.int)) (.int ((j : Int) % (cs.length : Int))) = .ok (.int c) := ⟨cs[((j : Int) % (cs.length : Int)).toNat]'(by omega), idx_l c0 (by rw [List.getElem?_map, List.getElem?_eq_getElem (by omega)]; rfl)⟩
    obtain ⟨c, c2⟩ := c2
    have wl := web_len W
    obtain ⟨x, x0, x1, x2⟩ := mix_eq (k + 1) (c + (j : Int) * ((j : Int) / (cs.length : Int))) (j := (j : Int)) (by omega) (by omega)
    obtain ⟨n0, n1, n2⟩ := eight_ix (i := x / 32 % 8) (by omega) (by omega)
    simp_arith [f_law_web_0, cl, c2, e_law_mix, x2, n2, -w_if]
    refine mid (fun e => ∃ n : Nat, n ≤ 12 ∧ e = [.val (.lst (cs.map D.int)), .val (.int m), .val (.lst (ss.map D.str)), .own (.lst (webD W)), .val (.int j), .val (.int x), .val (.int n), s7]) ?_ ?_
    · simp_arith
      refine dec_k (fun h => ?_) (fun h => ?_)
      · obtain ⟨n, m1, m2⟩ := two_ix (decide (x % 8 < 4))
        simp_arith [m2]
        exact ⟨n, m1, rfl⟩
      · simp_arith
        exact ⟨n0, n1, rfl⟩
    rintro e ⟨n, hn, rfl⟩
    obtain ⟨vs, v1, v2, v3⟩ := values_ex k (x := x / 8 + 1) (by omega) hn h0
    obtain ⟨p, p1, p2⟩ := part_eq (k + 1) x0 (by omega) v2 hs hs2
    simp_arith [e_law_values, v3, e_law_part, p2]
    refine ⟨W ++ [p], _, _, _, _, by simp [w1], fun q hq => ?_, by rw [webD, webD, List.map_append]; rfl⟩
    rcases List.mem_append.mp hq with hq | hq
    · exact w2 q hq
    · rw [List.mem_singleton.mp hq]; exact p1
  · obtain ⟨W, s4, s5, s6, s7, w1, w2, rfl⟩ := he
    simp_arith
    have wl : W.length = m := by omega
    exact ⟨W, wl, ⟨by omega, fun p hp => by rw [wl]; exact w2 p hp⟩, rfl⟩

end PyI.K22

end
section
namespace PyI.K22
open PySem PySem.Spec PyProof.Rows L2
local macro_rules | `(tactic| simp_arith [$ts,*]) => `(tactic| simp (disch := first | assumption | omega | (simp only [List.length_cons, List.length_nil, List.length_append, List.length_map, List.length_range, List.length_take, List.length_drop, List.length_reverse, List.length_set]; omega)) only [w_var, w_kI, w_kS, w_kB, w_kN, w_glob, w_of, w_bin, w_binA, w_binB, w_binC, w_neg, w_negA, w_negB, w_not, w_notA, w_cmp, w_cmpA, w_cmpB, w_cmpC, w_cmp2, w_c2A, w_c2B, w_c2Dt, w_c2Df, w_c2E, w_and, w_andT, w_andF, w_or, w_orT, w_orF, w_ite, w_iteT, w_iteF, w_tup, w_tupA, w_tupC, w_lst, w_lstA, w_lstC, w_dk0, w_dt0, w_nil, w_cons, w_consA, w_consB, w_idx, w_idxA, w_idxB, w_idxC, w_sl, w_slA, w_slB, w_slC, w_slD, w_pN, w_pK, w_pV, w_pI, w_pB, w_pM, w_pX, w_pBi, w_pC, w_pG, w_call, w_callA, w_callF, w_callT, w_lent, w_bi, w_biA, w_biC, w_me, w_meA, w_meB, w_meC, w_mu, w_muB, w_muC, w_muK, w_opK, w_dK, w_blK, w_lc, w_iRng, w_rngA, w_rng1, w_rng2, w_itA, w_itB, w_itC, w_itV, w_itG, w_itS, w_itBin, w_itTup, w_itLst, w_itIdx, w_itSl, w_itCall, w_itBi, w_itMe, w_itLc, w_enum, w_enA, w_enB, w_irev, w_rvA, w_rvBl, w_rvBt, w_izip, w_zpA, w_zpB, w_zpll, w_zplt, w_zptl, w_zptt, w_pass, w_done, w_expr, w_exprK, w_asg, w_asgV, w_asgN, w_asgT, w_asgTK, w_asgTC, w_put, w_putA, w_putE, w_putB, w_putC, w_putD, w_if, w_ifT, w_ifF, w_for, w_ret, w_retK, w_retC, w_retN, w_frz, w_seq, w_seqN, w_seqR, w_fin, w_finN, w_finRv, w_finRn, w_turnN, w_turnR, w_eltV, w_eltN, w_isB, w_whT, w_whF, get_val, get_new, get_ref', out_val, out_new, out_ref', noRef_nil, noRef_val, noRef_new, deref_nil, deref_val, deref_new, deref_ref, anyRef_nil, anyRef_val, anyRef_new, anyRef_ref, refsOf_nil, refsOf_val, refsOf_new, refsOf_ref, Option.map_some, Option.bind_some, cell_lst, cell_dK, cell_dT, List.set_cons_zero, List.set_cons_succ, List.getElem?_cons_zero, List.getElem?_cons_succ, wp_ok, Out.val_ok, op_add_i, op_sub_i, p_mulr, p_mull, op_mod_i, op_fdiv_i, op_pow_i, opNeg_i, lt_i, le_i, gt_i, ge_i, eq_ii, ne_ii, p_eqs, p_nes, eq_bb, ne_bb, isI_int, isI_str, isI_bl, isI_tup, isI_lst, isI_non, isI_dK, is_int, is_bl, is_str, is_tup, is_lst, is_dK, is_non, List.any_cons, List.any_nil, Bool.or_false, Bool.false_or, Bool.true_or, Bool.or_true, Bool.not_true, Bool.not_false, List.nil_append, List.cons_append, List.append_nil, decide_true, decide_false, listRev_l, tuple_l, tuple_t, list_l, list_t, len_l, len_t, p_lens, min_i, max_i, int_i, int_b, abs_i, sl_l, sl_t, p_sls, mu_append', mu_clear, items_l, items_t, items_s, bind_one, bind_two, idx_t0, idx_t1, idx_2l, idx_3l, cut_2l, cut_3l, wipeS_nil, wipeS_cons, backS_nil, backS_cons, p_isN_non, p_notN_non, solid_int, solid_str, solid_bl, solid_non, solid_tup, solidL_nil, solidL_cons, isNon_non, isNon_int, isNon_tup, isNon_lst, isNon_str, isNon_bl, p_extend, p_pop, idx_last, if_true, if_false, eq_self, Bool.false_eq_true, List.getD_cons_zero, List.getD_cons_succ, m_append, m_extend, m_insert, m_pop, m_popAt, m_clear, m_reverse, m_sdK, m_sdT, n_join, n_startswith, n_split, n_partition, n_index, n_sidx, n_getK, n_getT, n_getOrK, n_getOrT, List.length_cons, List.length_nil, p_cast, Nat.reduceAdd, Int.reduceEq, Int.reduceLT, Int.reduceLE, Int.reduceAdd, Int.reduceSub, Int.reduceMul, k_text_row, k_text_table, k_text_record, k_row_text, k_row_table, k_row_record, k_table_text, k_table_row, k_table_record, k_record_text, k_record_row, k_record_table, l_bl, l_int, l_str, l_non, lrng_1, lrng_2, w_gIx, w_gAt, p_addl, p_addt, p_adds, w_dispK, w_dispT, w_diA, w_diB, w_diC, w_diD, dis_i, dis_s, dis_t2, w_revL, w_rvlA, w_rvlC, w_isE, w_isEA, w_isEC, w_isEB, subAny_nil, w_atE, w_atA, w_raise, w_rsA, w_try, w_tryK, w_tryHn, w_tryHs, wp_exc, w_iez, w_ezA, w_ezB, w_ezC, w_callM, w_cmA, w_cmB, w_cmCr, w_cmCn, w_cmD, lastR_one, lastR_more, valRs_nil, valRs_cons, ownAt_eq, ownS_own, selfR_some, selfR_none, selfN_some, selfN_none, w_finM, w_fmN, w_fmRv, w_fmRr, w_fmC, w_retM, w_rmO, $ts,*])
local macro_rules | `(tactic| simp_arith) => `(tactic| simp (disch := first | assumption | omega | (simp only [List.length_cons, List.length_nil, List.length_append, List.length_map, List.length_range, List.length_take, List.length_drop, List.length_reverse, List.length_set]; omega)) only [w_var, w_kI, w_kS, w_kB, w_kN, w_glob, w_of, w_bin, w_binA, w_binB, w_binC, w_neg, w_negA, w_negB, w_not, w_notA, w_cmp, w_cmpA, w_cmpB, w_cmpC, w_cmp2, w_c2A, w_c2B, w_c2Dt, w_c2Df, w_c2E, w_and, w_andT, w_andF, w_or, w_orT, w_orF, w_ite, w_iteT, w_iteF, w_tup, w_tupA, w_tupC, w_lst, w_lstA, w_lstC, w_dk0, w_dt0, w_nil, w_cons, w_consA, w_consB, w_idx, w_idxA, w_idxB, w_idxC, w_sl, w_slA, w_slB, w_slC, w_slD, w_pN, w_pK, w_pV, w_pI, w_pB, w_pM, w_pX, w_pBi, w_pC, w_pG, w_call, w_callA, w_callF, w_callT, w_lent, w_bi, w_biA, w_biC, w_me, w_meA, w_meB, w_meC, w_mu, w_muB, w_muC, w_muK, w_opK, w_dK, w_blK, w_lc, w_iRng, w_rngA, w_rng1, w_rng2, w_itA, w_itB, w_itC, w_itV, w_itG, w_itS, w_itBin, w_itTup, w_itLst, w_itIdx, w_itSl, w_itCall, w_itBi, w_itMe, w_itLc, w_enum, w_enA, w_enB, w_irev, w_rvA, w_rvBl, w_rvBt, w_izip, w_zpA, w_zpB, w_zpll, w_zplt, w_zptl, w_zptt, w_pass, w_done, w_expr, w_exprK, w_asg, w_asgV, w_asgN, w_asgT, w_asgTK, w_asgTC, w_put, w_putA, w_putE, w_putB, w_putC, w_putD, w_if, w_ifT, w_ifF, w_for, w_ret, w_retK, w_retC, w_retN, w_frz, w_seq, w_seqN, w_seqR, w_fin, w_finN, w_finRv, w_finRn, w_turnN, w_turnR, w_eltV, w_eltN, w_isB, w_whT, w_whF, get_val, get_new, get_ref', out_val, out_new, out_ref', noRef_nil, noRef_val, noRef_new, deref_nil, deref_val, deref_new, deref_ref, anyRef_nil, anyRef_val, anyRef_new, anyRef_ref, refsOf_nil, refsOf_val, refsOf_new, refsOf_ref, Option.map_some, Option.bind_some, cell_lst, cell_dK, cell_dT, List.set_cons_zero, List.set_cons_succ, List.getElem?_cons_zero, List.getElem?_cons_succ, wp_ok, Out.val_ok, op_add_i, op_sub_i, p_mulr, p_mull, op_mod_i, op_fdiv_i, op_pow_i, opNeg_i, lt_i, le_i, gt_i, ge_i, eq_ii, ne_ii, p_eqs, p_nes, eq_bb, ne_bb, isI_int, isI_str, isI_bl, isI_tup, isI_lst, isI_non, isI_dK, is_int, is_bl, is_str, is_tup, is_lst, is_dK, is_non, List.any_cons, List.any_nil, Bool.or_false, Bool.false_or, Bool.true_or, Bool.or_true, Bool.not_true, Bool.not_false, List.nil_append, List.cons_append, List.append_nil, decide_true, decide_false, listRev_l, tuple_l, tuple_t, list_l, list_t, len_l, len_t, p_lens, min_i, max_i, int_i, int_b, abs_i, sl_l, sl_t, p_sls, mu_append', mu_clear, items_l, items_t, items_s, bind_one, bind_two, idx_t0, idx_t1, idx_2l, idx_3l, cut_2l, cut_3l, wipeS_nil, wipeS_cons, backS_nil, backS_cons, p_isN_non, p_notN_non, solid_int, solid_str, solid_bl, solid_non, solid_tup, solidL_nil, solidL_cons, isNon_non, isNon_int, isNon_tup, isNon_lst, isNon_str, isNon_bl, p_extend, p_pop, idx_last, if_true, if_false, eq_self, Bool.false_eq_true, List.getD_cons_zero, List.getD_cons_succ, m_append, m_extend, m_insert, m_pop, m_popAt, m_clear, m_reverse, m_sdK, m_sdT, n_join, n_startswith, n_split, n_partition, n_index, n_sidx, n_getK, n_getT, n_getOrK, n_getOrT, List.length_cons, List.length_nil, p_cast, Nat.reduceAdd, Int.reduceEq, Int.reduceLT, Int.reduceLE, Int.reduceAdd, Int.reduceSub, Int.reduceMul, k_text_row, k_text_table, k_text_record, k_row_text, k_row_table, k_row_record, k_table_text, k_table_row, k_table_record, k_record_text, k_record_row, k_record_table, l_bl, l_int, l_str, l_non, lrng_1, lrng_2, w_gIx, w_gAt, p_addl, p_addt, p_adds, w_dispK, w_dispT, w_diA, w_diB, w_diC, w_diD, dis_i, dis_s, dis_t2, w_revL, w_rvlA, w_rvlC, w_isE, w_isEA, w_isEC, w_isEB, subAny_nil, w_atE, w_atA, w_raise, w_rsA, w_try, w_tryK, w_tryHn, w_tryHs, wp_exc, w_iez, w_ezA, w_ezB, w_ezC, w_callM, w_cmA, w_cmB, w_cmCr, w_cmCn, w_cmD, lastR_one, lastR_more, valRs_nil, valRs_cons, ownAt_eq, ownS_own, selfR_some, selfR_none, selfN_some, selfN_none, w_finM, w_fmN, w_fmRv, w_fmRr, w_fmC, w_retM, w_rmO])

/-! ### values, head (shared) -/
theorem lvals_eq (k : Nat) (p : Pt) (hp : p.few) : pg.call (k + 1) 17 [p.d] = .ok (.new (.lst p.vals)) := by
  rw [c_law_vals]
  cases p with
  | text w => simp [b_law_vals, evT_eq, Pt.d, Pt.vals, idx_t0]
  | row vs => simp [b_law_vals, evT_eq, Pt.d, Pt.vals, idx_t0, idx_t1, ne_rt]
  | table ps =>
    have hl := lc_pairs (cx := pg.cx k) (env := [.val (Pt.table ps).d, .emp, .emp]) (env1 := [.val (Pt.table ps).d, .emp, .emp]) (e := .var 2) (src := .idx (.var 0) (.neg (.kI 1))) (i := 1) (j := 2) ps (fun _ d => d)
      (by simp [Pt.d, idx_2l]) (by have : ps.length ≤ 1000 := hp; omega) (fun n d => by simp [wipeS]) (fun n d => rfl)
    simp [b_law_vals, evT_eq, Pt.d, idx_t0, ne_tt, ne_tr]
    simp only [Pt.d] at hl
    rw [hl]
    simp [Pt.vals]
  | rcd c ps =>
    have hl := lc_pairs (cx := pg.cx k) (env := [.val (Pt.rcd c ps).d, .emp, .emp]) (env1 := [.val (Pt.rcd c ps).d, .emp, .emp]) (e := .var 2) (src := .idx (.var 0) (.neg (.kI 1))) (i := 1) (j := 2) ps (fun _ d => d)
      (by simp [Pt.d, idx_3l]) (by have : ps.length ≤ 1000 := hp; omega) (fun n d => by simp [wipeS]) (fun n d => rfl)
    simp [b_law_vals, evT_eq, Pt.d, idx_t0, ne_ct, ne_cr]
    simp only [Pt.d] at hl
    rw [hl]
    simp [Pt.vals]
theorem ne_xr : (("text" : Str) == "row") = false := by decide +kernel
theorem lhead_eq (k : Nat) (p : Pt) (hp : p.few) : pg.call (k + 1) 18 [p.d] = .ok (.val p.head) := by
  rw [c_law_head]
  cases p with
  | text w => simp [b_law_head, evT_eq, Pt.d, Pt.head, idx_t0, ne_xr]
  | row vs => simp [b_law_head, evT_eq, Pt.d, Pt.head, idx_t0, idx_t1, ne_rt]
  | table ps =>
    have hl := lc_pairs (cx := pg.cx k) (env := [.val (Pt.table ps).d, .emp, .emp]) (env1 := [.val (Pt.table ps).d, .emp, .emp]) (e := .var 1) (src := .idx (.var 0) (.neg (.kI 1))) (i := 1) (j := 2) ps (fun n _ => .str n)
      (by simp [Pt.d, idx_2l]) (by have : ps.length ≤ 1000 := hp; omega) (fun n d => by simp [wipeS]) (fun n d => rfl)
    simp only [Pt.d] at hl
    simp [b_law_head, evT_eq, Pt.d, idx_t0, ne_tt, ne_tr, evP_neg, cut_2l, hl]
    simp [Pt.head, namesD]
  | rcd c ps =>
    have hl := lc_pairs (cx := pg.cx k) (env := [.val (Pt.rcd c ps).d, .emp, .emp]) (env1 := [.val (Pt.rcd c ps).d, .emp, .emp]) (e := .var 1) (src := .idx (.var 0) (.neg (.kI 1))) (i := 1) (j := 2) ps (fun n _ => .str n)
      (by simp [Pt.d, idx_3l]) (by have : ps.length ≤ 1000 := hp; omega) (fun n d => by simp [wipeS]) (fun n d => rfl)
    simp only [Pt.d] at hl
    simp [b_law_head, evT_eq, Pt.d, idx_t0, ne_ct, ne_cr, evP_neg, cut_3l, hl]
    simp [Pt.head, namesD]
theorem lvals_v (k : Nat) {p : Pa} (hp : p.few) : pg.call (k + 1) 17 [p.pt.d] = .ok (.new (.lst (p.vals.map Vl.d))) := by rw [lvals_eq k p.pt (pt_few hp), pt_vals]
theorem vals_v (k : Nat) {p : Pa} (hp : p.few) : pg.call (k + 1) 2 [p.pt.d] = .ok (.new (.lst (p.vals.map Vl.d))) := by rw [values_eq k p.pt (pt_few hp), pt_vals]
theorem range_getD {l : List Str} {n : Nat} (h : l.length = n) : (List.range n).map (fun j => l.getD j ⟨#[]⟩) = l := by
  apply List.ext_getElem?
  intro j
  rw [List.getElem?_map]
  by_cases hj : j < n
  · rw [List.getElem?_range hj, List.getElem?_eq_getElem (by omega)]
    simp [List.getD_eq_getElem?_getD, List.getElem?_eq_getElem (show j < l.length by omega)]
  · rw [List.getElem?_eq_none (by simpa using hj), List.getElem?_eq_none (by omega)]; rfl
theorem ps_ix {ps : List (Str × Vl)} {j : Nat} (h : j < ps.length) : ∃ v : Vl, opIdx (.tup (pairsD (dPs ps))) (.int (j : Nat)) = .ok (.tup [.str ((ps.map (·.1)).getD j ⟨#[]⟩), v.d]) := by
  refine ⟨ps[j].2, idx_tt (by omega) ?_⟩
  rw [Int.toNat_natCast, pairsD, dPs, List.getElem?_map, List.getElem?_map, List.getElem?_eq_getElem h, List.getD_eq_getElem?_getD, List.getElem?_map, List.getElem?_eq_getElem h]
  rfl
theorem lwith_eq (k : Nat) {p : Pa} {us : List Vl} (hf : p.few) (hl : us.length = p.vals.length) : pg.call (k + 1) 19 [p.pt.d, .lst (us.map Vl.d)] = .ok (.val (p.wv us).pt.d) := by
  apply eq_of_wp
  rw [c_law_with, w_fin]
  have hf : p.vals.length ≤ 12 := hf
  cases p with
  | text w => simp_arith [b_law_with, Pa.pt, Pt.d, Pa.wv]
  | row vs => simp_arith [b_law_with, Pa.pt, Pt.d, Pa.wv]
  | table ps =>
    have hl : us.length = (ps.map (·.2)).length := hl
    have hf : (ps.map (·.2)).length ≤ 12 := hf
    rw [List.length_map] at hl hf
    simp_arith [b_law_with, Pa.pt, Pt.d]
    refine lc_range (fun (j : Nat) => .tup [.str ((ps.map (·.1)).getD j ⟨#[]⟩), (us.map Vl.d).getD j .non]) (by simp; omega) (fun j hj => ?_) ?_
    · rw [List.length_map] at hj
      obtain ⟨v, q1⟩ := ps_ix (ps := ps) (j := j) (by omega)
      have q2 := idx_pl (ds := us.map Vl.d) (i := (j : Int)) (by omega) (by simp; omega)
      rw [Int.toNat_natCast] at q2
      simp_arith [q1, q2]
    · rw [List.length_map, show ((us.length : Nat) : Int).toNat = us.length by omega, pairs_ex (fun (j : Nat) => (ps.map (·.1)).getD j ⟨#[]⟩) rfl, range_getD (by simpa using hl.symm)]
      simp_arith [Pa.wv, Pa.pt, Pt.d]
  | rcd c ps =>
    have hl : us.length = (ps.map (·.2)).length := hl
    have hf : (ps.map (·.2)).length ≤ 12 := hf
    rw [List.length_map] at hl hf
    simp_arith [b_law_with, Pa.pt, Pt.d]
    refine lc_range (fun (j : Nat) => .tup [.str ((ps.map (·.1)).getD j ⟨#[]⟩), (us.map Vl.d).getD j .non]) (by simp; omega) (fun j hj => ?_) ?_
    · rw [List.length_map] at hj
      obtain ⟨v, q1⟩ := ps_ix (ps := ps) (j := j) (by omega)
      have q2 := idx_pl (ds := us.map Vl.d) (i := (j : Int)) (by omega) (by simp; omega)
      rw [Int.toNat_natCast] at q2
      simp_arith [q1, q2]
    · rw [List.length_map, show ((us.length : Nat) : Int).toNat = us.length by omega, pairs_ex (fun (j : Nat) => (ps.map (·.1)).getD j ⟨#[]⟩) rfl, range_getD (by simpa using hl.symm)]
      simp_arith [Pa.wv, Pa.pt, Pt.d]
theorem nil_eq (vs : List Vl) : opCmp .eq (.lst (vs.map Vl.d)) (.lst []) = .ok (decide (vs = [])) := by
  cases vs with
  | nil => rfl
  | cons v vs =>
    rw [eq_d]
    · simp
    · unfold eqOk
      have : D.plainL ((v :: vs).map Vl.d) = true := plainL_all fun d hd => by
        obtain ⟨u, _, rfl⟩ := List.mem_map.mp hd; exact (vl_plain u).1
      simp only [plain_lst, this, plainL_nil, depth_lst, depthL_nil]
      simp
theorem changed_eq (k : Nat) {W : List Pa} (ok : okW W) (w0 : 0 < W.length) (c : Int) : ∃ W' : List Pa, okW W' ∧ W'.length = W.length ∧ pg.call (k + 2) 22 [.tup (webD W), .int c] = .ok (.val (.tup (webD W'))) := by
  suffices h : Wp (pg.call (k + 2) 22 [.tup (webD W), .int c]) (fun r => ∃ W' : List Pa, okW W' ∧ W'.length = W.length ∧ r = .val (.tup (webD W'))) noE by
    obtain ⟨r, h1, p, h2, h3, rfl⟩ := h.ex
    exact ⟨p, h2, h3, h1⟩
  rw [c_law_changed, w_fin]
  have wl := web_len W
  have c0 := Int.emod_nonneg c (show (W.length : Int) ≠ 0 by omega)
  have c1 := Int.emod_lt_of_pos c (show 0 < (W.length : Int) by omega)
  obtain ⟨i, hi⟩ : ∃ i : Nat, c % (W.length : Int) = i := ⟨(c % (W.length : Int)).toNat, by omega⟩
  rw [hi] at c0 c1
  have hlt : i < W.length := by omega
  have ix := web_idx (getD_ok hlt)
  have okp := ok.2 _ (getD_mem hlt)
  have L := lvals_v k okp.1
  have hf : (W.getD i noP).vals.length ≤ 12 := okp.1
  have hN := ok.1
  simp_arith [b_law_changed, wl, hi, ix, e_law_vals, L, nil_eq]
  refine dec_k (fun h => ?_) (fun h => ?_)
  · simp_arith
    exact ⟨W, ok, rfl, rfl⟩
  have v0 : 0 < (W.getD i noP).vals.length := List.length_pos_iff.mpr h
  have d0 := Int.emod_nonneg (c / 60) (show (((W.getD i noP).vals.length : Nat) : Int) ≠ 0 by omega)
  have d1 := Int.emod_lt_of_pos (c / 60) (show 0 < (((W.getD i noP).vals.length : Nat) : Int) by omega)
  obtain ⟨a, ha⟩ : ∃ a : Nat, c / 60 % (((W.getD i noP).vals.length : Nat) : Int) = a := ⟨(c / 60 % (((W.getD i noP).vals.length : Nat) : Int)).toNat, by omega⟩
  rw [ha] at d0 d1
  have vl : ((W.getD i noP).vals.map Vl.d).length = (W.getD i noP).vals.length := by simp
  obtain ⟨v, v1, v2⟩ := value_eq k (x := c / 240 % 1000000) (by omega) (by omega) w0
  have P : Cell.put (.lst ((W.getD i noP).vals.map Vl.d)) (.int (a : Nat)) v.d = some (.lst (((W.getD i noP).vals.set a v).map Vl.d)) := by
    show (ixN ((W.getD i noP).vals.map Vl.d).length (a : Int)).map (fun j => Cell.lst (((W.getD i noP).vals.map Vl.d).set j v.d)) = _
    rw [ixN_nn (by omega) (by rw [vl]; omega), Int.toNat_natCast, List.map_set]; rfl
  have Wt := lwith_eq k (us := (W.getD i noP).vals.set a v) okp.1 (by simp)
  have s1 : cutD (webD W) none (some (i : Int)) = webD (W.take i) := by rw [cut_hi, webD, webD, List.map_take]
  have s2 : cutD (webD W) (some ((i : Int) + 1)) none = webD (W.drop (i + 1)) := by
    rw [show ((i : Int) + 1) = ((i + 1 : Nat) : Int) by omega, cut_lo, webD, webD, List.map_drop]
  have sl1 := web_len (W.take i)
  have sl2 := web_len (W.drop (i + 1))
  rw [List.length_take] at sl1
  rw [List.length_drop] at sl2
  simp_arith [vl, ha, wl, e_law_value, v2, P, s1, s2, ix, e_law_with, Wt]
  have hp : ltP W.length ((W.getD i noP).wv ((W.getD i noP).vals.set a v)) := wv_lt (by simp) okp.1 fun u hu => by
    rcases List.mem_or_eq_of_mem_set hu with hu | rfl
    · exact ltP_vals okp u hu
    · exact v1
  have hlen : (W.take i ++ [(W.getD i noP).wv ((W.getD i noP).vals.set a v)] ++ W.drop (i + 1)).length = W.length := by simp; omega
  refine ⟨W.take i ++ [(W.getD i noP).wv ((W.getD i noP).vals.set a v)] ++ W.drop (i + 1), ⟨by rw [hlen]; exact hN, fun q hq => ?_⟩, hlen, by simp [webD]⟩
  rw [hlen]
  rcases List.mem_append.mp hq with hq | hq
  · rcases List.mem_append.mp hq with hq | hq
    · exact ok.2 q (List.mem_of_mem_take hq)
    · rw [List.mem_singleton.mp hq]; exact hp
  · exact ok.2 q (List.mem_of_mem_drop hq)

theorem cut_ints (ns : List Int) (lo hi : Option Int) : ∃ cs : List Int, cs.length ≤ ns.length ∧ cutD (ns.map D.int) lo hi = cs.map D.int := by
  unfold cutD
  rw [← List.map_drop, ← List.map_take]
  exact ⟨_, by simp; omega, rfl⟩
theorem most_ix {m : Nat} (m0 : 0 < m) (m1 : m ≤ 60) {i : Int} (h0 : 0 ≤ i) (h : i < 4) : ∃ n : Nat, 0 < n ∧ n ≤ 60 ∧ opIdx (.lst [.int 12, .int 12, .int m, .int 4]) (.int i) = .ok (.int n) := by
  have : i = 0 ∨ i = 1 ∨ i = 2 ∨ i = 3 := by omega
  rcases this with rfl | rfl | rfl | rfl
  · exact ⟨12, by omega, by omega, rfl⟩
  · exact ⟨12, by omega, by omega, rfl⟩
  · exact ⟨m, m0, m1, rfl⟩
  · exact ⟨4, by omega, by omega, rfl⟩
theorem drawn_web_eq (k : Nat) (ns : List Int) (hn : ns.length ≤ 63) {most : Nat} (m0 : 0 < most) (m1 : most ≤ 60) : ∃ W : List Pa, 0 < W.length ∧ W.length ≤ 60 ∧ okW W ∧ pg.call (k + 4) 21 [.lst (ns.map D.int), .int most] = .ok (.val (.tup (webD W))) := by
  suffices h : Wp (pg.call (k + 4) 21 [.lst (ns.map D.int), .int most]) (fun r => ∃ W : List Pa, (0 < W.length ∧ W.length ≤ 60 ∧ okW W) ∧ r = .val (.tup (webD W))) noE by
    obtain ⟨r, h1, W, ⟨a, b, c⟩, rfl⟩ := h.ex
    exact ⟨W, a, b, c, h1⟩
  rw [c_law_drawn_web, w_fin]
  obtain ⟨c0, a0⟩ := cell_eq (k + 2) ns (j := 0) (by omega)
  obtain ⟨c1, a1⟩ := cell_eq (k + 2) ns (j := 1) (by omega)
  obtain ⟨c2, a2⟩ := cell_eq (k + 2) ns (j := 2) (by omega)
  obtain ⟨c3, a3⟩ := cell_eq (k + 2) ns (j := 3) (by omega)
  obtain ⟨ss, s0, s1, r, hr, s2⟩ := pool_eq (k + 2) c0 c1
  obtain ⟨cs, q0, q1⟩ := cut_ints ns (some 9) (some 60)
  have e : cs.map D.int ++ [D.int c3] = (cs ++ [c3]).map D.int := by simp
  obtain ⟨u, u0, u1, u2⟩ := most_ix m0 m1 (i := c2 / 60 % 4) (by omega) (by omega)
  have c4 := Int.emod_nonneg c2 (show (u : Int) ≠ 0 by omega)
  have c5 := Int.emod_lt_of_pos c2 (show 0 < (u : Int) by omega)
  obtain ⟨m, hm⟩ : ∃ m : Nat, 1 + c2 % (u : Int) = m := ⟨(1 + c2 % (u : Int)).toNat, by omega⟩
  obtain ⟨W, w1, w2, w3⟩ := web_eq k (cs := cs ++ [c3]) (by simp) (by simp; omega) (m := m) (by omega) (by omega) s0 s1
  have ql : (cs.map D.int).length ≤ 63 := by simp; omega
  rcases hr with rfl | rfl
  · simp_arith [b_law_drawn_web, e_law_cell_at, a0, a1, a2, a3, e_law_pool, s2, q1, u2, hm, e_law_web, e, w3]
    exact ⟨W, ⟨by omega, by omega, w2⟩, rfl⟩
  · simp_arith [b_law_drawn_web, e_law_cell_at, a0, a1, a2, a3, e_law_pool, s2, q1, u2, hm, e_law_web, e, w3]
    exact ⟨W, ⟨by omega, by omega, w2⟩, rfl⟩

theorem lled_eq (k : Nat) {p : Pa} (hp : p.few) {φ : Nat → Nat} {dd : D} (h : ∀ i ∈ p.links, opIdx dd (.int (i : Nat)) = .ok (.int (φ i : Nat))) : pg.call (k + 2) 20 [p.pt.d, dd] = .ok (.val (p.re φ).pt.d) := by
  apply eq_of_wp
  rw [c_law_led, w_fin]
  have V := lvals_v k hp
  have hl : p.vals.length ≤ 12 := hp
  simp_arith [b_law_led, e_law_vals, V]
  refine for_map (fun us e => ∃ s3 : Slot, us.length ≤ 12 ∧ e = [.val p.pt.d, .val dd, .own (.lst ((us.map (Vl.re φ)).map Vl.d)), s3]) rfl ⟨_, by simp, rfl⟩ (fun us v e hv _ hul he => ?_) (fun e he => ?_)
  · obtain ⟨s3, g1, rfl⟩ := he
    have g2 : us.length + 1 ≤ 12 := by omega
    have g3 : ((us.map (Vl.re φ)).map Vl.d).length = us.length := by simp
    refine ⟨_, rfl, ?_⟩
    cases v with
    | non =>
      simp_arith [f_law_led_0, Vl.d]
      exact ⟨_, by simpa using g2, by rw [List.map_append, List.map_append]; rfl⟩
    | int i =>
      simp_arith [f_law_led_0, Vl.d]
      exact ⟨_, by simpa using g2, by rw [List.map_append, List.map_append]; rfl⟩
    | lnk i =>
      have g := h i (List.mem_filterMap.mpr ⟨_, hv, rfl⟩)
      simp_arith [f_law_led_0, Vl.d, g]
      exact ⟨_, by simpa using g2, by rw [List.map_append, List.map_append]; rfl⟩
  · obtain ⟨s3, g1, rfl⟩ := he
    have Wt := lwith_eq k (us := p.vals.map (Vl.re φ)) hp (by simp)
    rw [wv_re] at Wt
    simp_arith [e_law_with, Wt]

end PyI.K22

end
section
namespace PyI.K22
open PySem PySem.Spec PyProof.Rows L2
local macro_rules | `(tactic| simp_arith [$ts,*]) => `(tactic| simp (disch := first | assumption | omega | (simp only [List.length_cons, List.length_nil, List.length_append, List.length_map, List.length_range, List.length_take, List.length_drop, List.length_reverse, List.length_set]; omega)) only [w_var, w_kI, w_kS, w_kB, w_kN, w_glob, w_of, w_bin, w_binA, w_binB, w_binC, w_neg, w_negA, w_negB, w_not, w_notA, w_cmp, w_cmpA, w_cmpB, w_cmpC, w_cmp2, w_c2A, w_c2B, w_c2Dt, w_c2Df, w_c2E, w_and, w_andT, w_andF, w_or, w_orT, w_orF, w_ite, w_iteT, w_iteF, w_tup, w_tupA, w_tupC, w_lst, w_lstA, w_lstC, w_dk0, w_dt0, w_nil, w_cons, w_consA, w_consB, w_idx, w_idxA, w_idxB, w_idxC, w_sl, w_slA, w_slB, w_slC, w_slD, w_pN, w_pK, w_pV, w_pI, w_pB, w_pM, w_pX, w_pBi, w_pC, w_pG, w_call, w_callA, w_callF, w_callT, w_lent, w_bi, w_biA, w_biC, w_me, w_meA, w_meB, w_meC, w_mu, w_muB, w_muC, w_muK, w_opK, w_dK, w_blK, w_lc, w_iRng, w_rngA, w_rng1, w_rng2, w_itA, w_itB, w_itC, w_itV, w_itG, w_itS, w_itBin, w_itTup, w_itLst, w_itIdx, w_itSl, w_itCall, w_itBi, w_itMe, w_itLc, w_enum, w_enA, w_enB, w_irev, w_rvA, w_rvBl, w_rvBt, w_izip, w_zpA, w_zpB, w_zpll, w_zplt, w_zptl, w_zptt, w_pass, w_done, w_expr, w_exprK, w_asg, w_asgV, w_asgN, w_asgT, w_asgTK, w_asgTC, w_put, w_putA, w_putE, w_putB, w_putC, w_putD, w_if, w_ifT, w_ifF, w_for, w_ret, w_retK, w_retC, w_retN, w_frz, w_seq, w_seqN, w_seqR, w_fin, w_finN, w_finRv, w_finRn, w_turnN, w_turnR, w_eltV, w_eltN, w_isB, w_whT, w_whF, get_val, get_new, get_ref', out_val, out_new, out_ref', noRef_nil, noRef_val, noRef_new, deref_nil, deref_val, deref_new, deref_ref, anyRef_nil, anyRef_val, anyRef_new, anyRef_ref, refsOf_nil, refsOf_val, refsOf_new, refsOf_ref, Option.map_some, Option.bind_some, cell_lst, cell_dK, cell_dT, List.set_cons_zero, List.set_cons_succ, List.getElem?_cons_zero, List.getElem?_cons_succ, wp_ok, Out.val_ok, op_add_i, op_sub_i, p_mulr, p_mull, op_mod_i, op_fdiv_i, op_pow_i, opNeg_i, lt_i, le_i, gt_i, ge_i, eq_ii, ne_ii, p_eqs, p_nes, eq_bb, ne_bb, isI_int, isI_str, isI_bl, isI_tup, isI_lst, isI_non, isI_dK, is_int, is_bl, is_str, is_tup, is_lst, is_dK, is_non, List.any_cons, List.any_nil, Bool.or_false, Bool.false_or, Bool.true_or, Bool.or_true, Bool.not_true, Bool.not_false, List.nil_append, List.cons_append, List.append_nil, decide_true, decide_false, listRev_l, tuple_l, tuple_t, list_l, list_t, len_l, len_t, p_lens, min_i, max_i, int_i, int_b, abs_i, sl_l, sl_t, p_sls, mu_append', mu_clear, items_l, items_t, items_s, bind_one, bind_two, idx_t0, idx_t1, idx_2l, idx_3l, cut_2l, cut_3l, wipeS_nil, wipeS_cons, backS_nil, backS_cons, p_isN_non, p_notN_non, solid_int, solid_str, solid_bl, solid_non, solid_tup, solidL_nil, solidL_cons, isNon_non, isNon_int, isNon_tup, isNon_lst, isNon_str, isNon_bl, p_extend, p_pop, idx_last, if_true, if_false, eq_self, Bool.false_eq_true, List.getD_cons_zero, List.getD_cons_succ, m_append, m_extend, m_insert, m_pop, m_popAt, m_clear, m_reverse, m_sdK, m_sdT, n_join, n_startswith, n_split, n_partition, n_index, n_sidx, n_getK, n_getT, n_getOrK, n_getOrT, List.length_cons, List.length_nil, p_cast, Nat.reduceAdd, Int.reduceEq, Int.reduceLT, Int.reduceLE, Int.reduceAdd, Int.reduceSub, Int.reduceMul, k_text_row, k_text_table, k_text_record, k_row_text, k_row_table, k_row_record, k_table_text, k_table_row, k_table_record, k_record_text, k_record_row, k_record_table, l_bl, l_int, l_str, l_non, lrng_1, lrng_2, w_gIx, w_gAt, p_addl, p_addt, p_adds, w_dispK, w_dispT, w_diA, w_diB, w_diC, w_diD, dis_i, dis_s, dis_t2, w_revL, w_rvlA, w_rvlC, w_isE, w_isEA, w_isEC, w_isEB, subAny_nil, w_atE, w_atA, w_raise, w_rsA, w_try, w_tryK, w_tryHn, w_tryHs, wp_exc, w_iez, w_ezA, w_ezB, w_ezC, w_callM, w_cmA, w_cmB, w_cmCr, w_cmCn, w_cmD, lastR_one, lastR_more, valRs_nil, valRs_cons, ownAt_eq, ownS_own, selfR_some, selfR_none, selfN_some, selfN_none, w_finM, w_fmN, w_fmRv, w_fmRr, w_fmC, w_retM, w_rmO, $ts,*])
local macro_rules | `(tactic| simp_arith) => `(tactic| simp (disch := first | assumption | omega | (simp only [List.length_cons, List.length_nil, List.length_append, List.length_map, List.length_range, List.length_take, List.length_drop, List.length_reverse, List.length_set]; omega)) only [w_var, w_kI, w_kS, w_kB, w_kN, w_glob, w_of, w_bin, w_binA, w_binB, w_binC, w_neg, w_negA, w_negB, w_not, w_notA, w_cmp, w_cmpA, w_cmpB, w_cmpC, w_cmp2, w_c2A, w_c2B, w_c2Dt, w_c2Df, w_c2E, w_and, w_andT, w_andF, w_or, w_orT, w_orF, w_ite, w_iteT, w_iteF, w_tup, w_tupA, w_tupC, w_lst, w_lstA, w_lstC, w_dk0, w_dt0, w_nil, w_cons, w_consA, w_consB, w_idx, w_idxA, w_idxB, w_idxC, w_sl, w_slA, w_slB, w_slC, w_slD, w_pN, w_pK, w_pV, w_pI, w_pB, w_pM, w_pX, w_pBi, w_pC, w_pG, w_call, w_callA, w_callF, w_callT, w_lent, w_bi, w_biA, w_biC, w_me, w_meA, w_meB, w_meC, w_mu, w_muB, w_muC, w_muK, w_opK, w_dK, w_blK, w_lc, w_iRng, w_rngA, w_rng1, w_rng2, w_itA, w_itB, w_itC, w_itV, w_itG, w_itS, w_itBin, w_itTup, w_itLst, w_itIdx, w_itSl, w_itCall, w_itBi, w_itMe, w_itLc, w_enum, w_enA, w_enB, w_irev, w_rvA, w_rvBl, w_rvBt, w_izip, w_zpA, w_zpB, w_zpll, w_zplt, w_zptl, w_zptt, w_pass, w_done, w_expr, w_exprK, w_asg, w_asgV, w_asgN, w_asgT, w_asgTK, w_asgTC, w_put, w_putA, w_putE, w_putB, w_putC, w_putD, w_if, w_ifT, w_ifF, w_for, w_ret, w_retK, w_retC, w_retN, w_frz, w_seq, w_seqN, w_seqR, w_fin, w_finN, w_finRv, w_finRn, w_turnN, w_turnR, w_eltV, w_eltN, w_isB, w_whT, w_whF, get_val, get_new, get_ref', out_val, out_new, out_ref', noRef_nil, noRef_val, noRef_new, deref_nil, deref_val, deref_new, deref_ref, anyRef_nil, anyRef_val, anyRef_new, anyRef_ref, refsOf_nil, refsOf_val, refsOf_new, refsOf_ref, Option.map_some, Option.bind_some, cell_lst, cell_dK, cell_dT, List.set_cons_zero, List.set_cons_succ, List.getElem?_cons_zero, List.getElem?_cons_succ, wp_ok, Out.val_ok, op_add_i, op_sub_i, p_mulr, p_mull, op_mod_i, op_fdiv_i, op_pow_i, opNeg_i, lt_i, le_i, gt_i, ge_i, eq_ii, ne_ii, p_eqs, p_nes, eq_bb, ne_bb, isI_int, isI_str, isI_bl, isI_tup, isI_lst, isI_non, isI_dK, is_int, is_bl, is_str, is_tup, is_lst, is_dK, is_non, List.any_cons, List.any_nil, Bool.or_false, Bool.false_or, Bool.true_or, Bool.or_true, Bool.not_true, Bool.not_false, List.nil_append, List.cons_append, List.append_nil, decide_true, decide_false, listRev_l, tuple_l, tuple_t, list_l, list_t, len_l, len_t, p_lens, min_i, max_i, int_i, int_b, abs_i, sl_l, sl_t, p_sls, mu_append', mu_clear, items_l, items_t, items_s, bind_one, bind_two, idx_t0, idx_t1, idx_2l, idx_3l, cut_2l, cut_3l, wipeS_nil, wipeS_cons, backS_nil, backS_cons, p_isN_non, p_notN_non, solid_int, solid_str, solid_bl, solid_non, solid_tup, solidL_nil, solidL_cons, isNon_non, isNon_int, isNon_tup, isNon_lst, isNon_str, isNon_bl, p_extend, p_pop, idx_last, if_true, if_false, eq_self, Bool.false_eq_true, List.getD_cons_zero, List.getD_cons_succ, m_append, m_extend, m_insert, m_pop, m_popAt, m_clear, m_reverse, m_sdK, m_sdT, n_join, n_startswith, n_split, n_partition, n_index, n_sidx, n_getK, n_getT, n_getOrK, n_getOrT, List.length_cons, List.length_nil, p_cast, Nat.reduceAdd, Int.reduceEq, Int.reduceLT, Int.reduceLE, Int.reduceAdd, Int.reduceSub, Int.reduceMul, k_text_row, k_text_table, k_text_record, k_row_text, k_row_table, k_row_record, k_table_text, k_table_row, k_table_record, k_record_text, k_record_row, k_record_table, l_bl, l_int, l_str, l_non, lrng_1, lrng_2, w_gIx, w_gAt, p_addl, p_addt, p_adds, w_dispK, w_dispT, w_diA, w_diB, w_diC, w_diD, dis_i, dis_s, dis_t2, w_revL, w_rvlA, w_rvlC, w_isE, w_isEA, w_isEC, w_isEB, subAny_nil, w_atE, w_atA, w_raise, w_rsA, w_try, w_tryK, w_tryHn, w_tryHs, wp_exc, w_iez, w_ezA, w_ezB, w_ezC, w_callM, w_cmA, w_cmB, w_cmCr, w_cmCn, w_cmD, lastR_one, lastR_more, valRs_nil, valRs_cons, ownAt_eq, ownS_own, selfR_some, selfR_none, selfN_some, selfN_none, w_finM, w_fmN, w_fmRv, w_fmRr, w_fmC, w_retM, w_rmO])

/-! ### copies (shared) -/
/-- gone through without going into K -/
def MetB (W : List Pa) (K : List Nat) (s : Nat) (z : List Nat) : Prop := ∃ n, Dfs (lk W) n K [s] (K ++ z)
theorem Dfs.tr {G : Nat → List Nat} {n : Nat} {f t z : List Nat} (h : Dfs G n f t z) : ∀ {f' : List Nat}, (∀ a, a ∈ f ↔ a ∈ f') → ∃ r, z = f ++ r ∧ Dfs G n f' t (f' ++ r) := by
  induction h with
  | nil f => exact fun {f'} _ => ⟨[], by simp, by simpa using Dfs.nil f'⟩
  | old ha _ ih =>
    intro f' e
    obtain ⟨r, h1, h2⟩ := ih e
    exact ⟨r, h1, .old ((e _).mp ha) h2⟩
  | @new n f r z a ha _ ih =>
    intro f' e
    obtain ⟨r', h1, h2⟩ := ih (f' := f' ++ [a]) fun b => by simp [e b]
    refine ⟨a :: r', by rw [h1, List.append_assoc]; rfl, .new (fun z => ha ((e a).mpr z)) ?_⟩
    rw [List.append_assoc] at h2
    exact h2
theorem MetB.ex {W : List Pa} (ok : okW W) {K : List Nat} (hK : ∀ a ∈ K, a < W.length) {s : Nat} (hs : s < W.length) : ∃ z, MetB W K s z := by
  obtain ⟨n, z, h⟩ := Dfs.ex (G := lk W) (N := W.length) (fun a _ b hb => lk_lt ok a b hb) W.length ((List.range W.length).filter fun a => decide (a ∈ K)) (by omega) (List.nodup_range.filter _) (fun a ha => by
    have := (List.mem_filter.mp ha).1
    simpa using this) [s] (by simpa using hs)
  obtain ⟨r, h1, h2⟩ := h.tr (f' := K) fun a => by
    rw [List.mem_filter]
    simp only [List.mem_range, decide_eq_true_eq]
    exact ⟨fun z => z.2, fun z => ⟨hK a z, z⟩⟩
  exact ⟨r, n, h2⟩
theorem MetB.uniq {W : List Pa} {K : List Nat} {s : Nat} {z y : List Nat} (h : MetB W K s z) (g : MetB W K s y) : z = y := by
  obtain ⟨_, h⟩ := h
  obtain ⟨_, g⟩ := g
  exact List.append_cancel_left (h.uniq g)
theorem MetB.met {W : List Pa} {s : Nat} {z : List Nat} (h : MetB W [] s z) : Met W s z := by
  obtain ⟨n, h⟩ := h
  exact ⟨n, h⟩
/-- the found ones but for K -/
structure DsB (W : List Pa) (K g t : List Nat) : Prop where
  ds : Ds W g t
  off : ∀ a ∈ g, a ∉ K
  shut : ∀ a ∈ g, ∀ b ∈ lk W a, b ∈ g ∨ b ∈ K ∨ b ∈ t
theorem Dfs.dsB {W : List Pa} (ok : okW W) {K : List Nat} {n : Nat} {f t z : List Nat} (h : Dfs (lk W) n f t z) : ∀ {g : List Nat}, f = K ++ g → DsB W K g t → ∃ y, z = K ++ y ∧ DsB W K y [] := by
  induction h with
  | nil f => exact fun {g} e d => ⟨g, e, d⟩
  | @old n f r z a ha _ ih =>
    intro g e d
    refine ih e ⟨d.ds.old, d.off, fun b hb c hc => ?_⟩
    rcases d.shut b hb c hc with h | h | h
    · exact .inl h
    · exact .inr (.inl h)
    · rcases List.mem_cons.mp h with rfl | h
      · rw [e] at ha
        rcases List.mem_append.mp ha with ha | ha
        · exact .inr (.inl ha)
        · exact .inl ha
      · exact .inr (.inr h)
  | @new n f r z a ha _ ih =>
    intro g e d
    rw [e] at ha
    have ha1 : a ∉ K := fun z => ha (List.mem_append_left _ z)
    have ha2 : a ∉ g := fun z => ha (List.mem_append_right _ z)
    refine ih (g := g ++ [a]) (by rw [e, List.append_assoc]) ⟨d.ds.new ok ha2, fun b hb => ?_, fun b hb c hc => ?_⟩
    · rcases List.mem_append.mp hb with hb | hb
      · exact d.off b hb
      · rw [List.mem_singleton.mp hb]; exact ha1
    · rcases List.mem_append.mp hb with hb | hb
      · rcases d.shut b hb c hc with h | h | h
        · exact .inl (List.mem_append_left _ h)
        · exact .inr (.inl h)
        · rcases List.mem_cons.mp h with rfl | h
          · exact .inl (List.mem_append_right _ (by simp))
          · exact .inr (.inr (List.mem_append_right _ h))
      · rw [List.mem_singleton.mp hb] at hc
        exact .inr (.inr (List.mem_append_left _ hc))
theorem MetB.ds {W : List Pa} (ok : okW W) {K : List Nat} {s : Nat} {z : List Nat} (h : MetB W K s z) (hs : s < W.length) : DsB W K z [] := by
  obtain ⟨n, h⟩ := h
  obtain ⟨y, h1, h2⟩ := h.dsB ok (K := K) (g := []) (by simp) ⟨Ds.one hs, by simp, by simp⟩
  rw [List.append_cancel_left h1]
  exact h2
theorem MetB.first {W : List Pa} {K : List Nat} {s : Nat} {z : List Nat} (h : MetB W K s z) (hs : s ∉ K) : ∃ r, z = s :: r := by
  obtain ⟨n, h⟩ := h
  cases h with
  | old ha _ => exact absurd ha hs
  | new _ h =>
    obtain ⟨r, hr⟩ := h.pre
    rw [List.append_assoc] at hr
    exact ⟨r, List.append_cancel_left hr⟩
theorem met_but_eq (k : Nat) {W : List Pa} (ok : okW W) {s : Nat} (hs : s < W.length) {K z : List Nat} (hz : MetB W K s z) : pg.call (k + 4) 7 [.tup (webD W), .int s, .lst (nD K)] = .ok (.val (.lst (nD z))) := by
  apply eq_of_wp
  rw [c_met_but, w_fin]
  obtain ⟨n, hz⟩ := hz
  have hN := ok.1
  simp_arith [b_met_but]
  refine mid (fun e => ∃ s5, e = [.val (.tup (webD W)), .val (.int s), .val (.lst (nD K)), .own (.lst (nD z)), .own (.lst []), s5]) ?_ ?_
  · refine wp_while (fun n e => ∃ (g t : List Nat) (s5 : Slot), Dfs (lk W) n (K ++ g) t (K ++ z) ∧ Ds W g t ∧ e = [.val (.tup (webD W)), .val (.int s), .val (.lst (nD K)), .own (.lst (nD g)), .own (.lst (nD t.reverse)), s5]) n ⟨[], [s], .emp, by simpa using hz, Ds.one hs, rfl⟩ ?_
    rintro n e ⟨g, t, s5, hd, ds, rfl⟩
    generalize hf : K ++ g = f at hd
    generalize hy : K ++ z = y at hd
    cases hd with
    | nil =>
      have hx : opCmp .ne (.lst []) (.lst []) = .ok false := rfl
      have e1 : g = z := List.append_cancel_left (hf.trans hy.symm)
      subst e1
      simp_arith [show nD ([] : List Nat).reverse = [] from rfl, hx]
      exact ⟨_, rfl⟩
    | @old n _ r _ a ha hd =>
      have hx : opCmp .ne (.lst (nD (a :: r).reverse)) (.lst []) = .ok true := by
        have := nD_ne (a :: r).reverse []
        rw [show nD ([] : List Nat) = [] from rfl] at this
        rw [this]; simp
      have hr : nD (a :: r).reverse = nD r.reverse ++ [.int a] := by rw [List.reverse_cons, nD_app]; rfl
      subst hf hy
      have I1 := nD_nin a g
      have I2 := nD_nin a K
      simp_arith [hx]
      by_cases h1 : a ∈ g
      · rw [decide_eq_true h1] at I1
        simp_arith [hr, f_met_but_0, I1]
        exact ⟨n, by omega, g, r, _, hd, ds.old, rfl⟩
      · have h2 : a ∈ K := (List.mem_append.mp ha).resolve_right h1
        rw [decide_eq_false h1] at I1
        rw [decide_eq_true h2] at I2
        simp_arith [hr, f_met_but_0, I1, I2]
        exact ⟨n, by omega, g, r, _, hd, ds.old, rfl⟩
    | @new n _ r _ a ha hd =>
      have hx : opCmp .ne (.lst (nD (a :: r).reverse)) (.lst []) = .ok true := by
        have := nD_ne (a :: r).reverse []
        rw [show nD ([] : List Nat) = [] from rfl] at this
        rw [this]; simp
      have hr : nD (a :: r).reverse = nD r.reverse ++ [.int a] := by rw [List.reverse_cons, nD_app]; rfl
      subst hf hy
      have I1 := nD_nin a g
      have I2 := nD_nin a K
      have n1 : a ∉ g := fun z => ha (List.mem_append_right _ z)
      have n2 : a ∉ K := fun z => ha (List.mem_append_left _ z)
      rw [decide_eq_false n1] at I1
      rw [decide_eq_false n2] at I2
      have ds2 := ds.new ok n1
      have h1 := ds2.few
      have h2 := ds2.len
      have haW := ds.tlt a List.mem_cons_self
      have ix := web_idx (getD_ok haW)
      have hlk : lk W a = (W.getD a noP).links := lk_get W a
      have L := links_eq k (ok.2 _ (getD_mem haW)).1
      rw [← hlk] at L
      have hlen : (nD g).length < 16777216 := by rw [nD_len]; simp at h1; omega
      have hlen2 : (nD r.reverse).length + (nD (lk W a)).reverse.length ≤ 16777216 := by
        simp [nD_len] at *
        omega
      simp_arith [hx]
      simp_arith [hr, f_met_but_0, I1, I2, e_links, L, ix]
      refine ⟨n, by omega, g ++ [a], lk W a ++ r, .val (.int a), by rw [← List.append_assoc]; exact hd, ds2, ?_⟩
      rw [List.reverse_append, nD_app, nD_app, nD_rev, nD_rev]
      rfl
  · rintro e ⟨s5, rfl⟩
    simp_arith
/-! a dict of the numbers below n -/
def fnK (n : Nat) (f : Nat → Nat) : List (Key × D) := (List.range n).map fun (k : Nat) => (.inl (k : Int), .int (f k : Nat))
theorem fnK_len (n : Nat) (f : Nat → Nat) : (fnK n f).length = n := by simp [fnK]
theorem dlook_app {κ : Type} [DecidableEq κ] (x : κ) : ∀ a b : List (κ × D), dlook (a ++ b) x = (dlook a x).or (dlook b x)
  | [], b => by simp [dlook]
  | (k, v) :: a, b => by
    have ih := dlook_app x a b
    simp only [List.cons_append, dlook]
    split
    · rfl
    · exact ih
theorem fnK_look (f : Nat → Nat) (a : Nat) : ∀ n : Nat, dlook (fnK n f) (.inl (a : Int)) = if a < n then some (.int (f a : Nat)) else none
  | 0 => rfl
  | n + 1 => by
    have ih := fnK_look f a n
    have e : fnK (n + 1) f = fnK n f ++ [(.inl (n : Int), .int (f n : Nat))] := by simp [fnK, List.range_succ]
    rw [e, dlook_app, ih]
    by_cases h : a < n
    · rw [if_pos h, if_pos (by omega)]; rfl
    · rw [if_neg h]
      by_cases h2 : a = n
      · subst h2
        rw [if_pos (by omega)]
        simp [dlook]
      · rw [if_neg (by omega)]
        have : ¬ ((.inl (n : Int) : Key) = .inl (a : Int)) := fun z => h2 (by have := Sum.inl.inj z; omega)
        simp [dlook, this]
theorem fnK_new (n : Nat) (f : Nat → Nat) (h : n < 16777216) : (Cell.dK (fnK n f)).put (.int (n : Nat)) (.int (f n : Nat)) = some (.dK (fnK (n + 1) f)) := by
  show (if (fnK n f).length < 16777216 then some (Cell.dK (dput (fnK n f) (.inl (n : Int)) (.int (f n : Nat)))) else none) = _
  rw [if_pos (by rw [fnK_len]; exact h)]
  have hn : dlook (fnK n f) (.inl (n : Int)) = none := by rw [fnK_look, if_neg (Nat.lt_irrefl n)]
  unfold dput
  rw [hn]
  simp [fnK, List.range_succ]
def setF (f : Nat → Nat) (a b : Nat) : Nat → Nat := fun c => if c = a then b else f c
theorem fnK_set {n : Nat} {f : Nat → Nat} {a : Nat} (b : Nat) (ha : a < n) (h : n < 16777216) : (Cell.dK (fnK n f)).put (.int (a : Nat)) (.int (b : Nat)) = some (.dK (fnK n (setF f a b))) := by
  show (if (fnK n f).length < 16777216 then some (Cell.dK (dput (fnK n f) (.inl (a : Int)) (.int (b : Nat)))) else none) = _
  rw [if_pos (by rw [fnK_len]; exact h)]
  have hn : dlook (fnK n f) (.inl (a : Int)) = some (.int (f a : Nat)) := by rw [fnK_look, if_pos ha]
  unfold dput
  rw [hn]
  simp only [Option.isSome_some, if_true]
  congr 2
  unfold fnK
  rw [List.map_map]
  refine List.map_congr_left fun c _ => ?_
  show (if (.inl (c : Int) : Key) = .inl (a : Int) then ((.inl (c : Int) : Key), D.int (b : Nat)) else (.inl (c : Int), .int (f c : Nat))) = _
  unfold setF
  by_cases e : c = a
  · subst e; rw [if_pos rfl, if_pos rfl]
  · rw [if_neg e, if_neg fun z => e (by have := Sum.inl.inj z; omega)]
def fnD (n : Nat) (f : Nat → Nat) : D := .dK ((fnK n f).map (·.1)) ((fnK n f).map (·.2))
theorem fnD_get {n : Nat} {f : Nat → Nat} {a : Nat} (h : a < n) : opIdx (fnD n f) (.int (a : Nat)) = .ok (.int (f a : Nat)) := by
  show (Out.of (some (dlook (((fnK n f).map (·.1)).zip ((fnK n f).map (·.2))) (.inl (a : Int))))).bind (fun o => Out.of o) = _
  rw [zip_unzip, fnK_look, if_pos h]; rfl
theorem nD_index {l : List Nat} {a : Nat} (h : a ∈ l) : opMe .index (.lst (nD l)) [.int (a : Nat)] = .ok (.val (.int (pos l a : Nat))) := by
  have key : ∀ l : List Nat, a ∈ l → findD (.int (a : Nat)) (nD l) = some (pos l a) := fun l => by
    induction l with
    | nil => exact fun z => nomatch z
    | cons b l ih =>
      intro z
      show (if D.eqv (.int (b : Nat)) (.int (a : Nat)) then some 0 else (findD (.int (a : Nat)) (nD l)).map (· + 1)) = some ((b :: l).idxOf a)
      rw [eqv_ii, List.idxOf_cons]
      by_cases e : b = a
      · subst e; simp
      · rw [if_neg (by simp; omega), show (b == a) = false by simpa using e]
        have hz : a ∈ l := by
          rcases List.mem_cons.mp z with rfl | z
          · exact absurd rfl e
          · exact z
        rw [ih hz]; rfl
  have ok : ixOk (.int (a : Nat)) (nD l) = true := by simp [ixOk, nD_plain, nD_depth]
  show (if ixOk (.int (a : Nat)) (nD l) then (Out.of (findD (.int (a : Nat)) (nD l))).bind (fun j => Out.ok (Res.val (.int (j : Nat)))) else .stuck) = _
  rw [if_pos ok, key l h]; rfl
/-- where a part's copy stands -/
def cpF (N : Nat) (z : List Nat) (a : Nat) : Nat := if a ∈ z then N + pos z a else a
def copyW (W : List Pa) (z : List Nat) : List Pa := W ++ z.map fun a => (W.getD a noP).re (cpF W.length z)
theorem copied_eq (k : Nat) {W : List Pa} (ok : okW W) {s : Nat} (hs : s < W.length) {K z : List Nat} (hz : MetB W K s z) (hsK : s ∉ K) (hl : W.length + z.length ≤ 60) : pg.call (k + 5) 8 [.tup (webD W), .int s, .lst (nD K)] = .ok (.val (.tup [.tup (webD (copyW W z)), .int (W.length : Nat)])) := by
  apply eq_of_wp
  rw [c_copied, w_fin]
  have M := met_but_eq k ok hs hz
  have db := hz.ds ok hs
  have wl := web_len W
  have zl := nD_len z
  have I := nD_in s K
  rw [decide_eq_false hsK] at I
  have n0 : opCmp .isN (.lst (nD K)) .non = .ok false := rfl
  have hgt : ¬ (60 : Int) < (W.length : Int) + (z.length : Int) := by omega
  simp_arith [b_copied, n0, I, e_met_but, M, wl, zl, g_MOST_PARTS, hgt]
  refine for_rng (fun j e => ∃ s5, e = [.val (.tup (webD W)), .val (.int s), .val (.lst (nD K)), .val (.lst (nD z)), .own (.dK (fnK j id)), s5]) ⟨_, rfl⟩ (fun j e hj he => ?_) (fun e he => ?_)
  · obtain ⟨s5, rfl⟩ := he
    have P := fnK_new j id (by omega)
    simp only [id] at P
    simp_arith [f_copied_0, P]
    exact ⟨_, rfl⟩
  obtain ⟨s5, rfl⟩ := he
  rw [show ((W.length : Nat) : Int).toNat = W.length by omega]
  simp_arith
  refine for_pre (ws := z) (f := fun (a : Nat) => D.int a) (fun us e => ∃ (f : Nat → Nat) (s5 : Slot), (∀ a, f a = if a ∈ us then W.length + pos z a else a) ∧ e = [.val (.tup (webD W)), .val (.int s), .val (.lst (nD K)), .val (.lst (nD z)), .own (.dK (fnK W.length f)), s5]) rfl ⟨id, _, by simp, rfl⟩ (fun us a post e hw he => ?_) (fun e he => ?_)
  · obtain ⟨f, s5, hf, rfl⟩ := he
    have haz : a ∈ z := by rw [hw]; simp
    have haN := db.ds.lt a haz
    have X := nD_index haz
    have P := fnK_set (f := f) (W.length + pos z a) haN (by omega)
    have hc : (W.length : Int) + (pos z a : Int) = ((W.length + pos z a : Nat) : Int) := by omega
    refine ⟨_, rfl, ?_⟩
    simp_arith [f_copied_1, wl, X, hc, P]
    refine ⟨_, _, fun b => ?_, rfl⟩
    unfold setF
    by_cases e : b = a
    · subst e; simp
    · rw [if_neg e, hf b]; simp [e]
  obtain ⟨f, s5, hf, rfl⟩ := he
  have hff : f = cpF W.length z := by
    funext a
    rw [hf a]; rfl
  subst hff
  have hsz : cpF W.length z s = W.length := by
    obtain ⟨r, rfl⟩ := hz.first hsK
    simp [cpF, pos]
  have G := fnD_get (n := W.length) (f := cpF W.length z) hs
  rw [hsz] at G
  simp only [fnD] at G
  simp_arith
  refine lc_each (f := fun a => ((W.getD a noP).re (cpF W.length z)).pt.d) rfl (by omega) (fun a ha => ⟨_, rfl, ?_⟩) ?_
  · have haN := db.ds.lt a ha
    have ix := web_idx (getD_ok haN)
    have okp := ok.2 _ (getD_mem haN)
    have L := led_part_eq k okp.1 (φ := cpF W.length z) (dd := fnD W.length (cpF W.length z)) fun i hi => fnD_get (okp.2 i hi)
    simp only [fnD] at L
    simp_arith [ix, e_led_part, L]
  · have e1 : webD W ++ z.map (fun a => ((W.getD a noP).re (cpF W.length z)).pt.d) = webD (copyW W z) := by
      unfold copyW webD
      rw [List.map_append, List.map_map]; rfl
    have l1 : (z.map fun a => ((W.getD a noP).re (cpF W.length z)).pt.d).length = z.length := by simp
    simp_arith [wl, l1, e1, G]
theorem copied_in (k : Nat) {W : List Pa} {s : Nat} {K : List Nat} (hsK : s ∈ K) : pg.call (k + 1) 8 [.tup (webD W), .int s, .lst (nD K)] = .ok (.val (.tup [.tup (webD W), .int (s : Nat)])) := by
  apply eq_of_wp
  rw [c_copied, w_fin]
  have I := nD_in s K
  rw [decide_eq_true hsK] at I
  have n0 : opCmp .isN (.lst (nD K)) .non = .ok false := rfl
  simp_arith [b_copied, n0, I]
/-! what a copy is (plain) -/
section
variable {W : List Pa} {K z : List Nat} {s : Nat}
theorem copy_len : (copyW W z).length = W.length + z.length := by simp [copyW]
theorem copy_old {a : Nat} (h : a < W.length) : (copyW W z).getD a noP = W.getD a noP := by
  rw [List.getD_eq_getElem?_getD, List.getD_eq_getElem?_getD, copyW, List.getElem?_append_left h]
theorem copy_new {a : Nat} (h : a ∈ z) : (copyW W z).getD (W.length + pos z a) noP = (W.getD a noP).re (cpF W.length z) := by
  rw [List.getD_eq_getElem?_getD, copyW, List.getElem?_append_right (by omega), Nat.add_sub_cancel_left, List.getElem?_map, pos_get h]; rfl
theorem cpF_in {N a : Nat} (h : a ∈ z) : cpF N z a = N + pos z a := if_pos h
theorem cpF_out {N a : Nat} (h : a ∉ z) : cpF N z a = a := if_neg h
theorem copy_ok (ok : okW W) (d : DsB W K z []) (hl : W.length + z.length ≤ 60) : okW (copyW W z) := by
  refine ⟨by rw [copy_len]; omega, fun p hp => ?_⟩
  rw [copy_len]
  rcases List.mem_append.mp hp with hp | hp
  · exact ⟨(ok.2 p hp).1, fun i hi => by have := (ok.2 p hp).2 i hi; omega⟩
  · obtain ⟨a, ha, rfl⟩ := List.mem_map.mp hp
    have haN := d.ds.lt a ha
    have okp := ok.2 _ (getD_mem haN)
    refine ⟨re_few _ okp.1, fun i hi => ?_⟩
    rw [re_links] at hi
    obtain ⟨j, hj, rfl⟩ := List.mem_map.mp hi
    have hjN := okp.2 j hj
    unfold cpF
    split
    · have := pos_lt (show j ∈ z by assumption); omega
    · omega
end

end PyI.K22

end
section
namespace PyI.K22
open PySem PySem.Spec PyProof.Rows L2
local macro_rules | `(tactic| simp_arith [$ts,*]) => `(tactic| simp (disch := first | assumption | omega | (simp only [List.length_cons, List.length_nil, List.length_append, List.length_map, List.length_range, List.length_take, List.length_drop, List.length_reverse, List.length_set]; omega)) only [w_var, w_kI, w_kS, w_kB, w_kN, w_glob, w_of, w_bin, w_binA, w_binB, w_binC, w_neg, w_negA, w_negB, w_not, w_notA, w_cmp, w_cmpA, w_cmpB, w_cmpC, w_cmp2, w_c2A, w_c2B, w_c2Dt, w_c2Df, w_c2E, w_and, w_andT, w_andF, w_or, w_orT, w_orF, w_ite, w_iteT, w_iteF, w_tup, w_tupA, w_tupC, w_lst, w_lstA, w_lstC, w_dk0, w_dt0, w_nil, w_cons, w_consA, w_consB, w_idx, w_idxA, w_idxB, w_idxC, w_sl, w_slA, w_slB, w_slC, w_slD, w_pN, w_pK, w_pV, w_pI, w_pB, w_pM, w_pX, w_pBi, w_pC, w_pG, w_call, w_callA, w_callF, w_callT, w_lent, w_bi, w_biA, w_biC, w_me, w_meA, w_meB, w_meC, w_mu, w_muB, w_muC, w_muK, w_opK, w_dK, w_blK, w_lc, w_iRng, w_rngA, w_rng1, w_rng2, w_itA, w_itB, w_itC, w_itV, w_itG, w_itS, w_itBin, w_itTup, w_itLst, w_itIdx, w_itSl, w_itCall, w_itBi, w_itMe, w_itLc, w_enum, w_enA, w_enB, w_irev, w_rvA, w_rvBl, w_rvBt, w_izip, w_zpA, w_zpB, w_zpll, w_zplt, w_zptl, w_zptt, w_pass, w_done, w_expr, w_exprK, w_asg, w_asgV, w_asgN, w_asgT, w_asgTK, w_asgTC, w_put, w_putA, w_putE, w_putB, w_putC, w_putD, w_if, w_ifT, w_ifF, w_for, w_ret, w_retK, w_retC, w_retN, w_frz, w_seq, w_seqN, w_seqR, w_fin, w_finN, w_finRv, w_finRn, w_turnN, w_turnR, w_eltV, w_eltN, w_isB, w_whT, w_whF, get_val, get_new, get_ref', out_val, out_new, out_ref', noRef_nil, noRef_val, noRef_new, deref_nil, deref_val, deref_new, deref_ref, anyRef_nil, anyRef_val, anyRef_new, anyRef_ref, refsOf_nil, refsOf_val, refsOf_new, refsOf_ref, Option.map_some, Option.bind_some, cell_lst, cell_dK, cell_dT, List.set_cons_zero, List.set_cons_succ, List.getElem?_cons_zero, List.getElem?_cons_succ, wp_ok, Out.val_ok, op_add_i, op_sub_i, p_mulr, p_mull, op_mod_i, op_fdiv_i, op_pow_i, opNeg_i, lt_i, le_i, gt_i, ge_i, eq_ii, ne_ii, p_eqs, p_nes, eq_bb, ne_bb, isI_int, isI_str, isI_bl, isI_tup, isI_lst, isI_non, isI_dK, is_int, is_bl, is_str, is_tup, is_lst, is_dK, is_non, List.any_cons, List.any_nil, Bool.or_false, Bool.false_or, Bool.true_or, Bool.or_true, Bool.not_true, Bool.not_false, List.nil_append, List.cons_append, List.append_nil, decide_true, decide_false, listRev_l, tuple_l, tuple_t, list_l, list_t, len_l, len_t, p_lens, min_i, max_i, int_i, int_b, abs_i, sl_l, sl_t, p_sls, mu_append', mu_clear, items_l, items_t, items_s, bind_one, bind_two, idx_t0, idx_t1, idx_2l, idx_3l, cut_2l, cut_3l, wipeS_nil, wipeS_cons, backS_nil, backS_cons, p_isN_non, p_notN_non, solid_int, solid_str, solid_bl, solid_non, solid_tup, solidL_nil, solidL_cons, isNon_non, isNon_int, isNon_tup, isNon_lst, isNon_str, isNon_bl, p_extend, p_pop, idx_last, if_true, if_false, eq_self, Bool.false_eq_true, List.getD_cons_zero, List.getD_cons_succ, m_append, m_extend, m_insert, m_pop, m_popAt, m_clear, m_reverse, m_sdK, m_sdT, n_join, n_startswith, n_split, n_partition, n_index, n_sidx, n_getK, n_getT, n_getOrK, n_getOrT, List.length_cons, List.length_nil, p_cast, Nat.reduceAdd, Int.reduceEq, Int.reduceLT, Int.reduceLE, Int.reduceAdd, Int.reduceSub, Int.reduceMul, k_text_row, k_text_table, k_text_record, k_row_text, k_row_table, k_row_record, k_table_text, k_table_row, k_table_record, k_record_text, k_record_row, k_record_table, l_bl, l_int, l_str, l_non, lrng_1, lrng_2, w_gIx, w_gAt, p_addl, p_addt, p_adds, w_dispK, w_dispT, w_diA, w_diB, w_diC, w_diD, dis_i, dis_s, dis_t2, w_revL, w_rvlA, w_rvlC, w_isE, w_isEA, w_isEC, w_isEB, subAny_nil, w_atE, w_atA, w_raise, w_rsA, w_try, w_tryK, w_tryHn, w_tryHs, wp_exc, w_iez, w_ezA, w_ezB, w_ezC, w_callM, w_cmA, w_cmB, w_cmCr, w_cmCn, w_cmD, lastR_one, lastR_more, valRs_nil, valRs_cons, ownAt_eq, ownS_own, selfR_some, selfR_none, selfN_some, selfN_none, w_finM, w_fmN, w_fmRv, w_fmRr, w_fmC, w_retM, w_rmO, $ts,*])
local macro_rules | `(tactic| simp_arith) => `(tactic| simp (disch := first | assumption | omega | (simp only [List.length_cons, List.length_nil, List.length_append, List.length_map, List.length_range, List.length_take, List.length_drop, List.length_reverse, List.length_set]; omega)) only [w_var, w_kI, w_kS, w_kB, w_kN, w_glob, w_of, w_bin, w_binA, w_binB, w_binC, w_neg, w_negA, w_negB, w_not, w_notA, w_cmp, w_cmpA, w_cmpB, w_cmpC, w_cmp2, w_c2A, w_c2B, w_c2Dt, w_c2Df, w_c2E, w_and, w_andT, w_andF, w_or, w_orT, w_orF, w_ite, w_iteT, w_iteF, w_tup, w_tupA, w_tupC, w_lst, w_lstA, w_lstC, w_dk0, w_dt0, w_nil, w_cons, w_consA, w_consB, w_idx, w_idxA, w_idxB, w_idxC, w_sl, w_slA, w_slB, w_slC, w_slD, w_pN, w_pK, w_pV, w_pI, w_pB, w_pM, w_pX, w_pBi, w_pC, w_pG, w_call, w_callA, w_callF, w_callT, w_lent, w_bi, w_biA, w_biC, w_me, w_meA, w_meB, w_meC, w_mu, w_muB, w_muC, w_muK, w_opK, w_dK, w_blK, w_lc, w_iRng, w_rngA, w_rng1, w_rng2, w_itA, w_itB, w_itC, w_itV, w_itG, w_itS, w_itBin, w_itTup, w_itLst, w_itIdx, w_itSl, w_itCall, w_itBi, w_itMe, w_itLc, w_enum, w_enA, w_enB, w_irev, w_rvA, w_rvBl, w_rvBt, w_izip, w_zpA, w_zpB, w_zpll, w_zplt, w_zptl, w_zptt, w_pass, w_done, w_expr, w_exprK, w_asg, w_asgV, w_asgN, w_asgT, w_asgTK, w_asgTC, w_put, w_putA, w_putE, w_putB, w_putC, w_putD, w_if, w_ifT, w_ifF, w_for, w_ret, w_retK, w_retC, w_retN, w_frz, w_seq, w_seqN, w_seqR, w_fin, w_finN, w_finRv, w_finRn, w_turnN, w_turnR, w_eltV, w_eltN, w_isB, w_whT, w_whF, get_val, get_new, get_ref', out_val, out_new, out_ref', noRef_nil, noRef_val, noRef_new, deref_nil, deref_val, deref_new, deref_ref, anyRef_nil, anyRef_val, anyRef_new, anyRef_ref, refsOf_nil, refsOf_val, refsOf_new, refsOf_ref, Option.map_some, Option.bind_some, cell_lst, cell_dK, cell_dT, List.set_cons_zero, List.set_cons_succ, List.getElem?_cons_zero, List.getElem?_cons_succ, wp_ok, Out.val_ok, op_add_i, op_sub_i, p_mulr, p_mull, op_mod_i, op_fdiv_i, op_pow_i, opNeg_i, lt_i, le_i, gt_i, ge_i, eq_ii, ne_ii, p_eqs, p_nes, eq_bb, ne_bb, isI_int, isI_str, isI_bl, isI_tup, isI_lst, isI_non, isI_dK, is_int, is_bl, is_str, is_tup, is_lst, is_dK, is_non, List.any_cons, List.any_nil, Bool.or_false, Bool.false_or, Bool.true_or, Bool.or_true, Bool.not_true, Bool.not_false, List.nil_append, List.cons_append, List.append_nil, decide_true, decide_false, listRev_l, tuple_l, tuple_t, list_l, list_t, len_l, len_t, p_lens, min_i, max_i, int_i, int_b, abs_i, sl_l, sl_t, p_sls, mu_append', mu_clear, items_l, items_t, items_s, bind_one, bind_two, idx_t0, idx_t1, idx_2l, idx_3l, cut_2l, cut_3l, wipeS_nil, wipeS_cons, backS_nil, backS_cons, p_isN_non, p_notN_non, solid_int, solid_str, solid_bl, solid_non, solid_tup, solidL_nil, solidL_cons, isNon_non, isNon_int, isNon_tup, isNon_lst, isNon_str, isNon_bl, p_extend, p_pop, idx_last, if_true, if_false, eq_self, Bool.false_eq_true, List.getD_cons_zero, List.getD_cons_succ, m_append, m_extend, m_insert, m_pop, m_popAt, m_clear, m_reverse, m_sdK, m_sdT, n_join, n_startswith, n_split, n_partition, n_index, n_sidx, n_getK, n_getT, n_getOrK, n_getOrT, List.length_cons, List.length_nil, p_cast, Nat.reduceAdd, Int.reduceEq, Int.reduceLT, Int.reduceLE, Int.reduceAdd, Int.reduceSub, Int.reduceMul, k_text_row, k_text_table, k_text_record, k_row_text, k_row_table, k_row_record, k_table_text, k_table_row, k_table_record, k_record_text, k_record_row, k_record_table, l_bl, l_int, l_str, l_non, lrng_1, lrng_2, w_gIx, w_gAt, p_addl, p_addt, p_adds, w_dispK, w_dispT, w_diA, w_diB, w_diC, w_diD, dis_i, dis_s, dis_t2, w_revL, w_rvlA, w_rvlC, w_isE, w_isEA, w_isEC, w_isEB, subAny_nil, w_atE, w_atA, w_raise, w_rsA, w_try, w_tryK, w_tryHn, w_tryHs, wp_exc, w_iez, w_ezA, w_ezB, w_ezC, w_callM, w_cmA, w_cmB, w_cmCr, w_cmCn, w_cmD, lastR_one, lastR_more, valRs_nil, valRs_cons, ownAt_eq, ownS_own, selfR_some, selfR_none, selfN_some, selfN_none, w_finM, w_fmN, w_fmRv, w_fmRr, w_fmC, w_retM, w_rmO])

theorem exc_wp {α : Type} {o : Out α} {x : Exn} (h : Wp o (fun _ => False) (fun y => y = x)) : o = .exc x := by
  cases o with
  | stuck => exact h.elim
  | ok a => exact h.elim
  | exc y => exact congrArg Out.exc h
theorem Dfs.app {G : Nat → List Nat} {n m : Nat} {f t y r z : List Nat} (h : Dfs G n f t y) (g : Dfs G m y r z) : ∃ l, Dfs G l f (t ++ r) z := by
  induction h with
  | nil f => exact ⟨m, g⟩
  | old ha _ ih =>
    obtain ⟨l, hl⟩ := ih g
    exact ⟨l + 1, .old ha hl⟩
  | new ha _ ih =>
    obtain ⟨l, hl⟩ := ih g
    rw [List.append_assoc] at hl
    exact ⟨l + 1, .new ha hl⟩
theorem isT_d (v : Vl) : opBi (.isI [.tuple]) [v.d] = .ok (.val (.bl v.isAt)) := by cases v <;> rfl
theorem lnk_idx (k : Nat) : opIdx (Vl.lnk k).d (.int 1) = .ok (.int k) := idx_tt (by omega) rfl
theorem nd_snoc {g : List Nat} {s : Nat} (hd : g.Nodup) (h : s ∉ g) : (g ++ [s]).Nodup := by
  rw [List.nodup_append]
  exact ⟨hd, by simp, fun x hx y hy => by
    have := List.mem_singleton.mp hy
    subst this
    exact fun e => h (e ▸ hx)⟩
theorem lt_snoc {g : List Nat} {s N : Nat} (hg : ∀ a ∈ g, a < N) (h : s < N) : ∀ a ∈ g ++ [s], a < N := fun a ha => by
  rcases List.mem_append.mp ha with ha | ha
  · exact hg a ha
  · rw [List.mem_singleton.mp ha]; exact h
theorem met_in_ex (k : Nat) {W : List Pa} (ok : okW W) {K : List Nat} : ∀ (m : Nat) {g : List Nat} {s : Nat}, W.length - g.length ≤ m → g.Nodup → (∀ a ∈ g, a < W.length) → s < W.length →
    ∃ z n, Dfs (lk W) n (K ++ g) [s] (K ++ z) ∧ z.Nodup ∧ (∀ a ∈ z, a < W.length) ∧ g.length ≤ z.length ∧ pg.callM (k + m + 2) 23 [.tup (webD W), .int s, .lst (nD K)] (.lst (nD g)) = .ok (none, .lst (nD z)) := by
  intro m
  induction m with
  | zero =>
    intro g s hm hd hg hs
    have hin : s ∈ g := Classical.byContradiction fun h => by
      have := nodup_le W.length (g ++ [s]) (nd_snoc hd h) (lt_snoc hg hs)
      simp at this
      omega
    refine ⟨g, 1, .old (List.mem_append_right _ hin) (.nil _), hd, hg, Nat.le_refl _, ?_⟩
    apply m_of_wp
    rw [m_law_met_in, w_finM]
    have n1 := nD_nin s g
    rw [decide_eq_true hin] at n1
    simp_arith [b_law_met_in, n1]
  | succ m ih =>
    intro g s hm hd hg hs
    have n1 := nD_nin s g
    have n2 := nD_nin s K
    by_cases h1 : s ∈ g
    · refine ⟨g, 1, .old (List.mem_append_right _ h1) (.nil _), hd, hg, Nat.le_refl _, ?_⟩
      apply m_of_wp
      rw [m_law_met_in, w_finM]
      rw [decide_eq_true h1] at n1
      simp_arith [b_law_met_in, n1]
    by_cases h2 : s ∈ K
    · refine ⟨g, 1, .old (List.mem_append_left _ h2) (.nil _), hd, hg, Nat.le_refl _, ?_⟩
      apply m_of_wp
      rw [m_law_met_in, w_finM]
      rw [decide_eq_false h1] at n1
      rw [decide_eq_true h2] at n2
      simp_arith [b_law_met_in, n1, n2]
    rw [decide_eq_false h1] at n1
    rw [decide_eq_false h2] at n2
    have okp := ok.2 _ (getD_mem hs)
    have ix := web_idx (getD_ok hs)
    have V := lvals_v (k + (m + 1)) okp.1
    have gl := nodup_le W.length (g ++ [s]) (nd_snoc hd h1) (lt_snoc hg hs)
    rw [List.length_append, List.length_singleton] at gl
    have hN := ok.1
    have gb : (nD g).length < 16777216 := by rw [nD_len]; omega
    have snoc : nD g ++ [D.int s] = nD (g ++ [s]) := by rw [nD_app]; rfl
    have key : Wp (pg.callM (k + (m + 1) + 2) 23 [.tup (webD W), .int s, .lst (nD K)] (.lst (nD g))) (fun q => ∃ z, (∃ n, Dfs (lk W) n (K ++ (g ++ [s])) (W.getD s noP).links (K ++ z)) ∧ z.Nodup ∧ (∀ a ∈ z, a < W.length) ∧ g.length + 1 ≤ z.length ∧ q = (none, .lst (nD z))) noE := by
      rw [m_law_met_in, w_finM]
      simp_arith [b_law_met_in, n1, n2, snoc, ix, e_law_vals, V]
      refine for_map (ws := (W.getD s noP).vals) (f := Vl.d) (fun us e => ∃ (z : List Nat) (s4 : Slot), (∃ n, Dfs (lk W) n (K ++ (g ++ [s])) (us.filterMap Vl.to) (K ++ z)) ∧ z.Nodup ∧ (∀ a ∈ z, a < W.length) ∧ g.length + 1 ≤ z.length ∧ e = [.val (.tup (webD W)), .val (.int s), .val (.lst (nD K)), .own (.lst (nD z)), s4]) rfl
        ⟨g ++ [s], _, ⟨0, .nil _⟩, nd_snoc hd h1, lt_snoc hg hs, by simp, rfl⟩ (fun us v e hv _ _ he => ?_) (fun e he => ?_)
      · obtain ⟨z, s4, ⟨n, hz⟩, d1, d2, d3, rfl⟩ := he
        refine ⟨[.val (.tup (webD W)), .val (.int s), .val (.lst (nD K)), .own (.lst (nD z)), .val v.d], rfl, ?_⟩
        have L := isT_d v
        cases v with
        | non =>
          simp_arith [f_law_met_in_0, L, Vl.isAt]
          exact ⟨z, _, ⟨n, by rw [List.filterMap_append, show List.filterMap Vl.to [Vl.non] = [] from rfl, List.append_nil]; exact hz⟩, d1, d2, d3, rfl⟩
        | int i =>
          simp_arith [f_law_met_in_0, L, Vl.isAt]
          exact ⟨z, _, ⟨n, by rw [List.filterMap_append, show List.filterMap Vl.to [Vl.int i] = [] from rfl, List.append_nil]; exact hz⟩, d1, d2, d3, rfl⟩
        | lnk i =>
          have hi : i < W.length := okp.2 i (List.mem_filterMap.mpr ⟨_, hv, rfl⟩)
          obtain ⟨z', n', e1, e2, e3, e4, R⟩ := ih (g := z) (s := i) (by omega) d1 d2 hi
          obtain ⟨l, hl⟩ := hz.app e1
          have R : pg.callM (k + (m + 1) + 1) 23 [.tup (webD W), .int i, .lst (nD K)] (.lst (nD z)) = .ok (none, .lst (nD z')) := R
          simp_arith [f_law_met_in_0, L, Vl.isAt, lnk_idx, em_law_met_in, R]
          exact ⟨z', _, ⟨l, by rw [List.filterMap_append, show List.filterMap Vl.to [Vl.lnk i] = [i] from rfl]; exact hl⟩, e2, e3, by omega, rfl⟩
      · obtain ⟨z, s4, hz, d1, d2, d3, rfl⟩ := he
        simp_arith
        exact ⟨z, hz, d1, d2, d3, rfl⟩
    obtain ⟨q, hq, z, ⟨n, hz⟩, d1, d2, d3, rfl⟩ := key.ex
    refine ⟨z, n + 1, ?_, d1, d2, by omega, hq⟩
    refine .new (fun h => ?_) ?_
    · rcases List.mem_append.mp h with h | h
      · exact h2 h
      · exact h1 h
    · rw [lk_get, List.append_nil, List.append_assoc]
      exact hz
theorem met_in_eq (k : Nat) {W : List Pa} (ok : okW W) (hl : W.length ≤ 60) {s : Nat} (hs : s < W.length) {K z : List Nat} (hz : MetB W K s z) : pg.callM (k + 62) 23 [.tup (webD W), .int s, .lst (nD K)] (.lst []) = .ok (none, .lst (nD z)) := by
  obtain ⟨z', n, h1, _, _, _, R⟩ := met_in_ex k ok (K := K) 60 (g := []) (s := s) (by simpa using hl) (by simp) (by simp) hs
  rw [List.append_nil] at h1
  rw [hz.uniq ⟨n, h1⟩]
  exact R
end PyI.K22

end
section
namespace PyI.K22
open PySem PySem.Spec PyProof.Rows L2
local macro_rules | `(tactic| simp_arith [$ts,*]) => `(tactic| simp (disch := first | assumption | omega | (simp only [List.length_cons, List.length_nil, List.length_append, List.length_map, List.length_range, List.length_take, List.length_drop, List.length_reverse, List.length_set]; omega)) only [w_var, w_kI, w_kS, w_kB, w_kN, w_glob, w_of, w_bin, w_binA, w_binB, w_binC, w_neg, w_negA, w_negB, w_not, w_notA, w_cmp, w_cmpA, w_cmpB, w_cmpC, w_cmp2, w_c2A, w_c2B, w_c2Dt, w_c2Df, w_c2E, w_and, w_andT, w_andF, w_or, w_orT, w_orF, w_ite, w_iteT, w_iteF, w_tup, w_tupA, w_tupC, w_lst, w_lstA, w_lstC, w_dk0, w_dt0, w_nil, w_cons, w_consA, w_consB, w_idx, w_idxA, w_idxB, w_idxC, w_sl, w_slA, w_slB, w_slC, w_slD, w_pN, w_pK, w_pV, w_pI, w_pB, w_pM, w_pX, w_pBi, w_pC, w_pG, w_call, w_callA, w_callF, w_callT, w_lent, w_bi, w_biA, w_biC, w_me, w_meA, w_meB, w_meC, w_mu, w_muB, w_muC, w_muK, w_opK, w_dK, w_blK, w_lc, w_iRng, w_rngA, w_rng1, w_rng2, w_itA, w_itB, w_itC, w_itV, w_itG, w_itS, w_itBin, w_itTup, w_itLst, w_itIdx, w_itSl, w_itCall, w_itBi, w_itMe, w_itLc, w_enum, w_enA, w_enB, w_irev, w_rvA, w_rvBl, w_rvBt, w_izip, w_zpA, w_zpB, w_zpll, w_zplt, w_zptl, w_zptt, w_pass, w_done, w_expr, w_exprK, w_asg, w_asgV, w_asgN, w_asgT, w_asgTK, w_asgTC, w_put, w_putA, w_putE, w_putB, w_putC, w_putD, w_if, w_ifT, w_ifF, w_for, w_ret, w_retK, w_retC, w_retN, w_frz, w_seq, w_seqN, w_seqR, w_fin, w_finN, w_finRv, w_finRn, w_turnN, w_turnR, w_eltV, w_eltN, w_isB, w_whT, w_whF, get_val, get_new, get_ref', out_val, out_new, out_ref', noRef_nil, noRef_val, noRef_new, deref_nil, deref_val, deref_new, deref_ref, anyRef_nil, anyRef_val, anyRef_new, anyRef_ref, refsOf_nil, refsOf_val, refsOf_new, refsOf_ref, Option.map_some, Option.bind_some, cell_lst, cell_dK, cell_dT, List.set_cons_zero, List.set_cons_succ, List.getElem?_cons_zero, List.getElem?_cons_succ, wp_ok, Out.val_ok, op_add_i, op_sub_i, p_mulr, p_mull, op_mod_i, op_fdiv_i, op_pow_i, opNeg_i, lt_i, le_i, gt_i, ge_i, eq_ii, ne_ii, p_eqs, p_nes, eq_bb, ne_bb, isI_int, isI_str, isI_bl, isI_tup, isI_lst, isI_non, isI_dK, is_int, is_bl, is_str, is_tup, is_lst, is_dK, is_non, List.any_cons, List.any_nil, Bool.or_false, Bool.false_or, Bool.true_or, Bool.or_true, Bool.not_true, Bool.not_false, List.nil_append, List.cons_append, List.append_nil, decide_true, decide_false, listRev_l, tuple_l, tuple_t, list_l, list_t, len_l, len_t, p_lens, min_i, max_i, int_i, int_b, abs_i, sl_l, sl_t, p_sls, mu_append', mu_clear, items_l, items_t, items_s, bind_one, bind_two, idx_t0, idx_t1, idx_2l, idx_3l, cut_2l, cut_3l, wipeS_nil, wipeS_cons, backS_nil, backS_cons, p_isN_non, p_notN_non, solid_int, solid_str, solid_bl, solid_non, solid_tup, solidL_nil, solidL_cons, isNon_non, isNon_int, isNon_tup, isNon_lst, isNon_str, isNon_bl, p_extend, p_pop, idx_last, if_true, if_false, eq_self, Bool.false_eq_true, List.getD_cons_zero, List.getD_cons_succ, m_append, m_extend, m_insert, m_pop, m_popAt, m_clear, m_reverse, m_sdK, m_sdT, n_join, n_startswith, n_split, n_partition, n_index, n_sidx, n_getK, n_getT, n_getOrK, n_getOrT, List.length_cons, List.length_nil, p_cast, Nat.reduceAdd, Int.reduceEq, Int.reduceLT, Int.reduceLE, Int.reduceAdd, Int.reduceSub, Int.reduceMul, k_text_row, k_text_table, k_text_record, k_row_text, k_row_table, k_row_record, k_table_text, k_table_row, k_table_record, k_record_text, k_record_row, k_record_table, l_bl, l_int, l_str, l_non, lrng_1, lrng_2, w_gIx, w_gAt, p_addl, p_addt, p_adds, w_dispK, w_dispT, w_diA, w_diB, w_diC, w_diD, dis_i, dis_s, dis_t2, w_revL, w_rvlA, w_rvlC, w_isE, w_isEA, w_isEC, w_isEB, subAny_nil, w_atE, w_atA, w_raise, w_rsA, w_try, w_tryK, w_tryHn, w_tryHs, wp_exc, w_iez, w_ezA, w_ezB, w_ezC, w_callM, w_cmA, w_cmB, w_cmCr, w_cmCn, w_cmD, lastR_one, lastR_more, valRs_nil, valRs_cons, ownAt_eq, ownS_own, selfR_some, selfR_none, selfN_some, selfN_none, w_finM, w_fmN, w_fmRv, w_fmRr, w_fmC, w_retM, w_rmO, $ts,*])
local macro_rules | `(tactic| simp_arith) => `(tactic| simp (disch := first | assumption | omega | (simp only [List.length_cons, List.length_nil, List.length_append, List.length_map, List.length_range, List.length_take, List.length_drop, List.length_reverse, List.length_set]; omega)) only [w_var, w_kI, w_kS, w_kB, w_kN, w_glob, w_of, w_bin, w_binA, w_binB, w_binC, w_neg, w_negA, w_negB, w_not, w_notA, w_cmp, w_cmpA, w_cmpB, w_cmpC, w_cmp2, w_c2A, w_c2B, w_c2Dt, w_c2Df, w_c2E, w_and, w_andT, w_andF, w_or, w_orT, w_orF, w_ite, w_iteT, w_iteF, w_tup, w_tupA, w_tupC, w_lst, w_lstA, w_lstC, w_dk0, w_dt0, w_nil, w_cons, w_consA, w_consB, w_idx, w_idxA, w_idxB, w_idxC, w_sl, w_slA, w_slB, w_slC, w_slD, w_pN, w_pK, w_pV, w_pI, w_pB, w_pM, w_pX, w_pBi, w_pC, w_pG, w_call, w_callA, w_callF, w_callT, w_lent, w_bi, w_biA, w_biC, w_me, w_meA, w_meB, w_meC, w_mu, w_muB, w_muC, w_muK, w_opK, w_dK, w_blK, w_lc, w_iRng, w_rngA, w_rng1, w_rng2, w_itA, w_itB, w_itC, w_itV, w_itG, w_itS, w_itBin, w_itTup, w_itLst, w_itIdx, w_itSl, w_itCall, w_itBi, w_itMe, w_itLc, w_enum, w_enA, w_enB, w_irev, w_rvA, w_rvBl, w_rvBt, w_izip, w_zpA, w_zpB, w_zpll, w_zplt, w_zptl, w_zptt, w_pass, w_done, w_expr, w_exprK, w_asg, w_asgV, w_asgN, w_asgT, w_asgTK, w_asgTC, w_put, w_putA, w_putE, w_putB, w_putC, w_putD, w_if, w_ifT, w_ifF, w_for, w_ret, w_retK, w_retC, w_retN, w_frz, w_seq, w_seqN, w_seqR, w_fin, w_finN, w_finRv, w_finRn, w_turnN, w_turnR, w_eltV, w_eltN, w_isB, w_whT, w_whF, get_val, get_new, get_ref', out_val, out_new, out_ref', noRef_nil, noRef_val, noRef_new, deref_nil, deref_val, deref_new, deref_ref, anyRef_nil, anyRef_val, anyRef_new, anyRef_ref, refsOf_nil, refsOf_val, refsOf_new, refsOf_ref, Option.map_some, Option.bind_some, cell_lst, cell_dK, cell_dT, List.set_cons_zero, List.set_cons_succ, List.getElem?_cons_zero, List.getElem?_cons_succ, wp_ok, Out.val_ok, op_add_i, op_sub_i, p_mulr, p_mull, op_mod_i, op_fdiv_i, op_pow_i, opNeg_i, lt_i, le_i, gt_i, ge_i, eq_ii, ne_ii, p_eqs, p_nes, eq_bb, ne_bb, isI_int, isI_str, isI_bl, isI_tup, isI_lst, isI_non, isI_dK, is_int, is_bl, is_str, is_tup, is_lst, is_dK, is_non, List.any_cons, List.any_nil, Bool.or_false, Bool.false_or, Bool.true_or, Bool.or_true, Bool.not_true, Bool.not_false, List.nil_append, List.cons_append, List.append_nil, decide_true, decide_false, listRev_l, tuple_l, tuple_t, list_l, list_t, len_l, len_t, p_lens, min_i, max_i, int_i, int_b, abs_i, sl_l, sl_t, p_sls, mu_append', mu_clear, items_l, items_t, items_s, bind_one, bind_two, idx_t0, idx_t1, idx_2l, idx_3l, cut_2l, cut_3l, wipeS_nil, wipeS_cons, backS_nil, backS_cons, p_isN_non, p_notN_non, solid_int, solid_str, solid_bl, solid_non, solid_tup, solidL_nil, solidL_cons, isNon_non, isNon_int, isNon_tup, isNon_lst, isNon_str, isNon_bl, p_extend, p_pop, idx_last, if_true, if_false, eq_self, Bool.false_eq_true, List.getD_cons_zero, List.getD_cons_succ, m_append, m_extend, m_insert, m_pop, m_popAt, m_clear, m_reverse, m_sdK, m_sdT, n_join, n_startswith, n_split, n_partition, n_index, n_sidx, n_getK, n_getT, n_getOrK, n_getOrT, List.length_cons, List.length_nil, p_cast, Nat.reduceAdd, Int.reduceEq, Int.reduceLT, Int.reduceLE, Int.reduceAdd, Int.reduceSub, Int.reduceMul, k_text_row, k_text_table, k_text_record, k_row_text, k_row_table, k_row_record, k_table_text, k_table_row, k_table_record, k_record_text, k_record_row, k_record_table, l_bl, l_int, l_str, l_non, lrng_1, lrng_2, w_gIx, w_gAt, p_addl, p_addt, p_adds, w_dispK, w_dispT, w_diA, w_diB, w_diC, w_diD, dis_i, dis_s, dis_t2, w_revL, w_rvlA, w_rvlC, w_isE, w_isEA, w_isEC, w_isEB, subAny_nil, w_atE, w_atA, w_raise, w_rsA, w_try, w_tryK, w_tryHn, w_tryHs, wp_exc, w_iez, w_ezA, w_ezB, w_ezC, w_callM, w_cmA, w_cmB, w_cmCr, w_cmCn, w_cmD, lastR_one, lastR_more, valRs_nil, valRs_cons, ownAt_eq, ownS_own, selfR_some, selfR_none, selfN_some, selfN_none, w_finM, w_fmN, w_fmRv, w_fmRr, w_fmC, w_retM, w_rmO])

theorem erase_map {α β : Type} (f : α → β) : ∀ (l : List α) (i : Nat), (l.map f).eraseIdx i = (l.eraseIdx i).map f
  | [], i => by cases i <;> rfl
  | a :: l, 0 => rfl
  | a :: l, i + 1 => by
    show f a :: (l.map f).eraseIdx i = _
    rw [erase_map f l i]; rfl
theorem erase_perm : ∀ (l : List Nat) (i : Nat) (h : i < l.length), (l[i] :: l.eraseIdx i).Perm l
  | [], _, h => nomatch h
  | a :: l, 0, _ => List.Perm.refl _
  | a :: l, i + 1, h => (List.Perm.swap a (l[i]'(by simpa using h)) (l.eraseIdx i)).trans ((erase_perm l i (by simpa using h)).cons a)
theorem popAt_nD {l : List Nat} {i a : Nat} (h : l[i]? = some a) (hi : i < 16777216) : opMu .popAt (.lst (nD l)) [.int (i : Nat)] = .ok (.int (a : Nat), .lst (nD (l.eraseIdx i))) := by
  show (if (0 : Int) ≤ (i : Int) ∧ ((i : Int)).toNat < 16777216 then (match (nD l)[((i : Int)).toNat]? with
    | some d => Out.ok (d, Cell.lst ((nD l).eraseIdx ((i : Int)).toNat))
    | none => .stuck) else .stuck) = _
  rw [if_pos ⟨by omega, by omega⟩, Int.toNat_natCast, nD, List.getElem?_map, h]
  show Out.ok (D.int (a : Nat), Cell.lst ((l.map fun (k : Nat) => D.int k).eraseIdx i)) = _
  rw [erase_map]; rfl
theorem nD_rng (n : Nat) : rngD 0 (n : Int) = nD (List.range n) := by
  simp [rngD, nD]
theorem put_l {ds : List D} {i : Nat} (d : D) (h : i < ds.length) : Cell.put (.lst ds) (.int (i : Nat)) d = some (.lst (ds.set i d)) := by
  show (ixN ds.length (i : Int)).map (fun j => Cell.lst (ds.set j d)) = _
  rw [ixN_nn (by omega) (by omega), Int.toNat_natCast]; rfl

theorem pos_nth : ∀ {z : List Nat} {j a : Nat}, z.Nodup → z[j]? = some a → pos z a = j := fun {z j a} hd h => by
  have hj : j < z.length := (List.getElem?_eq_some_iff.mp h).1
  have ha : a ∈ z := List.mem_of_getElem? h
  have h2 := pos_get ha
  exact ((List.getElem?_inj hj hd).mp (h.trans h2.symm)).symm
theorem nD_set (l : List Nat) (a b : Nat) : (nD l).set a (.int (b : Nat)) = nD (l.set a b) := by
  unfold nD
  rw [List.map_set]
theorem take_mem {z : List Nat} {j a : Nat} (h : z[j]? = some a) (b : Nat) : b ∈ z.take (j + 1) ↔ b ∈ z.take j ∨ b = a := by
  have hj : j < z.length := (List.getElem?_eq_some_iff.mp h).1
  have e : z[j] = a := (List.getElem?_eq_some_iff.mp h).2
  rw [← List.take_append_getElem hj, List.mem_append, List.mem_singleton, e]
theorem due_in (k : Nat) {W : List Pa} {s : Nat} {K : List Nat} (hsK : s ∈ K) : pg.call (k + 1) 24 [.tup (webD W), .int s, .lst (nD K)] = .ok (.val (.tup [.tup (webD W), .int (s : Nat)])) := by
  apply eq_of_wp
  rw [c_law_due, w_fin]
  have I := nD_in s K
  rw [decide_eq_true hsK] at I
  simp_arith [b_law_due, I]
theorem due_many (k : Nat) {W : List Pa} (ok : okW W) {s : Nat} (hs : s < W.length) {K z : List Nat} (hz : MetB W K s z) (hsK : s ∉ K) (hW : W.length ≤ 60) (hl : 60 < W.length + z.length) : pg.call (k + 63) 24 [.tup (webD W), .int s, .lst (nD K)] = .ok (.val (.str "too many")) := by
  apply eq_of_wp
  rw [c_law_due, w_fin]
  have I := nD_in s K
  rw [decide_eq_false hsK] at I
  have M := met_in_eq k ok hW hs hz
  have wl := web_len W
  have zl := nD_len z
  have hgt : (60 : Int) < (W.length : Int) + (z.length : Int) := by omega
  simp_arith [b_law_due, I, em_law_met_in, M, wl, zl, hgt]
theorem due_eq (k : Nat) {W : List Pa} (ok : okW W) {s : Nat} (hs : s < W.length) {K z : List Nat} (hz : MetB W K s z) (hsK : s ∉ K) (hl : W.length + z.length ≤ 60) : pg.call (k + 63) 24 [.tup (webD W), .int s, .lst (nD K)] = .ok (.val (.tup [.tup (webD (copyW W z)), .int (W.length : Nat)])) := by
  apply eq_of_wp
  rw [c_law_due, w_fin]
  have I := nD_in s K
  rw [decide_eq_false hsK] at I
  have M := met_in_eq k ok (by omega) hs hz
  have db := hz.ds ok hs
  have wl := web_len W
  have zl := nD_len z
  have hgt : ¬ (60 : Int) < (W.length : Int) + (z.length : Int) := by omega
  simp_arith [b_law_due, I, em_law_met_in, M, wl, zl, hgt]
  refine for_rng (fun j e => ∃ (l : List Nat) (s5 : Slot), l.length = W.length ∧ (∀ a, a < W.length → l[a]? = some (if a ∈ z.take j then W.length + pos z a else a)) ∧ e = [.val (.tup (webD W)), .val (.int s), .val (.lst (nD K)), .val (.lst (nD z)), .own (.lst (nD l)), s5, .emp])
    ⟨List.range W.length, .emp, by simp, fun a ha => by simp [ha], by rw [nD_rng]⟩ (fun j e hj he => ?_) (fun e he => ?_)
  · obtain ⟨l, s5, hl1, hl2, rfl⟩ := he
    have hjz : j < z.length := by omega
    obtain ⟨b, hb⟩ : ∃ b, z[j]? = some b := ⟨z[j], List.getElem?_eq_getElem hjz⟩
    have hbz : b ∈ z := List.mem_of_getElem? hb
    have hbN := db.ds.lt b hbz
    have zi := nD_get hb
    have P := put_l (ds := nD l) (i := b) (.int ((W.length + j : Nat) : Int)) (by rw [nD_len]; omega)
    rw [nD_set] at P
    have hc : (W.length : Int) + (j : Int) = ((W.length + j : Nat) : Int) := by omega
    simp_arith [f_law_due_0, zi, wl, hc, P]
    refine ⟨_, _, by rw [List.length_set]; exact hl1, fun a ha => ?_, rfl⟩
    rw [List.getElem?_set]
    by_cases e : b = a
    · subst e
      rw [if_pos rfl, if_pos (by omega), if_pos ((take_mem hb b).mpr (.inr rfl)), pos_nth db.ds.nd hb]
    · rw [if_neg e, hl2 a ha]
      have : a ∈ z.take (j + 1) ↔ a ∈ z.take j := by rw [take_mem hb]; exact ⟨fun h => h.elim id fun h => absurd h.symm e, .inl⟩
      simp only [this]
  · obtain ⟨l, s5, hl1, hl2, rfl⟩ := he
    have hl2 : ∀ a, a < W.length → opIdx (.lst (nD l)) (.int (a : Nat)) = .ok (.int (cpF W.length z a : Nat)) := fun a ha => by
      refine nD_get ?_
      rw [hl2 a ha, show ((z.length : Nat) : Int).toNat = z.length by omega, List.take_length]; rfl
    simp_arith
    refine lc_each (f := fun a => ((W.getD a noP).re (cpF W.length z)).pt.d) rfl (by omega) (fun a ha => ⟨_, rfl, ?_⟩) ?_
    · have haN := db.ds.lt a ha
      have ix := web_idx (getD_ok haN)
      have okp := ok.2 _ (getD_mem haN)
      have L := lled_eq (k + 60) okp.1 (φ := cpF W.length z) (dd := .lst (nD l)) fun i hi => hl2 i (okp.2 i hi)
      simp_arith [ix, e_law_led, L]
    · have e1 : webD W ++ z.map (fun a => ((W.getD a noP).re (cpF W.length z)).pt.d) = webD (copyW W z) := by
        unfold copyW webD
        rw [List.map_append, List.map_map]; rfl
      have l1 : (z.map fun a => ((W.getD a noP).re (cpF W.length z)).pt.d).length = z.length := by simp
      simp_arith [wl, l1, e1]
theorem copied_many (k : Nat) {W : List Pa} (ok : okW W) {s : Nat} (hs : s < W.length) {K z : List Nat} (hz : MetB W K s z) (hsK : s ∉ K) (hl : 60 < W.length + z.length) : pg.call (k + 5) 8 [.tup (webD W), .int s, .lst (nD K)] = .exc ⟨"TooMany", none⟩ := by
  apply exc_wp
  rw [c_copied, w_fin]
  have M := met_but_eq k ok hs hz
  have wl := web_len W
  have zl := nD_len z
  have I := nD_in s K
  rw [decide_eq_false hsK] at I
  have n0 : opCmp .isN (.lst (nD K)) .non = .ok false := rfl
  have hgt : (60 : Int) < (W.length : Int) + (z.length : Int) := by omega
  simp_arith [b_copied, n0, I, e_met_but, M, wl, zl, g_MOST_PARTS, hgt]
theorem copied_none (k : Nat) (w s : D) : pg.call (k + 1) 8 [w, s, .non] = pg.call (k + 1) 8 [w, s, .lst []] := by
  rw [c_copied, c_copied]
  unfold b_copied
  rw [evS_seq, evS_seq]
  have n0 : opCmp .isN (.lst []) .non = .ok false := rfl
  have n1 : opCmp .isN .non .non = .ok true := rfl
  have e1 : ∀ (a b c : Slot) (l m : D), evS (pg.cx k) (.if_ (.cmp .isN (.var 2) .kN) (.seq (.asg 2 (.lst .nil)) (.seq (.frz 2) .done)) .done) [.val l, .val m, .val .non, a, b, c] = .ok (.next, [.val l, .val m, .val (.lst []), a, b, c]) := fun a b c l m => by
    apply eq_of_wp
    simp_arith [n1]
  have e2 : ∀ (a b c : Slot) (l m : D), evS (pg.cx k) (.if_ (.cmp .isN (.var 2) .kN) (.seq (.asg 2 (.lst .nil)) (.seq (.frz 2) .done)) .done) [.val l, .val m, .val (.lst []), a, b, c] = .ok (.next, [.val l, .val m, .val (.lst []), a, b, c]) := fun a b c l m => by
    apply eq_of_wp
    simp_arith [n0]
  rw [e1, e2]
/-- what is told of a copy -/
def resZ (W : List Pa) (K : List Nat) (s : Nat) (z : List Nat) : D := if s ∈ K then .tup [.tup (webD W), .int (s : Nat)] else if 60 < W.length + z.length then .str "too many" else .tup [.tup (webD (copyW W z)), .int (W.length : Nat)]
theorem due_res (k : Nat) {W : List Pa} (ok : okW W) (hW : W.length ≤ 60) {s : Nat} (hs : s < W.length) {K z : List Nat} (hz : MetB W K s z) : pg.call (k + 63) 24 [.tup (webD W), .int s, .lst (nD K)] = .ok (.val (resZ W K s z)) := by
  unfold resZ
  by_cases h1 : s ∈ K
  · rw [if_pos h1]; exact due_in (k + 62) h1
  · rw [if_neg h1]
    by_cases h2 : 60 < W.length + z.length
    · rw [if_pos h2]; exact due_many k ok hs hz h1 hW h2
    · rw [if_neg h2]; exact due_eq k ok hs hz h1 (by omega)
theorem resZ_plain (W : List Pa) (K : List Nat) (s : Nat) (z : List Nat) : (resZ W K s z).plain = true ∧ (resZ W K s z).depth ≤ 64 := by
  have a := web_plain W
  have b := web_plain (copyW W z)
  unfold resZ
  split
  · have a1 := a.1; have a2 := a.2
    simp only [plain_tup, depth_tup] at a1 a2
    simp [a1]; omega
  · split
    · simp
    · have a1 := b.1; have a2 := b.2
      simp only [plain_tup, depth_tup] at a1 a2
      simp [a1]; omega
end PyI.K22

end
section
namespace PyI.K22
open PySem PySem.Spec PyProof.Rows L2
local macro_rules | `(tactic| simp_arith [$ts,*]) => `(tactic| simp (disch := first | assumption | omega | (simp only [List.length_cons, List.length_nil, List.length_append, List.length_map, List.length_range, List.length_take, List.length_drop, List.length_reverse, List.length_set]; omega)) only [w_var, w_kI, w_kS, w_kB, w_kN, w_glob, w_of, w_bin, w_binA, w_binB, w_binC, w_neg, w_negA, w_negB, w_not, w_notA, w_cmp, w_cmpA, w_cmpB, w_cmpC, w_cmp2, w_c2A, w_c2B, w_c2Dt, w_c2Df, w_c2E, w_and, w_andT, w_andF, w_or, w_orT, w_orF, w_ite, w_iteT, w_iteF, w_tup, w_tupA, w_tupC, w_lst, w_lstA, w_lstC, w_dk0, w_dt0, w_nil, w_cons, w_consA, w_consB, w_idx, w_idxA, w_idxB, w_idxC, w_sl, w_slA, w_slB, w_slC, w_slD, w_pN, w_pK, w_pV, w_pI, w_pB, w_pM, w_pX, w_pBi, w_pC, w_pG, w_call, w_callA, w_callF, w_callT, w_lent, w_bi, w_biA, w_biC, w_me, w_meA, w_meB, w_meC, w_mu, w_muB, w_muC, w_muK, w_opK, w_dK, w_blK, w_lc, w_iRng, w_rngA, w_rng1, w_rng2, w_itA, w_itB, w_itC, w_itV, w_itG, w_itS, w_itBin, w_itTup, w_itLst, w_itIdx, w_itSl, w_itCall, w_itBi, w_itMe, w_itLc, w_enum, w_enA, w_enB, w_irev, w_rvA, w_rvBl, w_rvBt, w_izip, w_zpA, w_zpB, w_zpll, w_zplt, w_zptl, w_zptt, w_pass, w_done, w_expr, w_exprK, w_asg, w_asgV, w_asgN, w_asgT, w_asgTK, w_asgTC, w_put, w_putA, w_putE, w_putB, w_putC, w_putD, w_if, w_ifT, w_ifF, w_for, w_ret, w_retK, w_retC, w_retN, w_frz, w_seq, w_seqN, w_seqR, w_fin, w_finN, w_finRv, w_finRn, w_turnN, w_turnR, w_eltV, w_eltN, w_isB, w_whT, w_whF, get_val, get_new, get_ref', out_val, out_new, out_ref', noRef_nil, noRef_val, noRef_new, deref_nil, deref_val, deref_new, deref_ref, anyRef_nil, anyRef_val, anyRef_new, anyRef_ref, refsOf_nil, refsOf_val, refsOf_new, refsOf_ref, Option.map_some, Option.bind_some, cell_lst, cell_dK, cell_dT, List.set_cons_zero, List.set_cons_succ, List.getElem?_cons_zero, List.getElem?_cons_succ, wp_ok, Out.val_ok, op_add_i, op_sub_i, p_mulr, p_mull, op_mod_i, op_fdiv_i, op_pow_i, opNeg_i, lt_i, le_i, gt_i, ge_i, eq_ii, ne_ii, p_eqs, p_nes, eq_bb, ne_bb, isI_int, isI_str, isI_bl, isI_tup, isI_lst, isI_non, isI_dK, is_int, is_bl, is_str, is_tup, is_lst, is_dK, is_non, List.any_cons, List.any_nil, Bool.or_false, Bool.false_or, Bool.true_or, Bool.or_true, Bool.not_true, Bool.not_false, List.nil_append, List.cons_append, List.append_nil, decide_true, decide_false, listRev_l, tuple_l, tuple_t, list_l, list_t, len_l, len_t, p_lens, min_i, max_i, int_i, int_b, abs_i, sl_l, sl_t, p_sls, mu_append', mu_clear, items_l, items_t, items_s, bind_one, bind_two, idx_t0, idx_t1, idx_2l, idx_3l, cut_2l, cut_3l, wipeS_nil, wipeS_cons, backS_nil, backS_cons, p_isN_non, p_notN_non, solid_int, solid_str, solid_bl, solid_non, solid_tup, solidL_nil, solidL_cons, isNon_non, isNon_int, isNon_tup, isNon_lst, isNon_str, isNon_bl, p_extend, p_pop, idx_last, if_true, if_false, eq_self, Bool.false_eq_true, List.getD_cons_zero, List.getD_cons_succ, m_append, m_extend, m_insert, m_pop, m_popAt, m_clear, m_reverse, m_sdK, m_sdT, n_join, n_startswith, n_split, n_partition, n_index, n_sidx, n_getK, n_getT, n_getOrK, n_getOrT, List.length_cons, List.length_nil, p_cast, Nat.reduceAdd, Int.reduceEq, Int.reduceLT, Int.reduceLE, Int.reduceAdd, Int.reduceSub, Int.reduceMul, k_text_row, k_text_table, k_text_record, k_row_text, k_row_table, k_row_record, k_table_text, k_table_row, k_table_record, k_record_text, k_record_row, k_record_table, l_bl, l_int, l_str, l_non, lrng_1, lrng_2, w_gIx, w_gAt, p_addl, p_addt, p_adds, w_dispK, w_dispT, w_diA, w_diB, w_diC, w_diD, dis_i, dis_s, dis_t2, w_revL, w_rvlA, w_rvlC, w_isE, w_isEA, w_isEC, w_isEB, subAny_nil, w_atE, w_atA, w_raise, w_rsA, w_try, w_tryK, w_tryHn, w_tryHs, wp_exc, w_iez, w_ezA, w_ezB, w_ezC, w_callM, w_cmA, w_cmB, w_cmCr, w_cmCn, w_cmD, lastR_one, lastR_more, valRs_nil, valRs_cons, ownAt_eq, ownS_own, selfR_some, selfR_none, selfN_some, selfN_none, w_finM, w_fmN, w_fmRv, w_fmRr, w_fmC, w_retM, w_rmO, $ts,*])
local macro_rules | `(tactic| simp_arith) => `(tactic| simp (disch := first | assumption | omega | (simp only [List.length_cons, List.length_nil, List.length_append, List.length_map, List.length_range, List.length_take, List.length_drop, List.length_reverse, List.length_set]; omega)) only [w_var, w_kI, w_kS, w_kB, w_kN, w_glob, w_of, w_bin, w_binA, w_binB, w_binC, w_neg, w_negA, w_negB, w_not, w_notA, w_cmp, w_cmpA, w_cmpB, w_cmpC, w_cmp2, w_c2A, w_c2B, w_c2Dt, w_c2Df, w_c2E, w_and, w_andT, w_andF, w_or, w_orT, w_orF, w_ite, w_iteT, w_iteF, w_tup, w_tupA, w_tupC, w_lst, w_lstA, w_lstC, w_dk0, w_dt0, w_nil, w_cons, w_consA, w_consB, w_idx, w_idxA, w_idxB, w_idxC, w_sl, w_slA, w_slB, w_slC, w_slD, w_pN, w_pK, w_pV, w_pI, w_pB, w_pM, w_pX, w_pBi, w_pC, w_pG, w_call, w_callA, w_callF, w_callT, w_lent, w_bi, w_biA, w_biC, w_me, w_meA, w_meB, w_meC, w_mu, w_muB, w_muC, w_muK, w_opK, w_dK, w_blK, w_lc, w_iRng, w_rngA, w_rng1, w_rng2, w_itA, w_itB, w_itC, w_itV, w_itG, w_itS, w_itBin, w_itTup, w_itLst, w_itIdx, w_itSl, w_itCall, w_itBi, w_itMe, w_itLc, w_enum, w_enA, w_enB, w_irev, w_rvA, w_rvBl, w_rvBt, w_izip, w_zpA, w_zpB, w_zpll, w_zplt, w_zptl, w_zptt, w_pass, w_done, w_expr, w_exprK, w_asg, w_asgV, w_asgN, w_asgT, w_asgTK, w_asgTC, w_put, w_putA, w_putE, w_putB, w_putC, w_putD, w_if, w_ifT, w_ifF, w_for, w_ret, w_retK, w_retC, w_retN, w_frz, w_seq, w_seqN, w_seqR, w_fin, w_finN, w_finRv, w_finRn, w_turnN, w_turnR, w_eltV, w_eltN, w_isB, w_whT, w_whF, get_val, get_new, get_ref', out_val, out_new, out_ref', noRef_nil, noRef_val, noRef_new, deref_nil, deref_val, deref_new, deref_ref, anyRef_nil, anyRef_val, anyRef_new, anyRef_ref, refsOf_nil, refsOf_val, refsOf_new, refsOf_ref, Option.map_some, Option.bind_some, cell_lst, cell_dK, cell_dT, List.set_cons_zero, List.set_cons_succ, List.getElem?_cons_zero, List.getElem?_cons_succ, wp_ok, Out.val_ok, op_add_i, op_sub_i, p_mulr, p_mull, op_mod_i, op_fdiv_i, op_pow_i, opNeg_i, lt_i, le_i, gt_i, ge_i, eq_ii, ne_ii, p_eqs, p_nes, eq_bb, ne_bb, isI_int, isI_str, isI_bl, isI_tup, isI_lst, isI_non, isI_dK, is_int, is_bl, is_str, is_tup, is_lst, is_dK, is_non, List.any_cons, List.any_nil, Bool.or_false, Bool.false_or, Bool.true_or, Bool.or_true, Bool.not_true, Bool.not_false, List.nil_append, List.cons_append, List.append_nil, decide_true, decide_false, listRev_l, tuple_l, tuple_t, list_l, list_t, len_l, len_t, p_lens, min_i, max_i, int_i, int_b, abs_i, sl_l, sl_t, p_sls, mu_append', mu_clear, items_l, items_t, items_s, bind_one, bind_two, idx_t0, idx_t1, idx_2l, idx_3l, cut_2l, cut_3l, wipeS_nil, wipeS_cons, backS_nil, backS_cons, p_isN_non, p_notN_non, solid_int, solid_str, solid_bl, solid_non, solid_tup, solidL_nil, solidL_cons, isNon_non, isNon_int, isNon_tup, isNon_lst, isNon_str, isNon_bl, p_extend, p_pop, idx_last, if_true, if_false, eq_self, Bool.false_eq_true, List.getD_cons_zero, List.getD_cons_succ, m_append, m_extend, m_insert, m_pop, m_popAt, m_clear, m_reverse, m_sdK, m_sdT, n_join, n_startswith, n_split, n_partition, n_index, n_sidx, n_getK, n_getT, n_getOrK, n_getOrT, List.length_cons, List.length_nil, p_cast, Nat.reduceAdd, Int.reduceEq, Int.reduceLT, Int.reduceLE, Int.reduceAdd, Int.reduceSub, Int.reduceMul, k_text_row, k_text_table, k_text_record, k_row_text, k_row_table, k_row_record, k_table_text, k_table_row, k_table_record, k_record_text, k_record_row, k_record_table, l_bl, l_int, l_str, l_non, lrng_1, lrng_2, w_gIx, w_gAt, p_addl, p_addt, p_adds, w_dispK, w_dispT, w_diA, w_diB, w_diC, w_diD, dis_i, dis_s, dis_t2, w_revL, w_rvlA, w_rvlC, w_isE, w_isEA, w_isEC, w_isEB, subAny_nil, w_atE, w_atA, w_raise, w_rsA, w_try, w_tryK, w_tryHn, w_tryHs, wp_exc, w_iez, w_ezA, w_ezB, w_ezC, w_callM, w_cmA, w_cmB, w_cmCr, w_cmCn, w_cmD, lastR_one, lastR_more, valRs_nil, valRs_cons, ownAt_eq, ownS_own, selfR_some, selfR_none, selfN_some, selfN_none, w_finM, w_fmN, w_fmRv, w_fmRr, w_fmC, w_retM, w_rmO])

def pNe (s : Nat) : D → Bool
  | .int i => !decide (i = (s : Int))
  | _ => false
def others (N s : Nat) : List Nat := (List.range N).filter fun a => !decide ((a : Int) = (s : Int))
theorem filt_ne (s : Nat) : ∀ l : List Nat, (nD l).filter (pNe s) = nD (l.filter fun a => !decide ((a : Int) = (s : Int)))
  | [] => rfl
  | a :: l => by
    have ih := filt_ne s l
    show (D.int (a : Nat) :: nD l).filter (pNe s) = _
    rw [List.filter_cons, List.filter_cons, ih]
    show (if (!decide ((a : Int) = (s : Int))) = true then _ else _) = _
    split <;> rfl
theorem filt_oth (N s : Nat) : ((rngD 0 (N : Int)).filter (pNe s)).map id = nD (others N s) := by
  rw [nD_rng, filt_ne, List.map_id]; rfl
theorem oth_lt {N s : Nat} : ∀ a ∈ others N s, a < N := fun a ha => by
  have := (List.mem_filter.mp ha).1
  simpa using this
theorem shallow_eq (k : Nat) {W : List Pa} (hW : W.length ≤ 60) (s : Nat) {o : Out Res} (h : pg.call k 8 [.tup (webD W), .int s, .lst (nD (others W.length s))] = o) (ho : (∃ d, o = .ok (.val d)) ∨ ∃ x, o = .exc x) : pg.call (k + 1) 9 [.tup (webD W), .int s] = o := by
  have wl := web_len W
  rcases ho with ⟨d, rfl⟩ | ⟨x, rfl⟩
  · apply eq_of_wp
    rw [c_shallow, w_fin]
    simp_arith [b_shallow, wl]
    refine lc_test (pNe s) id rfl (by rw [rngd_len]; omega) rfl (fun d hd => ?_) ?_
    · obtain ⟨j, hj, rfl⟩ := rngd_mem hd
      refine ⟨_, rfl, ?_, fun _ => ?_⟩
      · simp_arith
        rfl
      · simp_arith
        rfl
    · rw [filt_oth]
      simp_arith [e_copied, h]
  · apply exc_wp
    rw [c_shallow, w_fin]
    simp_arith [b_shallow, wl]
    refine lc_test (pNe s) id rfl (by rw [rngd_len]; omega) rfl (fun d hd => ?_) ?_
    · obtain ⟨j, hj, rfl⟩ := rngd_mem hd
      refine ⟨_, rfl, ?_, fun _ => ?_⟩
      · simp_arith
        rfl
      · simp_arith
        rfl
    · rw [filt_oth]
      simp_arith [e_copied, h]
theorem k_tm_e : (("too many" : Str) = "") = False := eq_false (by decide +kernel)
theorem told_ok0 (k : Nat) {w s t a : D} {i : Int} (h : pg.call k 8 [w, s, t] = .ok (.val (.tup [a, .int i]))) : pg.call (k + 1) 25 [.int 0, w, s, t] = .ok (.val (.tup [a, .int i])) := by
  apply eq_of_wp
  rw [c_law_told, w_fin]
  simp_arith [b_law_told, f_law_told_0, e_copied, h]
theorem told_ok1 (k : Nat) {w s t a : D} {i : Int} (h : pg.call k 8 [w, s, .non] = .ok (.val (.tup [a, .int i]))) : pg.call (k + 1) 25 [.int 1, w, s, t] = .ok (.val (.tup [a, .int i])) := by
  apply eq_of_wp
  rw [c_law_told, w_fin]
  simp_arith [b_law_told, f_law_told_0, e_copied_1, h]
theorem told_ok2 (k : Nat) {w s t a : D} {i : Int} (h : pg.call k 9 [w, s] = .ok (.val (.tup [a, .int i]))) : pg.call (k + 1) 25 [.int 2, w, s, t] = .ok (.val (.tup [a, .int i])) := by
  apply eq_of_wp
  rw [c_law_told, w_fin]
  simp_arith [b_law_told, f_law_told_0, e_shallow, h]
theorem told_ex0 (k : Nat) {w s t : D} (h : pg.call k 8 [w, s, t] = .exc ⟨"TooMany", none⟩) : pg.call (k + 1) 25 [.int 0, w, s, t] = .ok (.val (.str "too many")) := by
  apply eq_of_wp
  rw [c_law_told, w_fin]
  simp_arith [b_law_told, f_law_told_0, e_copied, h]
  rw [w_tryE (e2 := [.val (.int 0), .val w, .val s, .val t, .emp, .val (.str ""), .emp]) (s_TooMany_WebError _) rfl]
  simp_arith [f_law_told_1, subAny_cons _ (s_TooMany_NoPlace _), subAny_cons _ (s_TooMany_NoValue _), subAny_cons _ (s_TooMany_NoPack _), subAny_cons _ (s_TooMany_NoText _), subAny_cons _ (s_TooMany_NoWay _), subAny_cons _ (s_TooMany_TooMany _), subAny_cons _ (s_TooMany_ValueError _), k_tm_e]
theorem told_ex1 (k : Nat) {w s t : D} (h : pg.call k 8 [w, s, .non] = .exc ⟨"TooMany", none⟩) : pg.call (k + 1) 25 [.int 1, w, s, t] = .ok (.val (.str "too many")) := by
  apply eq_of_wp
  rw [c_law_told, w_fin]
  simp_arith [b_law_told, f_law_told_0, e_copied_1, h]
  rw [w_tryE (e2 := [.val (.int 1), .val w, .val s, .val t, .emp, .val (.str ""), .emp]) (s_TooMany_WebError _) rfl]
  simp_arith [f_law_told_1, subAny_cons _ (s_TooMany_NoPlace _), subAny_cons _ (s_TooMany_NoValue _), subAny_cons _ (s_TooMany_NoPack _), subAny_cons _ (s_TooMany_NoText _), subAny_cons _ (s_TooMany_NoWay _), subAny_cons _ (s_TooMany_TooMany _), subAny_cons _ (s_TooMany_ValueError _), k_tm_e]
theorem told_ex2 (k : Nat) {w s t : D} (h : pg.call k 9 [w, s] = .exc ⟨"TooMany", none⟩) : pg.call (k + 1) 25 [.int 2, w, s, t] = .ok (.val (.str "too many")) := by
  apply eq_of_wp
  rw [c_law_told, w_fin]
  simp_arith [b_law_told, f_law_told_0, e_shallow, h]
  rw [w_tryE (e2 := [.val (.int 2), .val w, .val s, .val t, .emp, .val (.str ""), .emp]) (s_TooMany_WebError _) rfl]
  simp_arith [f_law_told_1, subAny_cons _ (s_TooMany_NoPlace _), subAny_cons _ (s_TooMany_NoValue _), subAny_cons _ (s_TooMany_NoPack _), subAny_cons _ (s_TooMany_NoText _), subAny_cons _ (s_TooMany_NoWay _), subAny_cons _ (s_TooMany_TooMany _), subAny_cons _ (s_TooMany_ValueError _), k_tm_e]
/-- a copy or TooMany -/
theorem copied_res (k : Nat) {W : List Pa} (ok : okW W) {s : Nat} (hs : s < W.length) {K z : List Nat} (hz : MetB W K s z) :
    (∃ a i, resZ W K s z = .tup [a, .int i] ∧ pg.call (k + 5) 8 [.tup (webD W), .int s, .lst (nD K)] = .ok (.val (.tup [a, .int i]))) ∨ (resZ W K s z = .str "too many" ∧ pg.call (k + 5) 8 [.tup (webD W), .int s, .lst (nD K)] = .exc ⟨"TooMany", none⟩) := by
  unfold resZ
  by_cases h1 : s ∈ K
  · rw [if_pos h1]
    exact .inl ⟨_, _, rfl, copied_in (k + 4) h1⟩
  · rw [if_neg h1]
    by_cases h2 : 60 < W.length + z.length
    · rw [if_pos h2]; exact .inr ⟨rfl, copied_many k ok hs hz h1 h2⟩
    · rw [if_neg h2]; exact .inl ⟨_, _, rfl, copied_eq k ok hs hz h1 (by omega)⟩
theorem told_0 (k : Nat) {W : List Pa} (ok : okW W) {s : Nat} (hs : s < W.length) {K z : List Nat} (hz : MetB W K s z) : pg.call (k + 6) 25 [.int 0, .tup (webD W), .int s, .lst (nD K)] = .ok (.val (resZ W K s z)) := by
  rcases copied_res k ok hs hz with ⟨a, i, h1, h2⟩ | ⟨h1, h2⟩
  · rw [h1]; exact told_ok0 (k + 5) h2
  · rw [h1]; exact told_ex0 (k + 5) h2
theorem told_0n (k : Nat) {W : List Pa} (ok : okW W) {s : Nat} (hs : s < W.length) {z : List Nat} (hz : MetB W [] s z) : pg.call (k + 6) 25 [.int 0, .tup (webD W), .int s, .non] = .ok (.val (resZ W [] s z)) := by
  rcases copied_res k ok hs hz with ⟨a, i, h1, h2⟩ | ⟨h1, h2⟩
  · rw [h1]; exact told_ok0 (k + 5) ((copied_none (k + 4) _ _).trans h2)
  · rw [h1]; exact told_ex0 (k + 5) ((copied_none (k + 4) _ _).trans h2)
theorem told_1 (k : Nat) {W : List Pa} (ok : okW W) {s : Nat} (hs : s < W.length) {z : List Nat} (hz : MetB W [] s z) (t : D) : pg.call (k + 6) 25 [.int 1, .tup (webD W), .int s, t] = .ok (.val (resZ W [] s z)) := by
  rcases copied_res k ok hs hz with ⟨a, i, h1, h2⟩ | ⟨h1, h2⟩
  · rw [h1]; exact told_ok1 (k + 5) ((copied_none (k + 4) _ _).trans h2)
  · rw [h1]; exact told_ex1 (k + 5) ((copied_none (k + 4) _ _).trans h2)
theorem told_2 (k : Nat) {W : List Pa} (ok : okW W) (hW : W.length ≤ 60) {s : Nat} (hs : s < W.length) {z : List Nat} (hz : MetB W (others W.length s) s z) (t : D) : pg.call (k + 7) 25 [.int 2, .tup (webD W), .int s, t] = .ok (.val (resZ W (others W.length s) s z)) := by
  rcases copied_res k ok hs hz with ⟨a, i, h1, h2⟩ | ⟨h1, h2⟩
  · rw [h1]; exact told_ok2 (k + 6) (shallow_eq (k + 5) hW s h2 (.inl ⟨_, rfl⟩))
  · rw [h1]; exact told_ex2 (k + 6) (shallow_eq (k + 5) hW s h2 (.inr ⟨_, rfl⟩))
end PyI.K22

end
section
namespace PyI.K22
open PySem PySem.Spec PyProof.Rows L2
local macro_rules | `(tactic| simp_arith [$ts,*]) => `(tactic| simp (disch := first | assumption | omega | (simp only [List.length_cons, List.length_nil, List.length_append, List.length_map, List.length_range, List.length_take, List.length_drop, List.length_reverse, List.length_set]; omega)) only [w_var, w_kI, w_kS, w_kB, w_kN, w_glob, w_of, w_bin, w_binA, w_binB, w_binC, w_neg, w_negA, w_negB, w_not, w_notA, w_cmp, w_cmpA, w_cmpB, w_cmpC, w_cmp2, w_c2A, w_c2B, w_c2Dt, w_c2Df, w_c2E, w_and, w_andT, w_andF, w_or, w_orT, w_orF, w_ite, w_iteT, w_iteF, w_tup, w_tupA, w_tupC, w_lst, w_lstA, w_lstC, w_dk0, w_dt0, w_nil, w_cons, w_consA, w_consB, w_idx, w_idxA, w_idxB, w_idxC, w_sl, w_slA, w_slB, w_slC, w_slD, w_pN, w_pK, w_pV, w_pI, w_pB, w_pM, w_pX, w_pBi, w_pC, w_pG, w_call, w_callA, w_callF, w_callT, w_lent, w_bi, w_biA, w_biC, w_me, w_meA, w_meB, w_meC, w_mu, w_muB, w_muC, w_muK, w_opK, w_dK, w_blK, w_lc, w_iRng, w_rngA, w_rng1, w_rng2, w_itA, w_itB, w_itC, w_itV, w_itG, w_itS, w_itBin, w_itTup, w_itLst, w_itIdx, w_itSl, w_itCall, w_itBi, w_itMe, w_itLc, w_enum, w_enA, w_enB, w_irev, w_rvA, w_rvBl, w_rvBt, w_izip, w_zpA, w_zpB, w_zpll, w_zplt, w_zptl, w_zptt, w_pass, w_done, w_expr, w_exprK, w_asg, w_asgV, w_asgN, w_asgT, w_asgTK, w_asgTC, w_put, w_putA, w_putE, w_putB, w_putC, w_putD, w_if, w_ifT, w_ifF, w_for, w_ret, w_retK, w_retC, w_retN, w_frz, w_seq, w_seqN, w_seqR, w_fin, w_finN, w_finRv, w_finRn, w_turnN, w_turnR, w_eltV, w_eltN, w_isB, w_whT, w_whF, get_val, get_new, get_ref', out_val, out_new, out_ref', noRef_nil, noRef_val, noRef_new, deref_nil, deref_val, deref_new, deref_ref, anyRef_nil, anyRef_val, anyRef_new, anyRef_ref, refsOf_nil, refsOf_val, refsOf_new, refsOf_ref, Option.map_some, Option.bind_some, cell_lst, cell_dK, cell_dT, List.set_cons_zero, List.set_cons_succ, List.getElem?_cons_zero, List.getElem?_cons_succ, wp_ok, Out.val_ok, op_add_i, op_sub_i, p_mulr, p_mull, op_mod_i, op_fdiv_i, op_pow_i, opNeg_i, lt_i, le_i, gt_i, ge_i, eq_ii, ne_ii, p_eqs, p_nes, eq_bb, ne_bb, isI_int, isI_str, isI_bl, isI_tup, isI_lst, isI_non, isI_dK, is_int, is_bl, is_str, is_tup, is_lst, is_dK, is_non, List.any_cons, List.any_nil, Bool.or_false, Bool.false_or, Bool.true_or, Bool.or_true, Bool.not_true, Bool.not_false, List.nil_append, List.cons_append, List.append_nil, decide_true, decide_false, listRev_l, tuple_l, tuple_t, list_l, list_t, len_l, len_t, p_lens, min_i, max_i, int_i, int_b, abs_i, sl_l, sl_t, p_sls, mu_append', mu_clear, items_l, items_t, items_s, bind_one, bind_two, idx_t0, idx_t1, idx_2l, idx_3l, cut_2l, cut_3l, wipeS_nil, wipeS_cons, backS_nil, backS_cons, p_isN_non, p_notN_non, solid_int, solid_str, solid_bl, solid_non, solid_tup, solidL_nil, solidL_cons, isNon_non, isNon_int, isNon_tup, isNon_lst, isNon_str, isNon_bl, p_extend, p_pop, idx_last, if_true, if_false, eq_self, Bool.false_eq_true, List.getD_cons_zero, List.getD_cons_succ, m_append, m_extend, m_insert, m_pop, m_popAt, m_clear, m_reverse, m_sdK, m_sdT, n_join, n_startswith, n_split, n_partition, n_index, n_sidx, n_getK, n_getT, n_getOrK, n_getOrT, List.length_cons, List.length_nil, p_cast, Nat.reduceAdd, Int.reduceEq, Int.reduceLT, Int.reduceLE, Int.reduceAdd, Int.reduceSub, Int.reduceMul, k_text_row, k_text_table, k_text_record, k_row_text, k_row_table, k_row_record, k_table_text, k_table_row, k_table_record, k_record_text, k_record_row, k_record_table, l_bl, l_int, l_str, l_non, lrng_1, lrng_2, w_gIx, w_gAt, p_addl, p_addt, p_adds, w_dispK, w_dispT, w_diA, w_diB, w_diC, w_diD, dis_i, dis_s, dis_t2, w_revL, w_rvlA, w_rvlC, w_isE, w_isEA, w_isEC, w_isEB, subAny_nil, w_atE, w_atA, w_raise, w_rsA, w_try, w_tryK, w_tryHn, w_tryHs, wp_exc, w_iez, w_ezA, w_ezB, w_ezC, w_callM, w_cmA, w_cmB, w_cmCr, w_cmCn, w_cmD, lastR_one, lastR_more, valRs_nil, valRs_cons, ownAt_eq, ownS_own, selfR_some, selfR_none, selfN_some, selfN_none, w_finM, w_fmN, w_fmRv, w_fmRr, w_fmC, w_retM, w_rmO, $ts,*])
local macro_rules | `(tactic| simp_arith) => `(tactic| simp (disch := first | assumption | omega | (simp only [List.length_cons, List.length_nil, List.length_append, List.length_map, List.length_range, List.length_take, List.length_drop, List.length_reverse, List.length_set]; omega)) only [w_var, w_kI, w_kS, w_kB, w_kN, w_glob, w_of, w_bin, w_binA, w_binB, w_binC, w_neg, w_negA, w_negB, w_not, w_notA, w_cmp, w_cmpA, w_cmpB, w_cmpC, w_cmp2, w_c2A, w_c2B, w_c2Dt, w_c2Df, w_c2E, w_and, w_andT, w_andF, w_or, w_orT, w_orF, w_ite, w_iteT, w_iteF, w_tup, w_tupA, w_tupC, w_lst, w_lstA, w_lstC, w_dk0, w_dt0, w_nil, w_cons, w_consA, w_consB, w_idx, w_idxA, w_idxB, w_idxC, w_sl, w_slA, w_slB, w_slC, w_slD, w_pN, w_pK, w_pV, w_pI, w_pB, w_pM, w_pX, w_pBi, w_pC, w_pG, w_call, w_callA, w_callF, w_callT, w_lent, w_bi, w_biA, w_biC, w_me, w_meA, w_meB, w_meC, w_mu, w_muB, w_muC, w_muK, w_opK, w_dK, w_blK, w_lc, w_iRng, w_rngA, w_rng1, w_rng2, w_itA, w_itB, w_itC, w_itV, w_itG, w_itS, w_itBin, w_itTup, w_itLst, w_itIdx, w_itSl, w_itCall, w_itBi, w_itMe, w_itLc, w_enum, w_enA, w_enB, w_irev, w_rvA, w_rvBl, w_rvBt, w_izip, w_zpA, w_zpB, w_zpll, w_zplt, w_zptl, w_zptt, w_pass, w_done, w_expr, w_exprK, w_asg, w_asgV, w_asgN, w_asgT, w_asgTK, w_asgTC, w_put, w_putA, w_putE, w_putB, w_putC, w_putD, w_if, w_ifT, w_ifF, w_for, w_ret, w_retK, w_retC, w_retN, w_frz, w_seq, w_seqN, w_seqR, w_fin, w_finN, w_finRv, w_finRn, w_turnN, w_turnR, w_eltV, w_eltN, w_isB, w_whT, w_whF, get_val, get_new, get_ref', out_val, out_new, out_ref', noRef_nil, noRef_val, noRef_new, deref_nil, deref_val, deref_new, deref_ref, anyRef_nil, anyRef_val, anyRef_new, anyRef_ref, refsOf_nil, refsOf_val, refsOf_new, refsOf_ref, Option.map_some, Option.bind_some, cell_lst, cell_dK, cell_dT, List.set_cons_zero, List.set_cons_succ, List.getElem?_cons_zero, List.getElem?_cons_succ, wp_ok, Out.val_ok, op_add_i, op_sub_i, p_mulr, p_mull, op_mod_i, op_fdiv_i, op_pow_i, opNeg_i, lt_i, le_i, gt_i, ge_i, eq_ii, ne_ii, p_eqs, p_nes, eq_bb, ne_bb, isI_int, isI_str, isI_bl, isI_tup, isI_lst, isI_non, isI_dK, is_int, is_bl, is_str, is_tup, is_lst, is_dK, is_non, List.any_cons, List.any_nil, Bool.or_false, Bool.false_or, Bool.true_or, Bool.or_true, Bool.not_true, Bool.not_false, List.nil_append, List.cons_append, List.append_nil, decide_true, decide_false, listRev_l, tuple_l, tuple_t, list_l, list_t, len_l, len_t, p_lens, min_i, max_i, int_i, int_b, abs_i, sl_l, sl_t, p_sls, mu_append', mu_clear, items_l, items_t, items_s, bind_one, bind_two, idx_t0, idx_t1, idx_2l, idx_3l, cut_2l, cut_3l, wipeS_nil, wipeS_cons, backS_nil, backS_cons, p_isN_non, p_notN_non, solid_int, solid_str, solid_bl, solid_non, solid_tup, solidL_nil, solidL_cons, isNon_non, isNon_int, isNon_tup, isNon_lst, isNon_str, isNon_bl, p_extend, p_pop, idx_last, if_true, if_false, eq_self, Bool.false_eq_true, List.getD_cons_zero, List.getD_cons_succ, m_append, m_extend, m_insert, m_pop, m_popAt, m_clear, m_reverse, m_sdK, m_sdT, n_join, n_startswith, n_split, n_partition, n_index, n_sidx, n_getK, n_getT, n_getOrK, n_getOrT, List.length_cons, List.length_nil, p_cast, Nat.reduceAdd, Int.reduceEq, Int.reduceLT, Int.reduceLE, Int.reduceAdd, Int.reduceSub, Int.reduceMul, k_text_row, k_text_table, k_text_record, k_row_text, k_row_table, k_row_record, k_table_text, k_table_row, k_table_record, k_record_text, k_record_row, k_record_table, l_bl, l_int, l_str, l_non, lrng_1, lrng_2, w_gIx, w_gAt, p_addl, p_addt, p_adds, w_dispK, w_dispT, w_diA, w_diB, w_diC, w_diD, dis_i, dis_s, dis_t2, w_revL, w_rvlA, w_rvlC, w_isE, w_isEA, w_isEC, w_isEB, subAny_nil, w_atE, w_atA, w_raise, w_rsA, w_try, w_tryK, w_tryHn, w_tryHs, wp_exc, w_iez, w_ezA, w_ezB, w_ezC, w_callM, w_cmA, w_cmB, w_cmCr, w_cmCn, w_cmD, lastR_one, lastR_more, valRs_nil, valRs_cons, ownAt_eq, ownS_own, selfR_some, selfR_none, selfN_some, selfN_none, w_finM, w_fmN, w_fmRv, w_fmRr, w_fmC, w_retM, w_rmO])

theorem filt_gen (p : D → Bool) : ∀ l : List Nat, (nD l).filter p = nD (l.filter fun a => p (.int (a : Nat)))
  | [] => rfl
  | a :: l => by
    have ih := filt_gen p l
    show (D.int (a : Nat) :: nD l).filter p = _
    rw [List.filter_cons, List.filter_cons, ih]
    split <;> rfl
theorem filt_ex (p : D → Bool) (N : Nat) : ∃ L : List Nat, (∀ a ∈ L, a < N) ∧ L.length ≤ N ∧ ((rngD 0 (N : Int)).filter p).map id = nD L := by
  refine ⟨(List.range N).filter fun a => p (.int (a : Nat)), fun a ha => by simpa using (List.mem_filter.mp ha).1, ?_, by rw [nD_rng, filt_gen, List.map_id]⟩
  exact Nat.le_trans (List.length_filter_le _ _) (by simp)
theorem kept_eq (k : Nat) {W : List Pa} (w0 : 0 < W.length) (w1 : W.length ≤ 60) {s : Nat} (hs : s < W.length) {x : Int} (hx : 0 ≤ x) : ∃ K : List Nat, (∀ a ∈ K, a < W.length) ∧ K.length ≤ 200 ∧ ∃ r, (r = .val (.lst (nD K)) ∨ r = .new (.lst (nD K))) ∧ pg.call (k + 1) 26 [.tup (webD W), .int s, .int x] = .ok r := by
  suffices h : Wp (pg.call (k + 1) 26 [.tup (webD W), .int s, .int x]) (fun r => ∃ K : List Nat, (∀ a ∈ K, a < W.length) ∧ K.length ≤ 200 ∧ (r = .val (.lst (nD K)) ∨ r = .new (.lst (nD K)))) noE by
    obtain ⟨r, h1, p, h2, h3, h4⟩ := h.ex
    exact ⟨p, h2, h3, r, h4, h1⟩
  rw [c_law_kept, w_fin]
  have wl := web_len W
  have z0 : (0 : Int) < (W.length : Int) := by omega
  generalize hkd : x % 5 = kd
  simp_arith [b_law_kept, hkd]
  refine dec_k (fun h => ?_) (fun h => ?_)
  · simp_arith
    exact ⟨[], by simp, by simp, .inr rfl⟩
  simp_arith
  refine dec_k (fun h2 => ?_) (fun h2 => ?_)
  · have t0 := Int.emod_nonneg (x / 5) (show (W.length : Int) ≠ 0 by omega)
    have t1 := Int.emod_lt_of_pos (x / 5) z0
    obtain ⟨t, ht⟩ : ∃ t : Nat, x / 5 % (W.length : Int) = t := ⟨(x / 5 % (W.length : Int)).toNat, by omega⟩
    simp_arith [wl, ht]
    exact ⟨[t], by simp; omega, by simp, .inr rfl⟩
  obtain ⟨L, l1, l2, l3⟩ := filt_ex (fun d => match d with | .int j => decide (x / (j + 6) % 3 < kd - 1) && !decide (j = (s : Int)) | _ => false) W.length
  simp_arith [wl, -w_if]
  refine lc_test (fun d => match d with | .int j => decide (x / (j + 6) % 3 < kd - 1) && !decide (j = (s : Int)) | _ => false) id rfl (by rw [rngd_len]; omega) rfl (fun d hd => ?_) ?_
  · obtain ⟨j, hj, rfl⟩ := rngd_mem hd
    refine ⟨_, rfl, ?_, fun _ => ?_⟩
    · have j1 : (0 : Int) < (j : Int) + 6 := by omega
      have j2 : (j : Int) + 6 < 1073741824 := by omega
      by_cases h3 : x / ((j : Int) + 6) % 3 < kd - 1
      · simp_arith [h3]
        rfl
      · simp_arith [h3]
        rfl
    · simp_arith
      rfl
  rw [l3]
  have done_ : ∀ (K : List Nat) (s5 : Slot), (∀ a ∈ K, a < W.length) → K.length ≤ 150 → Wp (evS (pg.cx k) (.seq (.if_ (.cmp .eq (.bin .mod (.bin .fdiv (.var 2) (.kI 30)) (.kI 4)) (.kI 1)) (.seq (.expr (.mu .append 4 (.cons (.var 1) .nil))) .done) .done) (.seq (.frz 4) (.seq (.ret (.var 4)) .done))) [.val (.tup (webD W)), .val (.int s), .val (.int x), .val (.int kd), .own (.lst (nD K)), s5]) (finK fun r => ∃ K : List Nat, (∀ a ∈ K, a < W.length) ∧ K.length ≤ 200 ∧ (r = .val (.lst (nD K)) ∨ r = .new (.lst (nD K)))) noE := fun K s5 k1 k2 => by
    have kb : (nD K).length < 16777216 := by rw [nD_len]; omega
    have sn : nD K ++ [D.int s] = nD (K ++ [s]) := by rw [nD_app]; rfl
    simp_arith
    refine dec_k (fun h => ?_) (fun h => ?_)
    · simp_arith [sn]
      refine ⟨K ++ [s], fun a ha => ?_, by simp; omega, .inl rfl⟩
      rcases List.mem_append.mp ha with ha | ha
      · exact k1 a ha
      · rw [List.mem_singleton.mp ha]; exact hs
    · simp_arith
      exact ⟨K, k1, by omega, .inl rfl⟩
  simp_arith
  refine dec_k (fun h => ?_) (fun h => ?_)
  · have cut : cutD (nD L) none (some 1) = nD (L.take 1) := by
      have : cutD (nD L) none (some 1) = (nD L).take 1 := by
        unfold cutD
        rw [HT.sIx_none, show HT.sIx (nD L).length (nD L).length (some 1) = min 1 (nD L).length from HT.sIx_nat _ _ 1, List.drop_zero, Nat.sub_zero]
        by_cases h : (nD L).length = 0
        · rw [List.length_eq_zero_iff.mp h]; rfl
        · rw [Nat.min_eq_left (by omega)]
      rw [this, nD, nD, List.map_take]
    have rv : (nD L).reverse = nD L.reverse := (nD_rev L).symm
    have ll := nD_len L
    have lr : (nD L.reverse).length ≤ 60 := by rw [nD_len, List.length_reverse]; omega
    have lt_ : (nD (L.take 1)).length ≤ 60 := by rw [nD_len, List.length_take]; omega
    have ap : nD L.reverse ++ nD (L.take 1) = nD (L.reverse ++ L.take 1) := (nD_app _ _).symm
    simp_arith [ll, cut, rv, ap, -w_if]
    have D := done_ (L.reverse ++ L.take 1) .emp (fun a ha => by
      rcases List.mem_append.mp ha with ha | ha
      · exact l1 a (List.mem_reverse.mp ha)
      · exact l1 a (List.mem_of_mem_take ha)) (by simp; omega)
    rw [w_seq] at D
    exact D
  · simp_arith [-w_if]
    have D := done_ L .emp l1 (by omega)
    rw [w_seq] at D
    exact D
end PyI.K22

end
section
namespace PyI.K22
open PySem PySem.Spec PyProof.Rows L2
local macro_rules | `(tactic| simp_arith [$ts,*]) => `(tactic| simp (disch := first | assumption | omega | (simp only [List.length_cons, List.length_nil, List.length_append, List.length_map, List.length_range, List.length_take, List.length_drop, List.length_reverse, List.length_set]; omega)) only [w_var, w_kI, w_kS, w_kB, w_kN, w_glob, w_of, w_bin, w_binA, w_binB, w_binC, w_neg, w_negA, w_negB, w_not, w_notA, w_cmp, w_cmpA, w_cmpB, w_cmpC, w_cmp2, w_c2A, w_c2B, w_c2Dt, w_c2Df, w_c2E, w_and, w_andT, w_andF, w_or, w_orT, w_orF, w_ite, w_iteT, w_iteF, w_tup, w_tupA, w_tupC, w_lst, w_lstA, w_lstC, w_dk0, w_dt0, w_nil, w_cons, w_consA, w_consB, w_idx, w_idxA, w_idxB, w_idxC, w_sl, w_slA, w_slB, w_slC, w_slD, w_pN, w_pK, w_pV, w_pI, w_pB, w_pM, w_pX, w_pBi, w_pC, w_pG, w_call, w_callA, w_callF, w_callT, w_lent, w_bi, w_biA, w_biC, w_me, w_meA, w_meB, w_meC, w_mu, w_muB, w_muC, w_muK, w_opK, w_dK, w_blK, w_lc, w_iRng, w_rngA, w_rng1, w_rng2, w_itA, w_itB, w_itC, w_itV, w_itG, w_itS, w_itBin, w_itTup, w_itLst, w_itIdx, w_itSl, w_itCall, w_itBi, w_itMe, w_itLc, w_enum, w_enA, w_enB, w_irev, w_rvA, w_rvBl, w_rvBt, w_izip, w_zpA, w_zpB, w_zpll, w_zplt, w_zptl, w_zptt, w_pass, w_done, w_expr, w_exprK, w_asg, w_asgV, w_asgN, w_asgT, w_asgTK, w_asgTC, w_put, w_putA, w_putE, w_putB, w_putC, w_putD, w_if, w_ifT, w_ifF, w_for, w_ret, w_retK, w_retC, w_retN, w_frz, w_seq, w_seqN, w_seqR, w_fin, w_finN, w_finRv, w_finRn, w_turnN, w_turnR, w_eltV, w_eltN, w_isB, w_whT, w_whF, get_val, get_new, get_ref', out_val, out_new, out_ref', noRef_nil, noRef_val, noRef_new, deref_nil, deref_val, deref_new, deref_ref, anyRef_nil, anyRef_val, anyRef_new, anyRef_ref, refsOf_nil, refsOf_val, refsOf_new, refsOf_ref, Option.map_some, Option.bind_some, cell_lst, cell_dK, cell_dT, List.set_cons_zero, List.set_cons_succ, List.getElem?_cons_zero, List.getElem?_cons_succ, wp_ok, Out.val_ok, op_add_i, op_sub_i, p_mulr, p_mull, op_mod_i, op_fdiv_i, op_pow_i, opNeg_i, lt_i, le_i, gt_i, ge_i, eq_ii, ne_ii, p_eqs, p_nes, eq_bb, ne_bb, isI_int, isI_str, isI_bl, isI_tup, isI_lst, isI_non, isI_dK, is_int, is_bl, is_str, is_tup, is_lst, is_dK, is_non, List.any_cons, List.any_nil, Bool.or_false, Bool.false_or, Bool.true_or, Bool.or_true, Bool.not_true, Bool.not_false, List.nil_append, List.cons_append, List.append_nil, decide_true, decide_false, listRev_l, tuple_l, tuple_t, list_l, list_t, len_l, len_t, p_lens, min_i, max_i, int_i, int_b, abs_i, sl_l, sl_t, p_sls, mu_append', mu_clear, items_l, items_t, items_s, bind_one, bind_two, idx_t0, idx_t1, idx_2l, idx_3l, cut_2l, cut_3l, wipeS_nil, wipeS_cons, backS_nil, backS_cons, p_isN_non, p_notN_non, solid_int, solid_str, solid_bl, solid_non, solid_tup, solidL_nil, solidL_cons, isNon_non, isNon_int, isNon_tup, isNon_lst, isNon_str, isNon_bl, p_extend, p_pop, idx_last, if_true, if_false, eq_self, Bool.false_eq_true, List.getD_cons_zero, List.getD_cons_succ, m_append, m_extend, m_insert, m_pop, m_popAt, m_clear, m_reverse, m_sdK, m_sdT, n_join, n_startswith, n_split, n_partition, n_index, n_sidx, n_getK, n_getT, n_getOrK, n_getOrT, List.length_cons, List.length_nil, p_cast, Nat.reduceAdd, Int.reduceEq, Int.reduceLT, Int.reduceLE, Int.reduceAdd, Int.reduceSub, Int.reduceMul, k_text_row, k_text_table, k_text_record, k_row_text, k_row_table, k_row_record, k_table_text, k_table_row, k_table_record, k_record_text, k_record_row, k_record_table, l_bl, l_int, l_str, l_non, lrng_1, lrng_2, w_gIx, w_gAt, p_addl, p_addt, p_adds, w_dispK, w_dispT, w_diA, w_diB, w_diC, w_diD, dis_i, dis_s, dis_t2, w_revL, w_rvlA, w_rvlC, w_isE, w_isEA, w_isEC, w_isEB, subAny_nil, w_atE, w_atA, w_raise, w_rsA, w_try, w_tryK, w_tryHn, w_tryHs, wp_exc, w_iez, w_ezA, w_ezB, w_ezC, w_callM, w_cmA, w_cmB, w_cmCr, w_cmCn, w_cmD, lastR_one, lastR_more, valRs_nil, valRs_cons, ownAt_eq, ownS_own, selfR_some, selfR_none, selfN_some, selfN_none, w_finM, w_fmN, w_fmRv, w_fmRr, w_fmC, w_retM, w_rmO, $ts,*])
local macro_rules | `(tactic| simp_arith) => `(tactic| simp (disch := first | assumption | omega | (simp only [List.length_cons, List.length_nil, List.length_append, List.length_map, List.length_range, List.length_take, List.length_drop, List.length_reverse, List.length_set]; omega)) only [w_var, w_kI, w_kS, w_kB, w_kN, w_glob, w_of, w_bin, w_binA, w_binB, w_binC, w_neg, w_negA, w_negB, w_not, w_notA, w_cmp, w_cmpA, w_cmpB, w_cmpC, w_cmp2, w_c2A, w_c2B, w_c2Dt, w_c2Df, w_c2E, w_and, w_andT, w_andF, w_or, w_orT, w_orF, w_ite, w_iteT, w_iteF, w_tup, w_tupA, w_tupC, w_lst, w_lstA, w_lstC, w_dk0, w_dt0, w_nil, w_cons, w_consA, w_consB, w_idx, w_idxA, w_idxB, w_idxC, w_sl, w_slA, w_slB, w_slC, w_slD, w_pN, w_pK, w_pV, w_pI, w_pB, w_pM, w_pX, w_pBi, w_pC, w_pG, w_call, w_callA, w_callF, w_callT, w_lent, w_bi, w_biA, w_biC, w_me, w_meA, w_meB, w_meC, w_mu, w_muB, w_muC, w_muK, w_opK, w_dK, w_blK, w_lc, w_iRng, w_rngA, w_rng1, w_rng2, w_itA, w_itB, w_itC, w_itV, w_itG, w_itS, w_itBin, w_itTup, w_itLst, w_itIdx, w_itSl, w_itCall, w_itBi, w_itMe, w_itLc, w_enum, w_enA, w_enB, w_irev, w_rvA, w_rvBl, w_rvBt, w_izip, w_zpA, w_zpB, w_zpll, w_zplt, w_zptl, w_zptt, w_pass, w_done, w_expr, w_exprK, w_asg, w_asgV, w_asgN, w_asgT, w_asgTK, w_asgTC, w_put, w_putA, w_putE, w_putB, w_putC, w_putD, w_if, w_ifT, w_ifF, w_for, w_ret, w_retK, w_retC, w_retN, w_frz, w_seq, w_seqN, w_seqR, w_fin, w_finN, w_finRv, w_finRn, w_turnN, w_turnR, w_eltV, w_eltN, w_isB, w_whT, w_whF, get_val, get_new, get_ref', out_val, out_new, out_ref', noRef_nil, noRef_val, noRef_new, deref_nil, deref_val, deref_new, deref_ref, anyRef_nil, anyRef_val, anyRef_new, anyRef_ref, refsOf_nil, refsOf_val, refsOf_new, refsOf_ref, Option.map_some, Option.bind_some, cell_lst, cell_dK, cell_dT, List.set_cons_zero, List.set_cons_succ, List.getElem?_cons_zero, List.getElem?_cons_succ, wp_ok, Out.val_ok, op_add_i, op_sub_i, p_mulr, p_mull, op_mod_i, op_fdiv_i, op_pow_i, opNeg_i, lt_i, le_i, gt_i, ge_i, eq_ii, ne_ii, p_eqs, p_nes, eq_bb, ne_bb, isI_int, isI_str, isI_bl, isI_tup, isI_lst, isI_non, isI_dK, is_int, is_bl, is_str, is_tup, is_lst, is_dK, is_non, List.any_cons, List.any_nil, Bool.or_false, Bool.false_or, Bool.true_or, Bool.or_true, Bool.not_true, Bool.not_false, List.nil_append, List.cons_append, List.append_nil, decide_true, decide_false, listRev_l, tuple_l, tuple_t, list_l, list_t, len_l, len_t, p_lens, min_i, max_i, int_i, int_b, abs_i, sl_l, sl_t, p_sls, mu_append', mu_clear, items_l, items_t, items_s, bind_one, bind_two, idx_t0, idx_t1, idx_2l, idx_3l, cut_2l, cut_3l, wipeS_nil, wipeS_cons, backS_nil, backS_cons, p_isN_non, p_notN_non, solid_int, solid_str, solid_bl, solid_non, solid_tup, solidL_nil, solidL_cons, isNon_non, isNon_int, isNon_tup, isNon_lst, isNon_str, isNon_bl, p_extend, p_pop, idx_last, if_true, if_false, eq_self, Bool.false_eq_true, List.getD_cons_zero, List.getD_cons_succ, m_append, m_extend, m_insert, m_pop, m_popAt, m_clear, m_reverse, m_sdK, m_sdT, n_join, n_startswith, n_split, n_partition, n_index, n_sidx, n_getK, n_getT, n_getOrK, n_getOrT, List.length_cons, List.length_nil, p_cast, Nat.reduceAdd, Int.reduceEq, Int.reduceLT, Int.reduceLE, Int.reduceAdd, Int.reduceSub, Int.reduceMul, k_text_row, k_text_table, k_text_record, k_row_text, k_row_table, k_row_record, k_table_text, k_table_row, k_table_record, k_record_text, k_record_row, k_record_table, l_bl, l_int, l_str, l_non, lrng_1, lrng_2, w_gIx, w_gAt, p_addl, p_addt, p_adds, w_dispK, w_dispT, w_diA, w_diB, w_diC, w_diD, dis_i, dis_s, dis_t2, w_revL, w_rvlA, w_rvlC, w_isE, w_isEA, w_isEC, w_isEB, subAny_nil, w_atE, w_atA, w_raise, w_rsA, w_try, w_tryK, w_tryHn, w_tryHs, wp_exc, w_iez, w_ezA, w_ezB, w_ezC, w_callM, w_cmA, w_cmB, w_cmCr, w_cmCn, w_cmD, lastR_one, lastR_more, valRs_nil, valRs_cons, ownAt_eq, ownS_own, selfR_some, selfR_none, selfN_some, selfN_none, w_finM, w_fmN, w_fmRv, w_fmRr, w_fmC, w_retM, w_rmO])

theorem isT_res (W : List Pa) (K : List Nat) (s : Nat) (z : List Nat) : ∃ b : Bool, opBi (.isI [.tuple]) [resZ W K s z] = .ok (.val (.bl b)) ∧ (b = true → ∃ V : List Pa, (V = W ∨ (V = copyW W z ∧ W.length + z.length ≤ 60)) ∧ opIdx (resZ W K s z) (.int 0) = .ok (.tup (webD V))) := by
  unfold resZ
  by_cases h1 : s ∈ K
  · simp only [if_pos h1]
    exact ⟨true, rfl, fun _ => ⟨W, .inl rfl, idx_tt (by omega) rfl⟩⟩
  · by_cases h2 : 60 < W.length + z.length
    · simp only [if_neg h1, if_pos h2]
      exact ⟨false, rfl, fun z => by cases z⟩
    · simp only [if_neg h1, if_neg h2]
      exact ⟨true, rfl, fun _ => ⟨_, .inr ⟨rfl, by omega⟩, idx_tt (by omega) rfl⟩⟩
theorem nDl_plain (K : List Nat) : (D.lst (nD K)).plain = true ∧ (D.lst (nD K)).depth ≤ 64 := by
  simp [nD_plain, nD_depth]
theorem step_ok (ns : List Int) {W : List Pa} (ok : okW W) (w0 : 0 < W.length) (w1 : W.length ≤ 60) {j : Nat} (hj : (j : Int) < 8) {a3 a4 a5 a6 a7 a8 a9 a10 a11 : Slot} {S : KS}
    (hq : ∀ (V : List Pa) (s3 s4 s5 s6 s7 s8 s9 s10 s11 : Slot), okW V → 0 < V.length → V.length ≤ 60 → S (.next, [.val (.lst (ns.map D.int)), .val (.tup (webD V)), .val (.int (j : Nat)), s3, s4, s5, s6, s7, s8, s9, s10, s11])) :
    Wp (evS (pg.cx 70) f_law_1 [.val (.lst (ns.map D.int)), .val (.tup (webD W)), .val (.int (j : Nat)), a3, a4, a5, a6, a7, a8, a9, a10, a11]) S noE := by
  have wl := web_len W
  obtain ⟨c, a0⟩ := cell_eq 69 ns (j := 4 + (j : Int) % 4) (by omega)
  obtain ⟨x, x0, x1, x2⟩ := mix_eq 69 (c + (j : Int) * (j : Int)) (j := (j : Int) + 40) (by omega) (by omega)
  have z0 : (0 : Int) < (W.length : Int) := by omega
  have t0 := Int.emod_nonneg (x / 7) (show (W.length : Int) ≠ 0 by omega)
  have t1 := Int.emod_lt_of_pos (x / 7) z0
  obtain ⟨s, hs⟩ : ∃ s : Nat, x / 7 % (W.length : Int) = s := ⟨(x / 7 % (W.length : Int)).toNat, by omega⟩
  have hsN : s < W.length := by omega
  obtain ⟨K, k1, k2, r, hr, k3⟩ := kept_eq 69 w0 w1 hsN (x := x / 210) (by omega)
  obtain ⟨z, hz⟩ := MetB.ex ok k1 hsN
  obtain ⟨y, hy⟩ := MetB.ex ok (K := []) (by simp) hsN
  obtain ⟨u, hu⟩ := MetB.ex ok (K := others W.length s) (fun a ha => oth_lt a ha) hsN
  have D1 := due_res 7 ok w1 hsN hz
  have D2 : pg.call 70 24 [.tup (webD W), .int s, .lst []] = .ok (.val (resZ W [] s y)) := due_res 7 ok w1 hsN hy
  have D3 := due_res 7 ok w1 hsN hu
  have T1 := told_0 64 ok hsN hz
  have T2 := told_1 64 ok hsN hy (.lst [])
  have T3 := told_0n 64 ok hsN hy
  have T4 : pg.call 70 25 [.int 0, .tup (webD W), .int s, .lst []] = .ok (.val (resZ W [] s y)) := told_0 64 ok hsN hy
  have T5 := told_2 63 ok w1 hsN hu (.lst [])
  have n1 := ne_self (resZ_plain W K s z).1 (resZ_plain W K s z).2
  have n2 := ne_self (resZ_plain W [] s y).1 (resZ_plain W [] s y).2
  have n3 := ne_self (resZ_plain W (others W.length s) s u).1 (resZ_plain W (others W.length s) s u).2
  have n4 := ne_self (nDl_plain K).1 (nDl_plain K).2
  obtain ⟨b, i1, i2⟩ := isT_res W K s z
  have hok : ∀ V, (V = W ∨ (V = copyW W z ∧ W.length + z.length ≤ 60)) → okW V ∧ 0 < V.length ∧ V.length ≤ 60 := fun V hV => by
    rcases hV with rfl | ⟨rfl, h⟩
    · exact ⟨ok, w0, w1⟩
    · exact ⟨copy_ok ok (hz.ds ok hsN) h, by rw [copy_len]; omega, by rw [copy_len]; omega⟩
  generalize resZ W K s z = R1 at *
  generalize resZ W [] s y = R2 at *
  generalize resZ W (others W.length s) s u = R3 at *
  rcases hr with rfl | rfl
  all_goals
    simp_arith [f_law_1, e_law_cell_at, a0, e_law_mix, x2, wl, hs, e_law_kept, k3, e_law_due, D1, e_law_told, T1, n1, n4, D2, T2, T3, T4]
    refine for_keep (fun e => ∃ s9 : Slot, e = [.val (.lst (ns.map D.int)), .val (.tup (webD W)), .val (.int (j : Nat)), .val (.int x), .val (.int s), .val (.lst (nD K)), .val (.lst (nD K)), .val R1, .val R2, s9, a10, a11]) rfl ⟨_, rfl⟩ (fun d e hd he => ?_) (fun e he => ?_)
    · obtain ⟨s9, rfl⟩ := he
      have hd : d = R2 := by simpa using hd
      subst hd
      refine ⟨[.val (.lst (ns.map D.int)), .val (.tup (webD W)), .val (.int (j : Nat)), .val (.int x), .val (.int s), .val (.lst (nD K)), .val (.lst (nD K)), .val R1, .val d, .val d, a10, a11], rfl, ?_⟩
      simp_arith [f_law_0, n2]
      exact ⟨_, rfl⟩
    obtain ⟨s9, rfl⟩ := he
    simp_arith [wl]
    refine lc_test (pNe s) id rfl (by rw [rngd_len]; omega) rfl (fun d hd => ?_) ?_
    · obtain ⟨l, hl, rfl⟩ := rngd_mem hd
      refine ⟨_, rfl, ?_, fun _ => ?_⟩
      · simp_arith
        rfl
      · simp_arith
        rfl
    rw [filt_oth]
    simp_arith [e_law_told, T5, e_law_due, D3, n3]
    refine dec_k (fun h => ?_) (fun h => ?_)
    · cases b with
      | false =>
        simp_arith [i1]
        exact hq W _ _ _ _ _ _ _ _ _ ok w0 w1
      | true =>
        obtain ⟨V, hV, i3⟩ := i2 rfl
        obtain ⟨v1, v2, v3⟩ := hok V hV
        simp_arith [i1, i3]
        exact hq V _ _ _ _ _ _ _ _ _ v1 v2 v3
    · simp_arith
      exact hq W _ _ _ _ _ _ _ _ _ ok w0 w1
def depth : Nat := 71
theorem plain (ns : List Int) (hn : ns.length ≤ 63) : pg.call depth 27 [.lst (ns.map D.int)] = .ok (.val (.bl true)) := by
  apply eq_of_wp
  show Wp (pg.call (70 + 1) 27 [.lst (ns.map D.int)]) _ _
  rw [c_law, w_fin]
  obtain ⟨W0, w0, w1, okw, w2⟩ := drawn_web_eq 66 ns hn (most := 60) (by omega) (by omega)
  have w2 : pg.call 70 21 [.lst (ns.map D.int), .int 60] = .ok (.val (.tup (webD W0))) := w2
  simp_arith [b_law, e_law_drawn_web, w2]
  refine for_rng (fun j e => ∃ (W : List Pa) (s2 s3 s4 s5 s6 s7 s8 s9 s10 s11 : Slot), okW W ∧ 0 < W.length ∧ W.length ≤ 60 ∧ e = [.val (.lst (ns.map D.int)), .val (.tup (webD W)), s2, s3, s4, s5, s6, s7, s8, s9, s10, s11]) ⟨W0, _, _, _, _, _, _, _, _, _, _, okw, w0, w1, rfl⟩ (fun j e hj he => ?_) (fun e he => ?_)
  · obtain ⟨W, s2, s3, s4, s5, s6, s7, s8, s9, s10, s11, ok, v0, v1, rfl⟩ := he
    exact step_ok ns ok v0 v1 hj fun V _ _ _ _ _ _ _ _ _ g1 g2 g3 => ⟨V, _, _, _, _, _, _, _, _, _, _, g1, g2, g3, rfl⟩
  · obtain ⟨W, s2, s3, s4, s5, s6, s7, s8, s9, s10, s11, ok, v0, v1, rfl⟩ := he
    simp_arith
end PyI.K22

end
open PySem PySem.W PySem.Calls PyProof.Rows PyI
theorem PySem.Challenge.cw_graphpack_k22_copies_but_for_kept_parts_holds : PySem.Challenge.rw_graphpack_k22_copies_but_for_kept_parts.Holds := by
  w_on; o_law
  refine HandSHeadRun.head_any (r := OpenLaw.row PySem.Challenge.rw_graphpack_k22_copies_but_for_kept_parts) (q := view (OpenLaw.row PySem.Challenge.rw_graphpack_k22_copies_but_for_kept_parts).prog [39]) (H := PyI.K22.hk) (ob := PyI.K22.ob) (M := 3000) (loose := [("WebError" : Str), ("NoText" : Str), ("NoPlace" : Str), ("NoValue" : Str), ("TooMany" : Str), ("NoWay" : Str), ("NoPack" : Str), ("MOST_PARTS" : Str), ("is_whole" : Str), ("is_link" : Str), ("values" : Str), ("links" : Str), ("with_values" : Str), ("led" : Str), ("led_part" : Str), ("met_but" : Str), ("copied" : Str), ("shallow" : Str), ("_law_cell_at" : Str), ("_law_pool" : Str), ("_law_mix" : Str), ("_law_value" : Str), ("_law_values" : Str), ("_law_part" : Str), ("_law_web" : Str), ("_law_vals" : Str), ("_law_head" : Str), ("_law_with" : Str), ("_law_led" : Str), ("_law_drawn_web" : Str), ("_law_changed" : Str), ("_law_met_in" : Str), ("_law_due" : Str), ("_law_told" : Str), ("_law_kept" : Str)]) (d := HandSHeadRun.topDef (OpenLaw.row PySem.Challenge.rw_graphpack_k22_copies_but_for_kept_parts).prog 39) (kwd := []) PyI.K22.ob_eq
    (by kernel_rfl) (fun s => by kernel_rfl) PyI.K22.run (by kernel_rfl) (by kernel_rfl) (by kernel_rfl) (by rfl) (by first | assumption | decide +kernel) (by decide +kernel) ⟨rfl, rfl, rfl, rfl, rfl, by decide +kernel⟩ ?hw ?hc
  case hw => w_witness2
  case hc =>
    exact PyI.law_walk (l := PySem.Challenge.rw_graphpack_k22_copies_but_for_kept_parts) (k := PyI.K22.depth) (i := 27) (m := 26) (n := 11) (x := "_law_script") (p := PyI.K22.pg) (tb := PyI.K22.tb) (defs := PyI.K22.defs) rfl (by kernel_rfl) ⟨rfl, by decide, by decide⟩ PyI.K22.chk PyI.K22.binds rfl (by kernel_rfl) (by kernel_rfl) (by kernel_rfl) (fun K fd F s u => L2.FunD.bindsA (ps := ["_law_script"]) F (fun _ _ _ _ _ _ us hl => (match us, hl with | [_], _ => rfl)) s [u] rfl) (fun ns h1 h2 => by first | exact PyI.K22.plain ns h1 h2 | exact PyI.K22.plain ns h1)

