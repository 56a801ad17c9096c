import PyProof.Rows.All
import Wide.All
import OpenK.AllK
import Wide.FinOn
import HandS.ForMost
import HandS.ForExc
import HandS.Wide
import HandS.Gcd
import HandS.Flow
import HandS.Style
import HandS.TupAny
import HandS.Deep
import HandS.IsInst
import HandS.Lambda
import HandS.RaiseMore
import HandS.WideBits
import KE.KMathG
import HandS.Dict
import HandS.ExcField
import HandS.Small
import HandS.EndTab
import KE.KExcSuper
import KE.KSuper
import HandS.ExcInit
import HandS.Nested
import KE.KNestM
import PySem.Challenge.RW_waylots_k10_ways_by_own_going
set_option Elab.async false
set_option linter.all false
set_option maxRecDepth 100000
/-! A small Python over plain data: its values, its syntax, what it computes. -/
namespace MP
open PySem L2

/-- values: plain data told as such, a changeable object by its number -/
inductive D where
  | non | bl (b : Bool) | int (i : Int) | str (s : Str)
  | tup (xs : List D) | lst (xs : List D) | scr (xs : List D)
  | dic (kvs : List (D × D))
  | ref (n : Nat)

inductive BOp where | add | sub | mul | fdiv | mod | pow
inductive COp where | eq | ne | lt | le | gt | ge | inn | nin
inductive IK where | seq | rng | enum | enumT | zip | keys | items | vals | rev
inductive IT where | int | bool | tuple | str | list
inductive BI where | abs | len | max | min | int | str | repr | gcd | isqrt | tuple | all | any | sum
inductive MK where | append | pop | extend | dget | dget2 | join | bitlen | dupdate
inductive TN where | nm (i : Nat) | tp (ts : List TN)

inductive E where
  | var (i : Nat) | lit (d : D) | con (k : Nat) (d : D)
  | bin (op : BOp) (a b : E) | neg (a : E) | not (a : E) | and (a b : E) | or (a b : E)
  | cmp (op : COp) (a b : E) | chain (o1 o2 : COp) (a b c : E) | isN (ng : Bool) (a : E) | ife (c a b : E)
  | tup (es : List E) | tupS (pre : List E) (s : E) (post : List E) | lst (m : Bool) (es : List E) | dic (m : Bool) (es : List E)
  | ix (a i : E) | dix (a i : E) | din (ng : Bool) (a b : E) | sl (m : Bool) (a : E) (lo hi : List E) | rev (m : Bool) (a : E)
  | call (f : Nat) (es : List E) | bi (b : BI) (es : List E) | newl (m : Bool) (a : E) | newd (m : Bool) (a : E)
  | meth (k : MK) (o : E) (es : List E) | imeth (c f : Nat) (o : E) (es : List E) | mk (c f : Nat) (es : List E) | fld (c : Nat) (o : E) (f : Str) | tv (e : E)
  | lc (m : Bool) (elt : E) (tg : TN) (ik : IK) (src : List E) (ifs : List E) (own : List Nat)
  | bad | binO (op : BOp) (a b : E) | revT (a : E) | isa (ng : List IT) (a : E) | told (f : Nat) (e : E) | emp (m : Bool)

inductive T where | nm (i : Nat) | sub (o i : E) | fld (c : Nat) (o : E) (f : Str) | tp (ts : List T)

inductive S where
  | expr (e : E) | ret (e : E) | retN | asg (t : T) (e : E) | aug (i : Nat) (op : BOp) (e : E)
  | ife (c : E) (a b : List S) | whl (c : E) (b : List S) | forr (tg : TN) (ik : IK) (src : List E) (b : List S)
  | pass | brk | cont | raise (c : Nat) (es : List E) | bad | par (is : List Nat) (es : List E) | slc (i : Nat) (e : E)

/-- a changeable object -/
inductive Ob where
  | lst (xs : List D) | dic (kvs : List (D × D)) | ins (c : Nat) (fs : List (Str × D))
abbrev DS := List Ob
abbrev Env := List (Option D)

inductive R (α : Type) where
  | ok (a : α) (st : DS) | exc (c : Nat) (fs : List D) (st : DS) | bad
def R.bind {α β : Type} (x : R α) (f : α → DS → R β) : R β := match x with
  | .ok a st => f a st
  | .exc c fs st => .exc c fs st
  | .bad => .bad
def R.of {α : Type} (o : Option α) (st : DS) : R α := match o with | some a => .ok a st | none => .bad

inductive RS where
  | nx (ρ : Env) (st : DS) | ret (d : D) (st : DS) | brk (ρ : Env) (st : DS) | cont (ρ : Env) (st : DS) | exc (c : Nat) (fs : List D) (ρ : Env) (st : DS) | bad
def RS.bind (x : RS) (f : Env → DS → RS) : RS := match x with
  | .nx ρ st => f ρ st
  | .ret d st => .ret d st
  | .brk ρ st => .brk ρ st
  | .cont ρ st => .cont ρ st
  | .exc c fs ρ st => .exc c fs ρ st
  | .bad => .bad
def R.to {α : Type} (x : R α) (ρ : Env) (f : α → DS → RS) : RS := match x with
  | .ok a st => f a st
  | .exc c fs st => .exc c fs ρ st
  | .bad => .bad

/-! ### values -/
def getV : Env → Nat → Option D
  | [], _ => none
  | x :: _, 0 => x
  | _ :: r, n + 1 => getV r n
def setV : Env → Nat → Option D → Env
  | [], _, _ => []
  | _ :: r, 0, d => d :: r
  | x :: r, n + 1, d => x :: setV r n d
def setAll : List Nat → List D → Env → Env
  | i :: is, d :: ds, ρ => setAll is ds (setV ρ i (some d))
  | _, _, ρ => ρ
def getO : DS → Nat → Option Ob
  | [], _ => none
  | x :: _, 0 => some x
  | _ :: r, n + 1 => getO r n
def setO : DS → Nat → Ob → DS
  | [], _, _ => []
  | _ :: r, 0, d => d :: r
  | x :: r, n + 1, d => x :: setO r n d
def wipeV (ρ : Env) : List Nat → Env
  | [] => ρ
  | v :: vs => setV (wipeV ρ vs) v none

mutual
def noRef : D → Bool
  | .ref _ => false
  | .tup xs => noRefL xs
  | .lst xs => noRefL xs
  | .scr xs => noRefL xs
  | .dic kvs => noRefP kvs
  | _ => true
def noRefL : List D → Bool
  | [] => true
  | x :: r => noRef x && noRefL r
def noRefP : List (D × D) → Bool
  | [] => true
  | (k, v) :: r => noRef k && noRef v && noRefP r
end
mutual
/-- as data, without changeable objects -/
def pd0 : D → Option PyData
  | .non => some .none
  | .bl b => some (.bool b)
  | .int i => some (.int i)
  | .str s => some (.str s)
  | .tup xs => (pd0L xs).map .tuple
  | .lst xs => (pd0L xs).map .list
  | .scr xs => (pd0L xs).map .list
  | .dic kvs => (pd0P kvs).map .dict
  | .ref _ => none
def pd0L : List D → Option (List PyData)
  | [] => some []
  | x :: r => match pd0 x, pd0L r with | some a, some b => some (a :: b) | _, _ => none
def pd0P : List (D × D) → Option (List (PyData × PyData))
  | [] => some []
  | (k, v) :: r => match pd0 k, pd0 v, pd0P r with | some a, some b, some c => some ((a, b) :: c) | _, _, _ => none
end
mutual
/-- as data, objects read -/
def pd (st : DS) : D → Option PyData
  | .non => some .none
  | .bl b => some (.bool b)
  | .int i => some (.int i)
  | .str s => some (.str s)
  | .tup xs => (pdL st xs).map .tuple
  | .lst xs => (pdL st xs).map .list
  | .scr xs => (pdL st xs).map .list
  | .dic kvs => (pdP st kvs).map .dict
  | .ref n => match getO st n with
    | some (.lst xs) => (pd0L xs).map .list
    | some (.dic kvs) => (pd0P kvs).map .dict
    | _ => none
def pdL (st : DS) : List D → Option (List PyData)
  | [] => some []
  | x :: r => match pd st x, pdL st r with | some a, some b => some (a :: b) | _, _ => none
def pdP (st : DS) : List (D × D) → Option (List (PyData × PyData))
  | [] => some []
  | (k, v) :: r => match pd st k, pd st v, pdP st r with | some a, some b, some c => some ((a, b) :: c) | _, _, _ => none
end
/-- a sequence's items -/
def seqD (st : DS) : D → Option (List D)
  | .tup xs => some xs
  | .lst xs => some xs
  | .scr xs => some xs
  | .ref n => match getO st n with | some (.lst xs) => some xs | _ => none
  | _ => none
/-- a list's items -/
def lisD (st : DS) : D → Option (List D)
  | .lst xs => some xs
  | .scr xs => some xs
  | .ref n => match getO st n with | some (.lst xs) => some xs | _ => none
  | _ => none
def blsD : List D → Option (List Bool)
  | [] => some []
  | .bl b :: r => (blsD r).map (b :: ·)
  | _ => none
def intsD : List D → Option (List Int)
  | [] => some []
  | .int b :: r => (intsD r).map (b :: ·)
  | _ => none
def mulOk (i j : Int) : Bool := !(decide (Builtin.Int.intBits i > shortFactorBits) && decide (Builtin.Int.intBits j > shortFactorBits) && Builtin.Int.intTooBig (Builtin.Int.intBits i + Builtin.Int.intBits j))
def divOk (i j : Int) : Bool := decide (j ≠ 0) && !Builtin.divisionGoesByPylong i j
def b2i (b : Bool) : Int := if b then 1 else 0
/-- a list that is told in full, or an object -/
def lstD (st : DS) : D → Option (List D)
  | .lst xs => some xs
  | .ref n => match getO st n with | some (.lst xs) => some xs | _ => none
  | _ => none
/-- the list that an operator gives -/
def catD (op : BOp) (st : DS) (x y : D) : Option (List D) := match op with
  | .add => match lstD st x, lstD st y with | some a, some b => if a.length + b.length ≤ sizeLine then some (a ++ b) else none | _, _ => none
  | .mul => match lstD st x, y with | some a, .int k => if -(2 ^ 63) ≤ k ∧ k < 2 ^ 63 ∧ a.length * k.toNat ≤ sizeLine then some (List.replicate k.toNat a).flatten else none | _, _ => none
  | _ => none
def binD (op : BOp) (st : DS) (x y : D) : Option D := match op, x, y with
  | .add, .int i, .int j => some (.int (i + j))
  | .sub, .int i, .int j => some (.int (i - j))
  | .mul, .int i, .int j => if mulOk i j then some (.int (i * j)) else none
  | .fdiv, .int i, .int j => if divOk i j then some (.int (i.fdiv j)) else none
  | .mod, .int i, .int j => if j ≠ 0 then some (.int (i.fmod j)) else none
  | .pow, .int i, .int j => if 0 ≤ j ∧ j ≤ 1000000 ∧ i.natAbs < 2 ^ 64 then some (.int (i ^ j.toNat)) else none
  | .add, .str a, .str b => if a.length + b.length ≤ sizeLine then some (.str (a ++ b)) else none
  | .add, .tup a, .tup b => if a.length + b.length ≤ sizeLine then some (.tup (a ++ b)) else none
  | op, x, y => (catD op st x y).map .lst
def augD (op : BOp) (x y : D) : Option D := match op, x, y with
  | .add, .int i, .int j => some (.int (i + j))
  | .sub, .int i, .int j => some (.int (i - j))
  | _, _, _ => none
def isNon : D → Bool
  | .non => true | _ => false
def isScal : D → Bool
  | .non => true | .bl _ => true | .int _ => true | .str _ => true | _ => false
def eqD (st : DS) (x y : D) : Option Bool := match x, y with
  | .int i, .int j => some (decide (i = j))
  | .str i, .str j => some (decide (i = j))
  | .bl i, .bl j => some (decide (i = j))
  | x, y => match pd st x, pd st y with
    | some a, some b => if SeqAt.shaped a && SeqAt.shaped b then some (PyData.eqv a b) else none
    | _, _ => none
def flatD : D → Bool
  | .non => true | .bl _ => true | .int _ => true | .str _ => true | _ => false
/-- == of flat values -/
def eqF : D → D → Bool
  | .non, .non => true
  | .bl a, .bl b => a == b
  | .bl a, .int b => (if a then 1 else 0) == b
  | .int a, .bl b => a == (if b then 1 else 0)
  | .int a, .int b => a == b
  | .str a, .str b => a == b
  | _, _ => false
/-- x among the items -/
def inL (st : DS) (x : D) (ys : List D) : Option Bool := if flatD x && ys.all flatD then some (ys.any fun y => eqF y x) else none
def keyOf : D → Option Key
  | .int i => some (.inl i)
  | .str s => some (.inr s)
  | _ => none
def keysOf (kvs : List (D × D)) : Option (List (Key × D)) := match kvs with
  | [] => some []
  | (k, v) :: r => match keyOf k, keysOf r with | some a, some b => some ((a, v) :: b) | _, _ => none
def findK (k : Key) : List (Key × D) → Option D
  | [] => none
  | (a, v) :: r => if a = k then some v else findK k r
def dicD (st : DS) : D → Option (List (D × D))
  | .dic kvs => some kvs
  | .ref n => match getO st n with | some (.dic kvs) => some kvs | _ => none
  | _ => none
def inD (st : DS) (x y : D) : Option Bool := match x, y with
  | .str a, .str b => some (!(Builtin.Str.occurrences b a 0 b.length 1).isEmpty)
  | x, y => match seqD st y with | some ys => inL st x ys | none => none
def dinD (st : DS) (x y : D) : Option Bool := match dicD st y, keyOf x with
  | some kvs, some k => match keysOf kvs with | some l => some (findK k l).isSome | none => none
  | _, _ => none
def dixD (st : DS) (x y : D) : Option D := match dicD st x, keyOf y with
  | some kvs, some k => match keysOf kvs with | some l => findK k l | none => none
  | _, _ => none
def cmpD (op : COp) (st : DS) (x y : D) : Option Bool := match op with
  | .eq => eqD st x y
  | .ne => (eqD st x y).map (!·)
  | .lt => match x, y with | .int i, .int j => some (decide (i < j)) | _, _ => none
  | .le => match x, y with | .int i, .int j => some (decide (i ≤ j)) | _, _ => none
  | .gt => match x, y with | .int i, .int j => some (decide (j < i)) | _, _ => none
  | .ge => match x, y with | .int i, .int j => some (decide (j ≤ i)) | _, _ => none
  | .inn => inD st x y
  | .nin => (inD st x y).map (!·)
def truD (st : DS) (d : D) : Option Bool := match d with
  | .non => some false
  | .bl b => some b
  | .int i => some (i != 0)
  | .str s => if s.length ≤ sizeLine then some ((s.length : Int) != 0) else none
  | d => match seqD st d with
    | some xs => some (!xs.isEmpty)
    | none => match dicD st d with | some kvs => some (!kvs.isEmpty) | none => none
def ixD (st : DS) (x y : D) : Option D := match x, y with
  | .str s, .int i => if s.length ≤ sizeLine then (atI s.cps.toList i).map fun c => .str ⟨#[c]⟩ else none
  | x, .int i => match seqD st x with | some xs => atI xs i | none => none
  | _, _ => none
def cutD (xs : List D) (lo hi : Option Int) : List D := (xs.drop (HT.sIx xs.length 0 lo)).take (HT.sIx xs.length xs.length hi - HT.sIx xs.length 0 lo)
def bitsD (i : Int) : Nat := Builtin.Int.intBits i
def biD (b : BI) (st : DS) (xs : List D) : Option D := match b, xs with
  | .abs, [.int i] => some (.int (if i < 0 then -i else i))
  | .len, [.str s] => if s.length ≤ sizeLine then some (.int s.length) else none
  | .len, [d] => match seqD st d with
    | some ys => some (.int ys.length)
    | none => match dicD st d with | some kvs => some (.int kvs.length) | none => none
  | .max, [.int i, .int j] => some (.int (if j > i then j else i))
  | .min, [.int i, .int j] => some (.int (if j < i then j else i))
  | .int, [.int i] => some (.int i)
  | .int, [.bl k] => some (.int (if k then 1 else 0))
  | .str, [.int i] => if i.natAbs.log2 < 1920 then some (.str (toString i)) else none
  | .repr, [d] => match pd st d with
    | some p => if p.showable && decide (p.shown.length ≤ sizeLine) && decide (p.depth ≤ 60) && !p.hasDict then some (.str p.shown) else none
    | none => none
  | .gcd, [.int a, .int b] => some (.int ((Nat.gcd a.natAbs b.natAbs : Nat) : Int))
  | .isqrt, [.int a] => if 0 ≤ a ∧ a.toNat.log2 < 13000 then some (.int ((Float64.isqrt a.toNat : Nat) : Int)) else none
  | .tuple, [.tup ys] => some (.tup ys)
  | .tuple, [d] => match lisD st d with | some ys => some (.tup ys) | none => none
  | .all, [d] => match (lisD st d).bind blsD with | some bs => some (.bl (bs.all id)) | none => none
  | .any, [d] => match (lisD st d).bind blsD with | some bs => some (.bl (bs.any id)) | none => none
  | .sum, [d] => match (lisD st d).bind intsD with | some bs => some (.int bs.sum) | none => none
  | _, _ => none
/-- what a walk gives -/
def itD (ik : IK) (st : DS) (xs : List D) : Option (List D) := match ik, xs with
  | .seq, [.str s] => some (s.cps.toList.map fun c => .str ⟨#[c]⟩)
  | .seq, [.tup xs] => some xs
  | .seq, [.lst xs] => some xs
  | .seq, [.scr xs] => some xs
  | .rng, [.int j] => if -(2 ^ 62) ≤ j ∧ j < 2 ^ 62 then some ((List.range j.toNat).map fun (k : Nat) => .int (0 + (k : Int))) else none
  | .rng, [.int i, .int j] => if -(2 ^ 62) ≤ i ∧ i < 2 ^ 62 ∧ -(2 ^ 62) ≤ j ∧ j < 2 ^ 62 then some ((List.range (j - i).toNat).map fun (k : Nat) => .int (i + (k : Int))) else none
  | .enum, [.lst ys] => some (ys.zipIdx.map fun p => .tup [.int (p.2 : Int), p.1])
  | .enumT, [.tup ys] => some (ys.zipIdx.map fun p => .tup [.int (p.2 : Int), p.1])
  | _, _ => none
def putP (kvs : List (D × D)) (k : Key) (kd v : D) : List (D × D) :=
  if kvs.any (fun kv => decide (keyOf kv.1 = some k)) then kvs.map (fun kv => if keyOf kv.1 = some k then (kv.1, v) else kv) else kvs ++ [(kd, v)]
def mergeP (kvs : List (D × D)) : List (D × D) → List (D × D)
  | [] => kvs
  | (k, v) :: r => match keyOf k with
    | some a => mergeP (putP kvs a k v) r
    | none => kvs
def putFD (f : Str) (v : D) : List (Str × D) → List (Str × D)
  | [] => [(f, v)]
  | (g, u) :: r => if g = f then (g, v) :: r else (g, u) :: putFD f v r
def lookFD (f : Str) : List (Str × D) → Option D
  | [] => none
  | (g, u) :: r => if g = f then some u else lookFD f r
def pairUp : List D → Option (List (D × D))
  | [] => some []
  | k :: v :: r => (pairUp r).map fun l => (k, v) :: l
  | _ => none
/-- of which type a value is -/
def isaD (st : DS) (t : IT) (x : D) : Bool := match t, x with
  | .int, .int _ => true
  | .int, .bl _ => true
  | .bool, .bl _ => true
  | .str, .str _ => true
  | .tuple, .tup _ => true
  | .list, x => (lisD st x).isSome
  | _, _ => false
/-- a list comes new: told as it is, or as an object -/
def newL (m : Bool) (xs : List D) (st : DS) : R D := if m then .ok (.ref st.length) (st ++ [.lst xs]) else .ok (.lst xs) st
def slD (m : Bool) (x : D) (l h : Option Int) (st3 : DS) : R D := match x with
  | .tup xs => if m then .bad else .ok (.tup (cutD xs l h)) st3
  | .str s => if m then .bad else if s.length ≤ sizeLine then .ok (.str (cutS s l h)) st3 else .bad
  | x => match lisD st3 x with | some xs => newL m (cutD xs l h) st3 | none => .bad
def newD (m : Bool) (kvs : List (D × D)) (st : DS) : R D := if m then .ok (.ref st.length) (st ++ [.dic kvs]) else .ok (.dic kvs) st
/-- of what kind a method's object is -/
def mtyD (k : MK) (st : DS) (x : D) : Bool := match k with
  | .append => (lstD st x).isSome
  | .pop => (lstD st x).isSome
  | .extend => (lstD st x).isSome
  | .dget => (dicD st x).isSome
  | .dget2 => (dicD st x).isSome
  | .dupdate => (dicD st x).isSome
  | .bitlen => match x with | .int _ => true | _ => false
  | .join => match x with | .str _ => true | _ => false
def methD (k : MK) (st : DS) (o : D) (xs : List D) : R D := match k, o, xs with
  | .append, .ref n, [d] => match getO st n with
    | some (.lst ys) => if ys.length < sizeLine then .ok .non (setO st n (.lst (ys ++ [d]))) else .bad
    | _ => .bad
  | .pop, .ref n, [] => match getO st n with
    | some (.lst ys) => match ys[ys.length - 1]? with | some y => .ok y (setO st n (.lst ys.dropLast)) | none => .bad
    | _ => .bad
  | .dget, d, [x] => match dicD st d, keyOf x with
    | some kvs, some k => match keysOf kvs with | some l => .ok ((findK k l).getD .non) st | none => .bad
    | _, _ => .bad
  | .dget2, d, [x, y] => match dicD st d, keyOf x with
    | some kvs, some k => match keysOf kvs with | some l => .ok ((findK k l).getD y) st | none => .bad
    | _, _ => .bad
  | .bitlen, .int i, [] => .ok (.int (Builtin.Int.intBits i : Nat)) st
  | _, _, _ => .bad
mutual
def tnD : TN → D → Env → Option Env
  | .nm i, d, ρ => some (setV ρ i (some d))
  | .tp ts, .tup xs, ρ => tnL ts xs ρ
  | .tp _, _, _ => none
def tnL : List TN → List D → Env → Option Env
  | [], [], ρ => some ρ
  | t :: ts, x :: xs, ρ => match tnD t x ρ with | some ρ' => tnL ts xs ρ' | none => none
  | _, _, _ => none
end
def fuel : Nat := 18446744073709551616

/-- the list of a comprehension; nothing is raised within -/
def lcL (f : D → DS → R (Option D)) : List D → List D → DS → R (List D)
  | [], acc, st => .ok acc st
  | x :: xs, acc, st => match f x st with
    | .ok (some d) st1 => if acc.length < sizeLine then lcL f xs (acc ++ [d]) st1 else .bad
    | .ok none st1 => lcL f xs acc st1
    | _ => .bad

section
variable (C : Nat → List D → DS → R D)
mutual
def eval : E → Env → DS → R D
  | .var i, ρ, st => R.of (getV ρ i) st
  | .lit d, _, st => .ok d st
  | .con _ d, _, st => .ok d st
  | .bin op a b, ρ, st => (eval a ρ st).bind fun x st1 => (eval b ρ st1).bind fun y st2 => R.of (binD op st2 x y) st2
  | .neg a, ρ, st => (eval a ρ st).bind fun x st1 => match x with | .int i => .ok (.int (-i)) st1 | _ => .bad
  | .not a, ρ, st => (eval a ρ st).bind fun x st1 => (R.of (truD st1 x) st1).bind fun k st2 => .ok (.bl (!k)) st2
  | .and a b, ρ, st => (eval a ρ st).bind fun x st1 => (R.of (truD st1 x) st1).bind fun k st2 => if k then eval b ρ st2 else .ok x st2
  | .or a b, ρ, st => (eval a ρ st).bind fun x st1 => (R.of (truD st1 x) st1).bind fun k st2 => if k then .ok x st2 else eval b ρ st2
  | .cmp op a b, ρ, st => (eval a ρ st).bind fun x st1 => (eval b ρ st1).bind fun y st2 => (R.of (cmpD op st2 x y) st2).bind fun k st3 => .ok (.bl k) st3
  | .chain o1 o2 a b c, ρ, st => (eval a ρ st).bind fun x st1 => (eval b ρ st1).bind fun y st2 => (R.of (cmpD o1 st2 x y) st2).bind fun k st3 =>
      if k then (eval c ρ st3).bind fun z st4 => (R.of (cmpD o2 st4 y z) st4).bind fun k st5 => .ok (.bl k) st5 else .ok (.bl false) st3
  | .isN ng a, ρ, st => (eval a ρ st).bind fun x st1 => .ok (.bl (xor ng (isNon x))) st1
  | .ife c a b, ρ, st => (evalT c ρ st).bind fun k st1 => if k then eval a ρ st1 else eval b ρ st1
  | .tup es, ρ, st => (evalL es ρ st).bind fun xs st1 => if xs.length ≤ sizeLine then .ok (.tup xs) st1 else .bad
  | .tupS pre s post, ρ, st => (evalL pre ρ st).bind fun xs st1 => (eval s ρ st1).bind fun y st2 => (evalL post ρ st2).bind fun zs st3 => match y with
      | .tup ys => if (xs ++ ys ++ zs).length ≤ sizeLine then .ok (.tup (xs ++ ys ++ zs)) st3 else .bad
      | _ => .bad
  | .lst m es, ρ, st => (evalL es ρ st).bind fun xs st1 => if xs.length ≤ sizeLine then newL m xs st1 else .bad
  | .dic m es, ρ, st => match evalL es ρ st with
      | .ok xs st1 => (match pairUp xs with
        | some kvs => if kvs.length ≤ 15 ∧ (keysOf kvs).isSome then newD m (mergeP [] kvs) st1 else .bad
        | none => .bad)
      | _ => .bad
  | .dix a i, ρ, st => (eval a ρ st).bind fun x st1 => (eval i ρ st1).bind fun y st2 => R.of (dixD st2 x y) st2
  | .din ng a b, ρ, st => (eval a ρ st).bind fun x st1 => (eval b ρ st1).bind fun y st2 => (R.of (dinD st2 x y) st2).bind fun k st3 => .ok (.bl (xor ng k)) st3
  | .ix a i, ρ, st => (eval a ρ st).bind fun x st1 => (eval i ρ st1).bind fun y st2 => R.of (ixD st2 x y) st2
  | .sl m a lo hi, ρ, st => (eval a ρ st).bind fun x st1 => (evalO lo ρ st1).bind fun l st2 => (evalO hi ρ st2).bind fun h st3 => slD m x l h st3
  | .rev m a, ρ, st => (eval a ρ st).bind fun x st1 => match lisD st1 x with | some xs => newL m xs.reverse st1 | none => .bad
  | .call f es, ρ, st => (evalL es ρ st).bind fun xs st1 => C f xs st1
  | .bi b es, ρ, st => (evalL es ρ st).bind fun xs st1 => R.of (biD b st1 xs) st1
  | .newl m a, ρ, st => (eval a ρ st).bind fun x st1 => match seqD st1 x with | some xs => newL m xs st1 | none => .bad
  | .newd m a, ρ, st => (eval a ρ st).bind fun x st1 => match seqD st1 x with
      | some xs => match xs.mapM (fun x => match x with | .tup [k, v] => some (k, v) | _ => none) with
        | some kvs => if (keysOf kvs).isSome then newD m (mergeP [] kvs) st1 else .bad
        | none => .bad
      | none => .bad
  | .meth k o es, ρ, st => (eval o ρ st).bind fun x st1 => if mtyD k st1 x then (evalL es ρ st1).bind fun xs st2 => methD k st2 x xs else .bad
  | .imeth c f o es, ρ, st => (eval o ρ st).bind fun x st1 => match x with
      | .ref n => match getO st1 n with
        | some (.ins c' _) => if c' = c then (evalL es ρ st1).bind fun xs st2 => C f (x :: xs) st2 else .bad
        | _ => .bad
      | _ => .bad
  | .mk c f es, ρ, st => (evalL es ρ st).bind fun xs st1 => (C f (.ref st1.length :: xs) (st1 ++ [.ins c []])).bind fun d st2 => match d with
      | .non => .ok (.ref st1.length) st2
      | _ => .bad
  | .fld c o f, ρ, st => (eval o ρ st).bind fun x st1 => match x with
      | .ref n => match getO st1 n with
        | some (.ins c' fs) => if c' = c then R.of (lookFD f fs) st1 else .bad
        | _ => .bad
      | _ => .bad
  | .tv a, ρ, st => eval a ρ st
  | .bad, _, _ => .bad
  | .emp m, _, st => newD m [] st
  | .binO op a b, ρ, st => (eval a ρ st).bind fun x st1 => (eval b ρ st1).bind fun y st2 => match catD op st2 x y with | some zs => newL true zs st2 | none => .bad
  | .revT a, ρ, st => (eval a ρ st).bind fun x st1 => match x with | .tup xs => .ok (.tup xs.reverse) st1 | _ => .bad
  | .isa ts a, ρ, st => (eval a ρ st).bind fun x st1 => .ok (.bl (ts.any fun t => isaD st1 t x)) st1
  | .told _ e, ρ, st => match eval e ρ st with
    | .ok d st1 => .ok (.tup [.str "told", d]) st1
    | .exc 0 [d] st1 => .ok (.tup [.str "great", d]) st1
    | _ => .bad
  | .lc m elt tg ik src ifs own, ρ, st => (evalL src ρ st).bind fun xs st1 => match itD ik st1 xs with
      | some items => (lcL (fun x st2 => match tnD tg x (wipeV ρ own) with
          | some ρ' => (evalTs ifs ρ' st2).bind fun k st3 => if k then (eval elt ρ' st3).bind fun d st4 => .ok (some d) st4 else .ok none st3
          | none => .bad) items [] st1).bind fun ys st2 => newL m ys st2
      | none => .bad
/-- as a test -/
def evalT : E → Env → DS → R Bool
  | .not a, ρ, st => (evalT a ρ st).bind fun k st1 => .ok (!k) st1
  | .and a b, ρ, st => (evalT a ρ st).bind fun k st1 => if k then evalT b ρ st1 else .ok false st1
  | .or a b, ρ, st => (evalT a ρ st).bind fun k st1 => if k then .ok true st1 else evalT b ρ st1
  | .cmp op a b, ρ, st => (eval a ρ st).bind fun x st1 => (eval b ρ st1).bind fun y st2 => R.of (cmpD op st2 x y) st2
  | .tv a, ρ, st => (eval a ρ st).bind fun x st1 => R.of (truD st1 x) st1
  | .isN ng a, ρ, st => (eval a ρ st).bind fun x st1 => .ok (xor ng (isNon x)) st1
  | .din ng a b, ρ, st => (eval a ρ st).bind fun x st1 => (eval b ρ st1).bind fun y st2 => (R.of (dinD st2 x y) st2).bind fun k st3 => .ok (xor ng k) st3
  | .chain o1 o2 a b c, ρ, st => (eval a ρ st).bind fun x st1 => (eval b ρ st1).bind fun y st2 => (R.of (cmpD o1 st2 x y) st2).bind fun k st3 =>
      if k then (eval c ρ st3).bind fun z st4 => R.of (cmpD o2 st4 y z) st4 else .ok false st3
  | _, _, _ => .bad
def evalL : List E → Env → DS → R (List D)
  | [], _, st => .ok [] st
  | e :: es, ρ, st => (eval e ρ st).bind fun x st1 => (evalL es ρ st1).bind fun xs st2 => .ok (x :: xs) st2
def evalTs : List E → Env → DS → R Bool
  | [], _, st => .ok true st
  | e :: es, ρ, st => (evalT e ρ st).bind fun k st1 => if k then evalTs es ρ st1 else .ok false st1
def evalO : List E → Env → DS → R (Option Int)
  | [], _, st => .ok none st
  | e :: _, ρ, st => (eval e ρ st).bind fun x st1 => match x with | .int i => .ok (some i) st1 | _ => .bad
end

/-! ### statements -/
def whileL (c : Env → DS → R Bool) (b : Env → DS → RS) : Nat → Env → DS → RS
  | 0, _, _ => .bad
  | n + 1, ρ, st => (c ρ st).to ρ fun k st1 => if k then (match b ρ st1 with
      | .nx ρ' st' => whileL c b n ρ' st'
      | .cont ρ' st' => whileL c b n ρ' st'
      | .brk ρ' st' => .nx ρ' st'
      | r => r) else .nx ρ st1
def forL (b : D → Env → DS → RS) : List D → Env → DS → RS
  | [], ρ, st => .nx ρ st
  | x :: xs, ρ, st => match b x ρ st with
      | .nx ρ' st' => forL b xs ρ' st'
      | .cont ρ' st' => forL b xs ρ' st'
      | .brk ρ' st' => .nx ρ' st'
      | r => r
mutual
def asgT : T → D → Env → DS → RS
  | .nm i, d, ρ, st => .nx (setV ρ i (some d)) st
  | .sub o i, d, ρ, st => (eval C o ρ st).to ρ fun od st1 => (eval C i ρ st1).to ρ fun x st2 => match od with
      | .ref n => match getO st2 n, keyOf x with
        | some (.dic kvs), some k => if kvs.length < sizeLine then .nx ρ (setO st2 n (.dic (putP kvs k x d))) else .bad
        | some (.lst xs), some (.inl i) => (match ixN xs.length i with
          | some k => .nx ρ (setO st2 n (.lst (xs.set k d)))
          | none => .bad)
        | _, _ => .bad
      | _ => .bad
  | .fld c o f, d, ρ, st => (eval C o ρ st).to ρ fun od st1 => match od with
      | .ref n => match getO st1 n with
        | some (.ins c' fs) => if c' = c ∧ fs.length < 1000 then .nx ρ (setO st1 n (.ins c (putFD f d fs))) else .bad
        | _ => .bad
      | _ => .bad
  | .tp ts, .tup xs, ρ, st => if xs.length = ts.length then asgTs ts xs ρ st else .bad
  | .tp _, _, _, _ => .bad
def asgTs : List T → List D → Env → DS → RS
  | [], [], ρ, st => .nx ρ st
  | t :: ts, x :: xs, ρ, st => match asgT t x ρ st with
      | .nx ρ' st' => asgTs ts xs ρ' st'
      | .exc c fs ρ' st' => .exc c fs ρ' st'
      | _ => .bad
  | _, _, _, _ => .bad
end
mutual
def exec : S → Env → DS → RS
  | .expr e, ρ, st => (eval C e ρ st).to ρ fun _ st1 => .nx ρ st1
  | .ret e, ρ, st => (eval C e ρ st).to ρ fun d st1 => .ret d st1
  | .retN, _, st => .ret .non st
  | .asg t e, ρ, st => (eval C e ρ st).to ρ fun d st1 => asgT C t d ρ st1
  | .aug i op e, ρ, st => match getV ρ i with
      | some x => (eval C e ρ st).to ρ fun y st1 => match augD op x y with
        | some z => .nx (setV ρ i (some z)) st1
        | none => .bad
      | none => .bad
  | .ife c a b, ρ, st => (evalT C c ρ st).to ρ fun k st1 => if k then execs a ρ st1 else execs b ρ st1
  | .whl c b, ρ, st => whileL (evalT C c) (execs b) fuel ρ st
  | .forr tg ik src b, ρ, st => (evalL C src ρ st).to ρ fun xs st1 => match itD ik st1 xs with
      | some items => forL (fun x ρ' st' => match tnD tg x ρ' with | some ρ2 => execs b ρ2 st' | none => .bad) items ρ st1
      | none => .bad
  | .pass, ρ, st => .nx ρ st
  | .brk, ρ, st => .brk ρ st
  | .cont, ρ, st => .cont ρ st
  | .raise c es, ρ, st => (evalL C es ρ st).to ρ fun xs st1 => .exc c xs ρ st1
  | .par is es, ρ, st => (evalL C es ρ st).to ρ fun xs st1 => if xs.length = is.length then .nx (setAll is xs ρ) st1 else .bad
  | .slc i e, ρ, st => (eval C e ρ st).to ρ fun d st1 => .nx (setV ρ i (some d)) st1
  | .bad, _, _ => .bad
def execs : List S → Env → DS → RS
  | [], ρ, st => .nx ρ st
  | s :: r, ρ, st => match exec s ρ st with
      | .nx ρ' st' => execs r ρ' st'
      | x => x
end
end
/-! ### defs -/
structure FDef where
  nm : Str
  gl : Bool
  np : Nat
  iso : Bool
  lam : Bool
  N : List Str
  body : List S
def RS.end : RS → R D
  | .nx _ st => .ok .non st
  | .ret d st => .ok d st
  | .exc c fs _ st => .exc c fs st
  | _ => .bad
def runF (C : Nat → List D → DS → R D) (f : FDef) (xs : List D) (st : DS) : R D :=
  if xs.length = f.np ∧ xs.length ≤ f.N.length then (execs C f.body (xs.map some ++ List.replicate (f.N.length - xs.length) none) st).end else .bad
/-- a def that is given no objects and hands back none: its own are let go -/
def isoF (f : FDef) (g : List D → DS → R D) (xs : List D) (st : DS) : R D := if f.iso then
    (if noRefL xs then (match g xs [] with
      | .ok d _ => if noRef d then .ok d st else .bad
      | .exc c fs _ => if noRefL fs then .exc c fs st else .bad
      | .bad => .bad) else .bad)
  else g xs st
def callN (P : Nat → Option FDef) : Nat → Nat → List D → DS → R D
  | 0, _, _, _ => .bad
  | n + 1, f, xs, st => match P f with
    | some fd => isoF fd (runF (callN P n) fd) xs st
    | none => .bad
end MP

set_option Elab.async false
set_option linter.all false
set_option maxRecDepth 100000
set_option maxHeartbeats 1000000
namespace MP
open PySem L2
/-- the classes' places, the tables of code objects -/
structure Cl where
  c : Nat → Addr
  T : List (Addr × Str)
instance : CoeFun Cl (fun _ => Nat → Addr) := ⟨Cl.c⟩
open LamX in
theorem tabs_keep {T : List (Addr × Str)} {H H' : Hp} (t : Tabs T H) (h : ∀ b o, H b = some o → (∃ ps, o = .tbl ps) ∨ (∃ q, o = .ext q) → H' b = some o) : Tabs T H' := fun p hp => by
  obtain ⟨ps, e, ok, a⟩ := t p hp
  refine ⟨ps, h _ _ e (.inl ⟨ps, rfl⟩), ok, fun pos cv hc => ?_⟩
  obtain ⟨c, e1, e2⟩ := a pos cv hc
  exact ⟨c, e1, h _ _ e2 (.inr ⟨_, rfl⟩)⟩
/-! ### how values stand in the heap -/
/-- a tuple of the written part -/
def WrT (K : PySem.W.Frag) (a : Addr) (xs : List V) : Prop :=
  ∃ (o : Obj) (its : Array Value) (n : Nat), K.lookup a = some o ∧ o.cls = .type "tuple" ∧ o.data = .seq its n ∧ its.size ≤ sizeLine ∧ Vals xs its.toList
section
variable (K : PySem.W.Frag) (F μ : List Addr) (H : Hp)
mutual
inductive Rel : D → V → Prop
  | non : Rel .non .non
  | bl (b : Bool) : Rel (.bl b) (.bl b)
  | int (i : Int) : Rel (.int i) (.int i)
  | str (s : Str) : Rel (.str s) (.str s)
  | tup {a : Addr} {xs : List V} {ds : List D} : H a = some (.tup xs) → a ∉ μ → RelL ds xs → Rel (.tup ds) (.ref a)
  | tupK {a : Addr} {xs : List V} {ds : List D} : WrT K a xs → RelL ds xs → Rel (.tup ds) (.ref a)
  | lst {a : Addr} {xs : List V} {ds : List D} : H a = some (.lst xs) → a ∉ μ → a ∉ F → RelL ds xs → Rel (.lst ds) (.ref a)
  | scr {a : Addr} {xs : List V} {o : Obj} {ds : List D} : H a = some (.frz o (.lst xs)) → a ∉ μ → RelL ds xs → Rel (.scr ds) (.ref a)
  | scrK {a : Addr} {xs : List V} {ds : List D} : (∀ H', SqL K H' a xs) → RelL ds xs → Rel (.scr ds) (.ref a)
  | dic {a : Addr} {kvs : List (D × D)} {l : List (Key × V)} : H a = some (.dK l) → a ∉ μ → a ∉ F → RelP kvs l → Rel (.dic kvs) (.ref a)
  | ref {n : Nat} {a : Addr} : μ[n]? = some a → Rel (.ref n) (.ref a)
inductive RelL : List D → List V → Prop
  | nil : RelL [] []
  | cons {d : D} {v : V} {ds : List D} {vs : List V} : Rel d v → RelL ds vs → RelL (d :: ds) (v :: vs)
inductive RelP : List (D × D) → List (Key × V) → Prop
  | nil : RelP [] []
  | cons {k : D} {d : D} {key : Key} {v : V} {ds : List (D × D)} {vs : List (Key × V)} : keyOf k = some key → Rel d v → RelP ds vs → RelP ((k, d) :: ds) ((key, v) :: vs)
end
end
/-- the world grows: old ones in μ may be written, all else that is tracked stays -/
structure Ext (μ μ' : List Addr) (H H' : Hp) : Prop where
  pre : ∃ s, μ' = μ ++ s ∧ ∀ p ∈ s, H p = none
  keep : ∀ p o, H p = some o → p ∉ μ → (∀ ps, o ≠ .tbl ps) → H' p = some o
  live : ∀ p, H p ≠ none → H' p ≠ none
theorem Ext.refl {μ : List Addr} {H : Hp} : Ext μ μ H H := ⟨⟨[], by simp, fun _ h => nomatch h⟩, fun _ _ h _ _ => h, fun _ h => h⟩
theorem Ext.trans {μ μ1 μ2 : List Addr} {H H1 H2 : Hp} (a : Ext μ μ1 H H1) (b : Ext μ1 μ2 H1 H2) : Ext μ μ2 H H2 := by
  obtain ⟨s, rfl, hs⟩ := a.pre
  obtain ⟨t, rfl, ht⟩ := b.pre
  refine ⟨⟨s ++ t, by simp, fun p hp => ?_⟩, fun p o h hn nt => ?_, fun p h => b.live p (a.live p h)⟩
  · rcases List.mem_append.mp hp with z | z
    · exact hs p z
    · cases q : H p with
      | none => rfl
      | some o => exact absurd (ht p z) (a.live p (by rw [q]; exact fun e => nomatch e))
  · refine b.keep p o (a.keep p o h hn nt) (fun z => ?_) nt
    rcases List.mem_append.mp z with z | z
    · exact hn z
    · rw [hs p z] at h; cases h
theorem Ext.nin {μ μ' : List Addr} {H H' : Hp} (e : Ext μ μ' H H') {a : Addr} {o : HO} (h : H a = some o) (hn : a ∉ μ) : a ∉ μ' := by
  obtain ⟨s, rfl, hs⟩ := e.pre
  intro z
  rcases List.mem_append.mp z with z | z
  · exact hn z
  · rw [hs a z] at h; cases h
theorem Ext.at {μ μ' : List Addr} {H H' : Hp} (e : Ext μ μ' H H') {n : Nat} {a : Addr} (h : μ[n]? = some a) : μ'[n]? = some a := by
  obtain ⟨s, rfl, hs⟩ := e.pre
  rw [List.getElem?_append_left (List.getElem?_eq_some_iff.mp h).1]
  exact h
section
variable {K : PySem.W.Frag} {F μ μ' : List Addr} {H H' : Hp}
mutual
theorem Rel.mono (e : Ext μ μ' H H') : ∀ (d : D) (v : V), Rel K F μ H d v → Rel K F μ' H' d v
  | .non, _, h => by cases h; exact .non
  | .bl _, _, h => by cases h; exact .bl _
  | .int _, _, h => by cases h; exact .int _
  | .str _, _, h => by cases h; exact .str _
  | .tup ds, _, h => by
    cases h with
    | tup h1 h2 h3 => exact .tup (e.keep _ _ h1 h2 (fun _ z => nomatch z)) (e.nin h1 h2) (RelL.mono e ds _ h3)
    | tupK h1 h3 => exact .tupK h1 (RelL.mono e ds _ h3)
  | .lst ds, _, h => by
    cases h with
    | lst h1 h2 h4 h3 => exact .lst (e.keep _ _ h1 h2 (fun _ z => nomatch z)) (e.nin h1 h2) h4 (RelL.mono e ds _ h3)
  | .scr ds, _, h => by
    cases h with
    | scr h1 h2 h3 => exact .scr (e.keep _ _ h1 h2 (fun _ z => nomatch z)) (e.nin h1 h2) (RelL.mono e ds _ h3)
    | scrK h1 h3 => exact .scrK h1 (RelL.mono e ds _ h3)
  | .dic kvs, _, h => by
    cases h with
    | dic h1 h2 h4 h3 => exact .dic (e.keep _ _ h1 h2 (fun _ z => nomatch z)) (e.nin h1 h2) h4 (RelP.mono e kvs _ h3)
  | .ref n, _, h => by
    cases h with
    | ref h1 => exact .ref (e.at h1)
theorem RelL.mono (e : Ext μ μ' H H') : ∀ (ds : List D) (vs : List V), RelL K F μ H ds vs → RelL K F μ' H' ds vs
  | [], _, h => by cases h; exact .nil
  | d :: ds, _, h => by
    cases h with
    | cons h1 h2 => exact .cons (Rel.mono e d _ h1) (RelL.mono e ds _ h2)
theorem RelP.mono (e : Ext μ μ' H H') : ∀ (ds : List (D × D)) (vs : List (Key × V)), RelP K F μ H ds vs → RelP K F μ' H' ds vs
  | [], _, h => by cases h; exact .nil
  | (k, d) :: ds, _, h => by
    cases h with
    | cons h0 h1 h2 => exact .cons h0 (Rel.mono e d _ h1) (RelP.mono e ds _ h2)
end
theorem RelL.length : ∀ {ds : List D} {vs : List V}, RelL K F μ H ds vs → ds.length = vs.length
  | [], _, h => by cases h; rfl
  | d :: ds, _, h => by
    cases h with
    | cons h1 h2 => simp [RelL.length h2]
theorem RelL.append : ∀ {ds es : List D} {vs ws : List V}, RelL K F μ H ds vs → RelL K F μ H es ws → RelL K F μ H (ds ++ es) (vs ++ ws)
  | [], _, _, _, h, g => by cases h; exact g
  | d :: ds, _, _, _, h, g => by
    cases h with
    | cons h1 h2 => exact .cons h1 (RelL.append h2 g)
theorem RelL.get : ∀ {ds : List D} {vs : List V} {i : Nat} {d : D}, RelL K F μ H ds vs → ds[i]? = some d → ∃ v, vs[i]? = some v ∧ Rel K F μ H d v
  | [], _, _, _, _, e => by simp at e
  | d :: ds, _, 0, _, h, e => by
    cases h with
    | cons h1 h2 => simp at e; subst e; exact ⟨_, rfl, h1⟩
  | d :: ds, _, i + 1, _, h, e => by
    cases h with
    | cons h1 h2 =>
      obtain ⟨v, a, b⟩ := RelL.get (i := i) h2 (by simpa using e)
      exact ⟨v, by simpa using a, b⟩
theorem RelL.get' : ∀ {ds : List D} {vs : List V} {i : Nat} {v : V}, RelL K F μ H ds vs → vs[i]? = some v → ∃ d, ds[i]? = some d ∧ Rel K F μ H d v
  | [], _, _, _, h, e => by cases h; simp at e
  | d :: ds, _, 0, _, h, e => by
    cases h with
    | cons h1 h2 => simp at e; subst e; exact ⟨_, rfl, h1⟩
  | d :: ds, _, i + 1, _, h, e => by
    cases h with
    | cons h1 h2 =>
      obtain ⟨v, a, b⟩ := RelL.get' (i := i) h2 (by simpa using e)
      exact ⟨v, by simpa using a, b⟩
theorem RelL.take : ∀ {ds : List D} {vs : List V} (n : Nat), RelL K F μ H ds vs → RelL K F μ H (ds.take n) (vs.take n)
  | [], _, n, h => by cases h; simp; exact .nil
  | d :: ds, _, 0, h => by simp; exact .nil
  | d :: ds, _, n + 1, h => by
    cases h with
    | cons h1 h2 => exact .cons h1 (RelL.take n h2)
theorem RelL.drop : ∀ {ds : List D} {vs : List V} (n : Nat), RelL K F μ H ds vs → RelL K F μ H (ds.drop n) (vs.drop n)
  | [], _, n, h => by cases h; simp; exact .nil
  | d :: ds, _, 0, h => h
  | d :: ds, _, n + 1, h => by
    cases h with
    | cons h1 h2 => exact RelL.drop n h2
theorem RelL.reverse : ∀ {ds : List D} {vs : List V}, RelL K F μ H ds vs → RelL K F μ H ds.reverse vs.reverse
  | [], _, h => by cases h; exact .nil
  | d :: ds, _, h => by
    cases h with
    | cons h1 h2 =>
      rw [List.reverse_cons, List.reverse_cons]
      exact RelL.append (RelL.reverse h2) (.cons h1 .nil)
theorem RelL.dropLast {ds : List D} {vs : List V} (h : RelL K F μ H ds vs) : RelL K F μ H ds.dropLast vs.dropLast := by
  rw [List.dropLast_eq_take, List.dropLast_eq_take, h.length]
  exact h.take _
theorem RelL.rep {ds : List D} {vs : List V} (h : RelL K F μ H ds vs) : ∀ n : Nat, RelL K F μ H (List.replicate n ds).flatten (List.replicate n vs).flatten
  | 0 => .nil
  | n + 1 => by
    rw [List.replicate_succ, List.replicate_succ, List.flatten_cons, List.flatten_cons]
    exact h.append (h.rep n)
theorem RelP.keys : ∀ {ds : List (D × D)} {l : List (Key × V)}, RelP K F μ H ds l → ∃ l', keysOf ds = some l' ∧ Paired (fun (p : Key × D) (q : Key × V) => p.1 = q.1 ∧ Rel K F μ H p.2 q.2) l' l
  | [], _, h => by cases h; exact ⟨[], rfl, .nil⟩
  | (k, d) :: ds, _, h => by
    cases h with
    | cons h0 h1 h2 =>
      obtain ⟨l', e, p⟩ := RelP.keys h2
      exact ⟨_, by unfold keysOf; rw [h0, e], .cons ⟨rfl, h1⟩ p⟩
theorem RelP.length : ∀ {ds : List (D × D)} {l : List (Key × V)}, RelP K F μ H ds l → ds.length = l.length
  | [], _, h => by cases h; rfl
  | (k, d) :: ds, _, h => by
    cases h with
    | cons h0 h1 h2 => simp [RelP.length h2]
end

/-! ### objects, environments -/
def RelFs (K : PySem.W.Frag) (F μ : List Addr) (H : Hp) (fs : List (Str × D)) (l : List (Str × V)) : Prop :=
  Paired (fun (p : Str × D) (q : Str × V) => p.1 = q.1 ∧ Rel K F μ H p.2 q.2) fs l
def ObRel (K : PySem.W.Frag) (cls : Cl) (F μ : List Addr) (H : Hp) (a : Addr) : Ob → Prop
  | .lst ds => ∃ vs, H a = some (.lst vs) ∧ RelL K F μ H ds vs
  | .dic kvs => ∃ l, H a = some (.dK l) ∧ RelP K F μ H kvs l
  | .ins c fs => ∃ dx l, H a = some (.ins (cls c) dx l) ∧ RelFs K F μ H fs l
structure StRel (K : PySem.W.Frag) (cls : Cl) (F μ : List Addr) (H : Hp) (st : DS) : Prop where
  len : μ.length = st.length
  nd : μ.Nodup
  obj : ∀ n a, μ[n]? = some a → ∃ ob, getO st n = some ob ∧ ObRel K cls F μ H a ob
  dis : ∀ a ∈ μ, a ∉ F
  fl : ∀ a ∈ F, H a ≠ none
  tb : LamX.Tabs cls.T H
def EnvRel (K : PySem.W.Frag) (F μ : List Addr) (H : Hp) (ρ : Env) (σ : St) : Prop :=
  ρ.length = σ.length ∧ ∀ i d, getV ρ i = some d → ∃ v, σ[i]? = some (some v) ∧ Rel K F μ H d v
section
variable {K : PySem.W.Frag} {cls : Cl} {F μ μ' : List Addr} {H H' : Hp} {st : DS} {ρ : Env} {σ : St}
theorem EnvRel.mono (r : EnvRel K F μ H ρ σ) (e : Ext μ μ' H H') : EnvRel K F μ' H' ρ σ := ⟨r.1, fun i d h => by
  obtain ⟨v, a, b⟩ := r.2 i d h
  exact ⟨v, a, b.mono e⟩⟩
theorem RelFs.mono (e : Ext μ μ' H H') {fs : List (Str × D)} {l : List (Str × V)} (h : RelFs K F μ H fs l) : RelFs K F μ' H' fs l := Paired.mapP h fun a b p => ⟨p.1, p.2.mono e⟩
theorem ObRel.mono {a : Addr} {ob : Ob} (x : ObRel K cls F μ H a ob) (e : Ext μ μ' H H') (h : H' a = H a) : ObRel K cls F μ' H' a ob := by
  cases ob with
  | lst ds => obtain ⟨vs, p, q⟩ := x; exact ⟨vs, h.trans p, q.mono e⟩
  | dic kvs => obtain ⟨vs, p, q⟩ := x; exact ⟨vs, h.trans p, q.mono e⟩
  | ins c fs => obtain ⟨dx, l, p, q⟩ := x; exact ⟨dx, l, h.trans p, q.mono e⟩
theorem ObRel.ne {a : Addr} {ob : Ob} (x : ObRel K cls F μ H a ob) : H a ≠ none := by
  cases ob with
  | lst ds => obtain ⟨vs, p, q⟩ := x; rw [p]; exact fun z => nomatch z
  | dic kvs => obtain ⟨vs, p, q⟩ := x; rw [p]; exact fun z => nomatch z
  | ins c fs => obtain ⟨dx, l, p, q⟩ := x; rw [p]; exact fun z => nomatch z
theorem StRel.ne (s : StRel K cls F μ H st) {a : Addr} (h : a ∈ μ) : H a ≠ none := by
  obtain ⟨n, hn, e⟩ := List.getElem_of_mem h
  obtain ⟨ob, _, r⟩ := s.obj n a (by rw [List.getElem?_eq_getElem hn, e])
  exact r.ne
theorem StRel.fresh (s : StRel K cls F μ H st) {a : Addr} (h : H a = none) : a ∉ μ := fun z => s.ne z h
theorem StRel.freshF (s : StRel K cls F μ H st) {a : Addr} (h : H a = none) : a ∉ F := fun z => s.fl a z h
/-- what is ours is no table -/
theorem ObRel.notTab {a : Addr} {ob : Ob} (x : ObRel K cls F μ H a ob) (u : HO) (e : H a = some u) (h : (∃ ps, u = .tbl ps) ∨ ∃ q, u = .ext q) : False := by
  cases ob with
  | lst ds => obtain ⟨vs, p, q⟩ := x; rw [p] at e; cases e; rcases h with ⟨_, z⟩ | ⟨_, z⟩ <;> cases z
  | dic kvs => obtain ⟨vs, p, q⟩ := x; rw [p] at e; cases e; rcases h with ⟨_, z⟩ | ⟨_, z⟩ <;> cases z
  | ins c fs => obtain ⟨dx, l, p, q⟩ := x; rw [p] at e; cases e; rcases h with ⟨_, z⟩ | ⟨_, z⟩ <;> cases z
theorem StRel.notTab (s : StRel K cls F μ H st) {a : Addr} (h : a ∈ μ) (u : HO) (e : H a = some u) (hu : (∃ ps, u = .tbl ps) ∨ ∃ q, u = .ext q) : False := by
  obtain ⟨n, hn, e1⟩ := List.getElem_of_mem h
  obtain ⟨ob, _, r⟩ := s.obj n a (by rw [List.getElem?_eq_getElem hn, e1])
  exact r.notTab u e hu
/-- a new tracked object that nothing of ours changes -/
theorem ext_new {p : Addr} {o : HO} (h : H p = none) : Ext μ μ H (upd H p o) :=
  ⟨⟨[], by simp, fun _ z => nomatch z⟩, fun q u e _ _ => by rw [upd_ne (ne_of_none e h)]; exact e, fun q z => by
    by_cases e : q = p
    · subst e; rw [upd_same]; exact fun z => nomatch z
    · rw [upd_ne e]; exact z⟩
theorem StRel.keep (s : StRel K cls F μ H st) (e : Ext μ μ H H') (h : ∀ a ∈ μ, H' a = H a) (ht : LamX.Tabs cls.T H') : StRel K cls F μ H' st :=
  ⟨s.len, s.nd, fun n a hn => by
    obtain ⟨ob, q, r⟩ := s.obj n a hn
    exact ⟨ob, q, r.mono e (h a (List.mem_of_getElem? hn))⟩, s.dis, fun a ha => e.live a (s.fl a ha), ht⟩
theorem StRel.new (s : StRel K cls F μ H st) {p : Addr} {o : HO} (h : H p = none) : StRel K cls F μ (upd H p o) st :=
  s.keep (ext_new h) (fun a ha => upd_ne fun z => s.ne ha (z ▸ h)) (s.tb.ext fun b u e => by rw [upd_ne (ne_of_none e h)]; exact e)
/-- a new object of ours -/
theorem ext_own {p : Addr} {o : HO} (h : H p = none) : Ext μ (μ ++ [p]) H (upd H p o) :=
  ⟨⟨[p], rfl, fun q z => by rw [List.mem_singleton.mp z]; exact h⟩, (ext_new (μ := μ) h).keep, (ext_new (μ := μ) (o := o) h).live⟩
theorem getO_append {st : DS} {x : Ob} : ∀ {n : Nat} {o : Ob}, getO st n = some o → getO (st ++ [x]) n = some o := by
  induction st with
  | nil => intro n o h; cases h
  | cons a r ih =>
    intro n o h
    cases n with
    | zero => exact h
    | succ n => exact ih h
theorem getO_last {st : DS} {x : Ob} : getO (st ++ [x]) st.length = some x := by
  induction st with
  | nil => rfl
  | cons a r ih => exact ih
theorem StRel.own (s : StRel K cls F μ H st) {p : Addr} {o : HO} {ob : Ob} (h : H p = none) (r : ObRel K cls F (μ ++ [p]) (upd H p o) p ob) : StRel K cls F (μ ++ [p]) (upd H p o) (st ++ [ob]) := by
  have np : p ∉ μ := s.fresh h
  refine ⟨by simp [s.len], ?_, fun n a hn => ?_, fun a ha => ?_, fun a ha => ?_, s.tb.ext fun b u e => by rw [upd_ne (ne_of_none e h)]; exact e⟩
  · rw [List.nodup_append]
    exact ⟨s.nd, by simp, fun a ha b hb z => np (by rw [← List.mem_singleton.mp hb, ← z]; exact ha)⟩
  · by_cases e : n < μ.length
    · rw [List.getElem?_append_left e] at hn
      obtain ⟨ob', q, r'⟩ := s.obj n a hn
      refine ⟨ob', getO_append q, r'.mono (ext_own h) (upd_ne fun z => np (z ▸ List.mem_of_getElem? hn))⟩
    · rw [List.getElem?_append_right (by omega)] at hn
      have e2 : n - μ.length = 0 := by
        cases q : n - μ.length with
        | zero => rfl
        | succ k => rw [q] at hn; simp at hn
      rw [e2] at hn
      simp at hn
      subst hn
      have e3 : n = st.length := by have := s.len; omega
      subst e3
      exact ⟨ob, getO_last, r⟩
  · rcases List.mem_append.mp ha with z | z
    · exact s.dis a z
    · rw [List.mem_singleton.mp z]; exact s.freshF h
  · exact (ext_own (μ := μ) (o := o) h).live a (s.fl a ha)
theorem getO_set {st : DS} {x : Ob} : ∀ {n m : Nat}, n ≠ m → getO (setO st n x) m = getO st m := by
  induction st with
  | nil => intro n m _; rfl
  | cons a r ih =>
    intro n m h
    cases n with
    | zero => cases m with
      | zero => exact absurd rfl h
      | succ m => rfl
    | succ n => cases m with
      | zero => rfl
      | succ m => exact ih (fun z => h (by rw [z]))
theorem getO_set_same {st : DS} {x y : Ob} : ∀ {n : Nat}, getO st n = some y → getO (setO st n x) n = some x := by
  induction st with
  | nil => intro n h; cases h
  | cons a r ih =>
    intro n h
    cases n with
    | zero => rfl
    | succ n => exact ih h
theorem setO_length {st : DS} {x : Ob} : ∀ {n : Nat}, (setO st n x).length = st.length := by
  induction st with
  | nil => intro n; rfl
  | cons a r ih =>
    intro n
    cases n with
    | zero => rfl
    | succ n => simp [setO, ih]
/-- an object of ours is written -/
theorem ext_set {p : Addr} {o : HO} (h : p ∈ μ) : Ext μ μ H (upd H p o) :=
  ⟨⟨[], by simp, fun _ z => nomatch z⟩, fun q u e hn _ => by rw [upd_ne fun z => hn (by rw [z]; exact h)]; exact e, fun q z => by
    by_cases e : q = p
    · subst e; rw [upd_same]; exact fun z => nomatch z
    · rw [upd_ne e]; exact z⟩
theorem StRel.set (s : StRel K cls F μ H st) {n : Nat} {p : Addr} {o : HO} {ob : Ob} (h : μ[n]? = some p) (r : ObRel K cls F μ (upd H p o) p ob) : StRel K cls F μ (upd H p o) (setO st n ob) := by
  have hp : p ∈ μ := List.mem_of_getElem? h
  refine ⟨by rw [setO_length]; exact s.len, s.nd, fun m a hm => ?_, s.dis, fun a ha => (ext_set (μ := μ) (o := o) hp).live a (s.fl a ha), tabs_keep s.tb fun b u e hu => by
    by_cases z : b = p
    · subst z; exact (s.notTab hp u e hu).elim
    · rw [upd_ne z]; exact e⟩
  obtain ⟨ob', q, r'⟩ := s.obj m a hm
  by_cases e : n = m
  · subst e
    rw [h] at hm; cases hm
    exact ⟨ob, getO_set_same q, r⟩
  · refine ⟨ob', (getO_set e).trans q, r'.mono (ext_set hp) (upd_ne fun z => e ?_)⟩
    subst z
    obtain ⟨h1, e1⟩ := List.getElem?_eq_some_iff.mp h
    obtain ⟨h2, e2⟩ := List.getElem?_eq_some_iff.mp hm
    exact (List.getElem_inj s.nd).mp (e1.trans e2.symm)
theorem getV_set {ρ : Env} {x : Option D} : ∀ {n m : Nat}, n ≠ m → getV (setV ρ n x) m = getV ρ m := by
  induction ρ with
  | nil => intro n m _; rfl
  | cons a r ih =>
    intro n m h
    cases n with
    | zero => cases m with
      | zero => exact absurd rfl h
      | succ m => rfl
    | succ n => cases m with
      | zero => rfl
      | succ m => exact ih (fun z => h (by rw [z]))
theorem setV_length {ρ : Env} {x : Option D} : ∀ {n : Nat}, (setV ρ n x).length = ρ.length := by
  induction ρ with
  | nil => intro n; rfl
  | cons a r ih =>
    intro n
    cases n with
    | zero => rfl
    | succ n => simp [setV, ih]
theorem getV_set_same {ρ : Env} {x : Option D} : ∀ {n : Nat} {d : D}, getV (setV ρ n x) n = some d → x = some d ∧ n < ρ.length := by
  induction ρ with
  | nil => intro n d h; cases h
  | cons a r ih =>
    intro n d h
    cases n with
    | zero => exact ⟨h, by simp⟩
    | succ n =>
      obtain ⟨a, b⟩ := ih h
      exact ⟨a, by simp; omega⟩
theorem EnvRel.set (r : EnvRel K F μ H ρ σ) {i : Nat} {d : D} {v : V} (h : Rel K F μ H d v) : EnvRel K F μ H (setV ρ i (some d)) (σ.set i (some v)) := by
  refine ⟨by rw [setV_length, List.length_set]; exact r.1, fun j e hj => ?_⟩
  by_cases q : i = j
  · subst q
    obtain ⟨a, b⟩ := getV_set_same hj
    cases a
    exact ⟨v, by rw [List.getElem?_set_self (by rw [← r.1]; exact b)], h⟩
  · rw [getV_set q] at hj
    obtain ⟨u, a, b⟩ := r.2 j e hj
    exact ⟨u, by rw [List.getElem?_set_ne q]; exact a, b⟩
theorem EnvRel.unset (r : EnvRel K F μ H ρ σ) {i : Nat} : EnvRel K F μ H (setV ρ i none) (σ.set i none) := by
  refine ⟨by rw [setV_length, List.length_set]; exact r.1, fun j e hj => ?_⟩
  by_cases q : i = j
  · subst q
    obtain ⟨a, b⟩ := getV_set_same hj
    cases a
  · rw [getV_set q] at hj
    obtain ⟨u, a, b⟩ := r.2 j e hj
    exact ⟨u, by rw [List.getElem?_set_ne q]; exact a, b⟩
theorem EnvRel.wipe (r : EnvRel K F μ H ρ σ) : ∀ vs : List Nat, EnvRel K F μ H (wipeV ρ vs) (wipe σ vs)
  | [] => r
  | v :: vs => (r.wipe vs).unset
end
end MP

set_option Elab.async false
set_option linter.all false
set_option maxRecDepth 100000
set_option maxHeartbeats 2000000
namespace MP
open PySem L2 PyProof.Rows
/-! ### readings -/
section
variable (K : PySem.W.Frag) (cls : Cl) (xf : Nat → List Str) (F : List Addr)
/-- an error's fields in its dict -/
def XRel (μ : List Addr) (H : Hp) (c : Nat) (fs : List D) (l : List (Str × V)) : Prop :=
  ∀ (i : Nat) (f : Str) (d : D), (xf c)[i]? = some f → fs[i]? = some d → ∃ v, l.lookup f = some v ∧ Rel K F μ H d v
def Post {α β : Type} (Rl : List Addr → Hp → α → β → Prop) (W : WX) (σ : L2.St) (μ : List Addr) (H : Hp) (r : R α) (Q : β → Hp → Prop) : Prop := match r with
  | .ok d st => ∀ μ' H' v, Ext μ μ' H H' → StRel K cls F μ' H' st → Rl μ' H' d v → Q v H'
  | .exc c fs st => ∀ μ' H' dd l, Ext μ μ' H H' → StRel K cls F μ' H' st → H' dd = some (.xd l) → XRel K xf F μ' H' c fs l → W (.ref (cls c)) (some dd) σ H'
  | .bad => False
/-- what an expression's meaning asks -/
def RD {α β : Type} (Rl : List Addr → Hp → α → β → Prop) (W : WX) (sem : Env → DS → R α) : L2.St → Hp → (β → Hp → Prop) → Prop := fun σ H Q =>
  ∃ ρ st μ, EnvRel K F μ H ρ σ ∧ StRel K cls F μ H st ∧ Post K cls xf F Rl W σ μ H (sem ρ st) Q
abbrev rlD : List Addr → Hp → D → V → Prop := fun μ H d v => Rel K F μ H d v
abbrev rlL : List Addr → Hp → List D → List V → Prop := fun μ H d v => RelL K F μ H d v
abbrev rlB : List Addr → Hp → Bool → Bool → Prop := fun _ _ b b' => b = b'
abbrev rlO : List Addr → Hp → Option Int → Option Int → Prop := fun _ _ b b' => b = b'
def TD (W : WX) (sem : Env → DS → R D) : TE := RD K cls xf F (rlD K F) W sem
def TLs (W : WX) (sem : Env → DS → R (List D)) : TA := RD K cls xf F (rlL K F) W sem
def TB (W : WX) (sem : Env → DS → R Bool) : TT := RD K cls xf F rlB W sem
end
section
variable {K : PySem.W.Frag} {cls : Cl} {xf : Nat → List Str} {F : List Addr} {W : WX} {μ : List Addr} {H : Hp} {σ : L2.St} {ρ : Env} {st : DS}
theorem Post.shift {α β : Type} {Rl : List Addr → Hp → α → β → Prop} {r : R α} {Q : β → Hp → Prop} {μ1 : List Addr} {H1 : Hp} (e : Ext μ μ1 H H1) (h : Post K cls xf F Rl W σ μ H r Q) : Post K cls xf F Rl W σ μ1 H1 r Q := by
  cases r with
  | ok d st => exact fun μ' H' v e' => h μ' H' v (e.trans e')
  | exc c fs st => exact fun μ' H' dd l e' => h μ' H' dd l (e.trans e')
  | bad => exact h
theorem RD.bind {α β γ δ : Type} {Ra : List Addr → Hp → α → β → Prop} {Rg : List Addr → Hp → γ → δ → Prop} {sa : Env → DS → R α} {k : α → DS → R γ} {Q : δ → Hp → Prop} {Q' : β → Hp → Prop}
    (hE : EnvRel K F μ H ρ σ) (hS : StRel K cls F μ H st) (hP : Post K cls xf F Rg W σ μ H ((sa ρ st).bind k) Q)
    (h : ∀ a st1 μ1 H1 v, Ext μ μ1 H H1 → StRel K cls F μ1 H1 st1 → Ra μ1 H1 a v → EnvRel K F μ1 H1 ρ σ → Post K cls xf F Rg W σ μ1 H1 (k a st1) Q → Q' v H1) : RD K cls xf F Ra W sa σ H Q' := by
  refine ⟨ρ, st, μ, hE, hS, ?_⟩
  cases e : sa ρ st with
  | ok a st1 =>
    rw [e] at hP
    exact fun μ1 H1 v x s r => h a st1 μ1 H1 v x s r (hE.mono x) (hP.shift x)
  | exc c fs st1 => rw [e] at hP; exact hP
  | bad => rw [e] at hP; exact hP.elim
theorem Post.of {α β : Type} {Rl : List Addr → Hp → α → β → Prop} {o : Option α} {Q : β → Hp → Prop} (h : Post K cls xf F Rl W σ μ H (R.of o st) Q) :
    ∃ a, o = some a ∧ ∀ μ' H' v, Ext μ μ' H H' → StRel K cls F μ' H' st → Rl μ' H' a v → Q v H' := by
  cases o with
  | none => exact h.elim
  | some a => exact ⟨a, rfl, h⟩
theorem EnvRel.at (r : EnvRel K F μ H ρ σ) {i : Nat} {d : D} (h : getV ρ i = some d) : ∃ v, σ[i]? = some (some v) ∧ Rel K F μ H d v := r.2 i d h
/-- binding of a pure answer -/
theorem Post.ofBind {α β γ : Type} {Rl : List Addr → Hp → γ → β → Prop} {o : Option α} {k : α → DS → R γ} {Q : β → Hp → Prop} (h : Post K cls xf F Rl W σ μ H ((R.of o st).bind k) Q) :
    ∃ a, o = some a ∧ Post K cls xf F Rl W σ μ H (k a st) Q := by
  cases o with
  | none => exact h.elim
  | some a => exact ⟨a, rfl, h⟩
end

/-! ### data -/
section
variable {K : PySem.W.Frag} {cls : Cl} {F μ : List Addr} {H : Hp} {st : DS}
theorem SqT.ofW {a : Addr} {xs : List V} (h : WrT K a xs) : SqT K H a xs := .inr h
/-- a sequence of ours, as it is read -/
theorem seq_rel (S : StRel K cls F μ H st) {d : D} {v : V} {xs : List D} (r : Rel K F μ H d v) (h : seqD st d = some xs) : ∃ a vs, v = .ref a ∧ RelL K F μ H xs vs ∧ (SqL K H a vs ∨ SqT K H a vs) := by
  cases r with
  | non => cases h
  | bl => cases h
  | int => cases h
  | str => cases h
  | tup h1 h2 h3 => cases h; exact ⟨_, _, rfl, h3, .inr (SqT.of h1)⟩
  | tupK h1 h3 => cases h; exact ⟨_, _, rfl, h3, .inr (SqT.ofW h1)⟩
  | lst h1 h2 h4 h3 => cases h; exact ⟨_, _, rfl, h3, .inl (SqL.of h1)⟩
  | scr h1 h2 h3 => cases h; exact ⟨_, _, rfl, h3, .inl (.inl (.inr ⟨_, h1⟩))⟩
  | scrK h1 h3 => cases h; exact ⟨_, _, rfl, h3, .inl (h1 H)⟩
  | dic => cases h
  | @ref n a hn =>
    obtain ⟨ob, e, o⟩ := S.obj n a hn
    have h' : (match getO st n with | some (.lst xs) => some xs | _ => none) = some xs := h
    rw [e] at h'
    cases ob with
    | lst ds => cases h'; obtain ⟨vs, e1, e2⟩ := o; exact ⟨a, vs, rfl, e2, .inl (SqL.of e1)⟩
    | dic => cases h'
    | ins => cases h'
/-- a dict of ours -/
theorem dic_rel (S : StRel K cls F μ H st) {d : D} {v : V} {kvs : List (D × D)} (r : Rel K F μ H d v) (h : dicD st d = some kvs) : ∃ a l, v = .ref a ∧ RelP K F μ H kvs l ∧ H a = some (.dK l) := by
  cases r with
  | non => cases h
  | bl => cases h
  | int => cases h
  | str => cases h
  | tup => cases h
  | tupK => cases h
  | lst => cases h
  | scr => cases h
  | scrK => cases h
  | dic h1 h2 h4 h3 => cases h; exact ⟨_, _, rfl, h3, h1⟩
  | @ref n a hn =>
    obtain ⟨ob, e, o⟩ := S.obj n a hn
    have h' : (match getO st n with | some (.dic kvs) => some kvs | _ => none) = some kvs := h
    rw [e] at h'
    cases ob with
    | lst ds => cases h'
    | dic ds => cases h'; obtain ⟨vs, e1, e2⟩ := o; exact ⟨a, vs, rfl, e2, e1⟩
    | ins => cases h'
theorem rel_key {d : D} {v : V} {k : Key} (r : Rel K F μ H d v) (h : keyOf d = some k) : v = kV k := by
  cases r with
  | int i => cases h; rfl
  | str i => cases h; rfl
  | _ => cases h
theorem findK_val : ∀ {l' : List (Key × D)} {l : List (Key × V)}, Paired (fun (p : Key × D) (q : Key × V) => p.1 = q.1 ∧ Rel K F μ H p.2 q.2) l' l → ∀ k,
    (findK k l' = none ∧ valV l k = none) ∨ ∃ d v, findK k l' = some d ∧ valV l k = some v ∧ Rel K F μ H d v
  | _, _, .nil, k => .inl ⟨rfl, rfl⟩
  | (a, d) :: l', (b, v) :: l, .cons r t, k => by
    obtain ⟨e, r2⟩ := r
    dsimp only at e r2
    subst e
    by_cases h : a = k
    · subst h
      exact .inr ⟨d, v, by simp [findK], by simp [valV], r2⟩
    · have e1 : findK k ((a, d) :: l') = findK k l' := by simp [findK, h]
      have e2 : valV ((a, v) :: l) k = valV l k := by simp [valV, h]
      rw [e1, e2]
      exact findK_val t k
theorem dget_rel (S : StRel K cls F μ H st) {x y : D} {v u : V} {kvs : List (D × D)} {k : Key} {l : List (Key × D)} (rx : Rel K F μ H x v) (ry : Rel K F μ H y u) (h1 : dicD st x = some kvs) (h2 : keyOf y = some k) (h3 : keysOf kvs = some l) :
    ∃ a o, v = .ref a ∧ DGet H a u o ∧ IsD H a ∧ ((findK k l = none ∧ o = none) ∨ ∃ d w, findK k l = some d ∧ o = some w ∧ Rel K F μ H d w) := by
  obtain ⟨a, lv, rfl, rp, ea⟩ := dic_rel S rx h1
  obtain ⟨l', e, p⟩ := rp.keys
  rw [h3] at e; cases e
  rw [rel_key ry h2]
  refine ⟨a, _, rfl, DGet.k ea, .inl ⟨_, .inl ea⟩, ?_⟩
  rcases findK_val p k with ⟨q1, q2⟩ | ⟨d, w, q1, q2, q3⟩
  · exact .inl ⟨q1, q2⟩
  · exact .inr ⟨d, w, q1, q2, q3⟩
/-- data without changeable objects -/
theorem laysome {α β : Type} {x : Option α} {f : α → β} {p : β} (h : x.map f = some p) : ∃ a, x = some a ∧ f a = p := by
  cases x with
  | none => cases h
  | some a => exact ⟨a, rfl, Option.some.inj h⟩
theorem pd0L_cons {x : D} {r : List D} {ps : List PyData} (h : pd0L (x :: r) = some ps) : ∃ p qs, pd0 x = some p ∧ pd0L r = some qs ∧ ps = p :: qs := by
  unfold pd0L at h
  split at h
  · rename_i a b e1 e2
    cases h
    exact ⟨a, b, e1, e2, rfl⟩
  · cases h
theorem pdL_cons {x : D} {r : List D} {ps : List PyData} (h : pdL st (x :: r) = some ps) : ∃ p qs, pd st x = some p ∧ pdL st r = some qs ∧ ps = p :: qs := by
  unfold pdL at h
  split at h
  · rename_i a b e1 e2
    cases h
    exact ⟨a, b, e1, e2, rfl⟩
  · cases h
mutual
theorem dp0 : ∀ (d : D) (v : V) (p : PyData), Rel K F μ H d v → pd0 d = some p → p.canLay0 = true → Dp K H v p
  | .non, _, _, r, h, _ => by cases r; simp only [pd0] at h; cases h; exact .non
  | .bl _, _, _, r, h, _ => by cases r; simp only [pd0] at h; cases h; exact .bl _
  | .int _, _, _, r, h, _ => by cases r; simp only [pd0] at h; cases h; exact .int _
  | .str _, _, _, r, h, _ => by cases r; simp only [pd0] at h; cases h; exact .str _
  | .tup ds, _, _, r, h, l => by
    simp only [pd0] at h
    obtain ⟨ps, e, rfl⟩ := laysome h
    have l' : PyData.canLayAll0 ps = true := by simpa only [PyData.canLay0] using l
    cases r with
    | tup h1 h2 h3 => exact .tup (SqT.of h1) (dp0L ds _ _ h3 e l')
    | tupK h1 h3 => exact .tup (SqT.ofW h1) (dp0L ds _ _ h3 e l')
  | .lst ds, _, _, r, h, l => by
    simp only [pd0] at h
    obtain ⟨ps, e, rfl⟩ := laysome h
    have l' : PyData.canLayAll0 ps = true := by simpa only [PyData.canLay0] using l
    cases r with
    | lst h1 h2 h4 h3 => exact .lst (SqL.of h1) (dp0L ds _ _ h3 e l')
  | .scr ds, _, _, r, h, l => by
    simp only [pd0] at h
    obtain ⟨ps, e, rfl⟩ := laysome h
    have l' : PyData.canLayAll0 ps = true := by simpa only [PyData.canLay0] using l
    cases r with
    | scr h1 h2 h3 => exact .lst (.inl (.inr ⟨_, h1⟩)) (dp0L ds _ _ h3 e l')
    | scrK h1 h3 => exact .lst (h1 H) (dp0L ds _ _ h3 e l')
  | .dic kvs, _, _, r, h, l => by
    simp only [pd0] at h
    obtain ⟨ps, e, rfl⟩ := laysome h
    simp [PyData.canLay0] at l
  | .ref _, _, _, r, h, _ => by simp only [pd0] at h; cases h
theorem dp0L : ∀ (ds : List D) (vs : List V) (ps : List PyData), RelL K F μ H ds vs → pd0L ds = some ps → PyData.canLayAll0 ps = true → DpAll K H vs ps
  | [], _, _, r, h, _ => by cases r; simp only [pd0L] at h; cases h; exact .nil
  | d :: ds, _, _, r, h, l => by
    obtain ⟨p, qs, e1, e2, rfl⟩ := pd0L_cons h
    have l' : p.canLay0 = true ∧ PyData.canLayAll0 qs = true := by simpa [PyData.canLayAll0] using l
    cases r with
    | cons r1 r2 => exact .cons (dp0 d _ _ r1 e1 l'.1) (dp0L ds _ _ r2 e2 l'.2)
end
mutual
theorem dp1 (S : StRel K cls F μ H st) : ∀ (d : D) (v : V) (p : PyData), Rel K F μ H d v → pd st d = some p → p.canLay0 = true → Dp K H v p
  | .non, _, _, r, h, _ => by cases r; simp only [pd] at h; cases h; exact .non
  | .bl _, _, _, r, h, _ => by cases r; simp only [pd] at h; cases h; exact .bl _
  | .int _, _, _, r, h, _ => by cases r; simp only [pd] at h; cases h; exact .int _
  | .str _, _, _, r, h, _ => by cases r; simp only [pd] at h; cases h; exact .str _
  | .tup ds, _, _, r, h, l => by
    simp only [pd] at h
    obtain ⟨ps, e, rfl⟩ := laysome h
    have l' : PyData.canLayAll0 ps = true := by simpa only [PyData.canLay0] using l
    cases r with
    | tup h1 h2 h3 => exact .tup (SqT.of h1) (dp1L S ds _ _ h3 e l')
    | tupK h1 h3 => exact .tup (SqT.ofW h1) (dp1L S ds _ _ h3 e l')
  | .lst ds, _, _, r, h, l => by
    simp only [pd] at h
    obtain ⟨ps, e, rfl⟩ := laysome h
    have l' : PyData.canLayAll0 ps = true := by simpa only [PyData.canLay0] using l
    cases r with
    | lst h1 h2 h4 h3 => exact .lst (SqL.of h1) (dp1L S ds _ _ h3 e l')
  | .scr ds, _, _, r, h, l => by
    simp only [pd] at h
    obtain ⟨ps, e, rfl⟩ := laysome h
    have l' : PyData.canLayAll0 ps = true := by simpa only [PyData.canLay0] using l
    cases r with
    | scr h1 h2 h3 => exact .lst (.inl (.inr ⟨_, h1⟩)) (dp1L S ds _ _ h3 e l')
    | scrK h1 h3 => exact .lst (h1 H) (dp1L S ds _ _ h3 e l')
  | .dic kvs, _, _, r, h, l => by
    simp only [pd] at h
    obtain ⟨ps, e, rfl⟩ := laysome h
    simp [PyData.canLay0] at l
  | .ref n, _, p, r, h, l => by
    simp only [pd] at h
    cases r with
    | @ref _ a hn =>
      obtain ⟨ob, e, o⟩ := S.obj n a hn
      rw [e] at h
      cases ob with
      | lst ds =>
        obtain ⟨ps, e', rfl⟩ := laysome h
        have l' : PyData.canLayAll0 ps = true := by simpa only [PyData.canLay0] using l
        obtain ⟨vs, e1, e2⟩ := o
        exact .lst (SqL.of e1) (dp0L ds _ _ e2 e' l')
      | dic ds =>
        obtain ⟨ps, e', rfl⟩ := laysome h
        simp [PyData.canLay0] at l
      | ins => cases h
theorem dp1L (S : StRel K cls F μ H st) : ∀ (ds : List D) (vs : List V) (ps : List PyData), RelL K F μ H ds vs → pdL st ds = some ps → PyData.canLayAll0 ps = true → DpAll K H vs ps
  | [], _, _, r, h, _ => by cases r; simp only [pdL] at h; cases h; exact .nil
  | d :: ds, _, _, r, h, l => by
    obtain ⟨p, qs, e1, e2, rfl⟩ := pdL_cons h
    have l' : p.canLay0 = true ∧ PyData.canLayAll0 qs = true := by simpa [PyData.canLayAll0] using l
    cases r with
    | cons r1 r2 => exact .cons (dp1 S d _ _ r1 e1 l'.1) (dp1L S ds _ _ r2 e2 l'.2)
end
end

/-! ### operators -/
section
variable {X : Cx} {cls : Cl} {F : List Addr}
def toOp : BOp → Operator
  | .add => .Add | .sub => .Sub | .mul => .Mult | .fdiv => .FloorDiv | .mod => .Mod | .pow => .Pow
/-- a binary operator on values of ours -/
def rBin (K : PySem.W.Frag) (cls : Cl) (F : List Addr) (op : BOp) : R2 := fun x y H Q => ∃ μ st dx dy r, StRel K cls F μ H st ∧ Rel K F μ H dx x ∧ Rel K F μ H dy y ∧ binD op st dx dy = some r ∧
  ∀ μ' H' v, Ext μ μ' H H' → StRel K cls F μ' H' st → Rel K F μ' H' r v → Q v H'
/-- + and * of lists -/
def rCat (K : PySem.W.Frag) (cls : Cl) (F : List Addr) (op : BOp) : R2 := fun x y H Q => ∃ μ st dx dy zs, StRel K cls F μ H st ∧ Rel K F μ H dx x ∧ Rel K F μ H dy y ∧ catD op st dx dy = some zs ∧
  ∀ ws p, H p = none → RelL K F μ H zs ws → Q (.ref p) (upd H p (.lst ws))
theorem mul_ok {i j : Int} (h : mulOk i j = true) : IntMulOk i j := by
  unfold mulOk at h
  intro z
  rw [z] at h
  exact absurd h (by decide)
theorem op_mulA : OpR X (binaryOp .Mult) (rI (fun i j => mulOk i j = true) fun i j => .int (i * j)) := opI fun _ _ _ _ _ _ _ hc q => mul_int q (mul_ok hc)
theorem op_fdivA : OpR X (binaryOp .FloorDiv) (rI (fun i j => divOk i j = true) fun i j => .int (i.fdiv j)) := opI fun i j _ _ _ _ _ hc q => by
  unfold divOk at hc
  simp only [Bool.and_eq_true, decide_eq_true_eq, Bool.not_eq_true'] at hc
  exact floordiv_int hc.1 q (.inl hc.2)
theorem lstD_rel {K : PySem.W.Frag} {F μ : List Addr} {H : Hp} {ds : List D} {v : V} (r : Rel K F μ H (.lst ds) v) : ∃ a vs, v = .ref a ∧ H a = some (.lst vs) ∧ RelL K F μ H ds vs := by
  cases r with
  | lst h1 h2 h4 h3 => exact ⟨_, _, rfl, h1, h3⟩
theorem tupD_rel {K : PySem.W.Frag} {F μ : List Addr} {H : Hp} {ds : List D} {v : V} (r : Rel K F μ H (.tup ds) v) : ∃ a vs, v = .ref a ∧ SqT K H a vs ∧ RelL K F μ H ds vs := by
  cases r with
  | tup h1 h2 h3 => exact ⟨_, _, rfl, SqT.of h1, h3⟩
  | tupK h1 h3 => exact ⟨_, _, rfl, SqT.ofW h1, h3⟩
theorem new_lst {K : PySem.W.Frag} {cls : Cl} {F μ : List Addr} {H : Hp} {st : DS} {ds : List D} {vs : List V} {p : Addr} (S : StRel K cls F μ H st) (hp : H p = none) (r : RelL K F μ H ds vs) : Rel K F μ (upd H p (.lst vs)) (.lst ds) (.ref p) :=
  .lst upd_same (S.fresh hp) (S.freshF hp) (RelL.mono (ext_new hp) _ _ r)
theorem new_tup {K : PySem.W.Frag} {cls : Cl} {F μ : List Addr} {H : Hp} {st : DS} {ds : List D} {vs : List V} {p : Addr} (S : StRel K cls F μ H st) (hp : H p = none) (r : RelL K F μ H ds vs) : Rel K F μ (upd H p (.tup vs)) (.tup ds) (.ref p) :=
  .tup upd_same (S.fresh hp) (RelL.mono (ext_new hp) _ _ r)
theorem lstR {K : PySem.W.Frag} {cls : Cl} {F μ : List Addr} {H : Hp} {st : DS} (S : StRel K cls F μ H st) {d : D} {v : V} {xs : List D} (r : Rel K F μ H d v) (h : lstD st d = some xs) : ∃ a vs, v = .ref a ∧ H a = some (.lst vs) ∧ RelL K F μ H xs vs := by
  cases r with
  | non => cases h
  | bl => cases h
  | int => cases h
  | str => cases h
  | tup h1 h2 h3 => cases h
  | tupK h1 h3 => cases h
  | lst h1 h2 h4 h3 => cases h; exact ⟨_, _, rfl, h1, h3⟩
  | scr => cases h
  | scrK => cases h
  | dic => cases h
  | @ref n a hn =>
    obtain ⟨ob, e, o⟩ := S.obj n a hn
    have h' : (match getO st n with | some (.lst xs) => some xs | _ => none) = some xs := h
    rw [e] at h'
    cases ob with
    | lst ds => cases h'; obtain ⟨vs, e1, e2⟩ := o; exact ⟨a, vs, rfl, e1, e2⟩
    | dic => cases h'
    | ins => cases h'
theorem cat_ok (op : BOp) : OpR X (binaryOp (toOp op)) (rCat X.K cls F op) := by
  intro pins s σ H x y v u Q I rx ry h
  obtain ⟨μ, st, dx, dy, zs, S, hx, hy, e, q⟩ := h
  cases op with
  | add =>
    unfold catD at e
    dsimp only at e
    split at e
    · rename_i xs ys e1 e2
      obtain ⟨a, vs, rfl, ta, ra⟩ := lstR S hx e1
      obtain ⟨b, ws, rfl, tb, rb⟩ := lstR S hy e2
      split at e
      · rename_i hl
        cases e
        exact op_cat pins s σ H _ _ v u Q I rx ry ⟨a, b, vs, ws, rfl, rfl, ta, tb, by rw [← ra.length, ← rb.length]; exact hl, fun p hp => q _ p hp (ra.append rb)⟩
      · cases e
    · cases e
  | mul =>
    unfold catD at e
    dsimp only at e
    split at e
    · rename_i xs k e1
      obtain ⟨a, vs, rfl, ta, ra⟩ := lstR S hx e1
      cases hy
      split at e
      · rename_i hl
        cases e
        exact op_rep pins s σ H _ _ v u Q I rx ry ⟨a, _, vs, rfl, rfl, ta, hl.1, hl.2.1, by rw [← ra.length]; exact hl.2.2, fun p hp => q _ p hp (ra.rep _)⟩
      · cases e
    · cases e
  | sub => cases e
  | fdiv => cases e
  | mod => cases e
  | pow => cases e
theorem bin_cat {op : BOp} {x y : V} {H : Hp} {Q : VK} {μ : List Addr} {st : DS} {dx dy r : D} (S : StRel X.K cls F μ H st) (hx : Rel X.K F μ H dx x) (hy : Rel X.K F μ H dy y) (e : (catD op st dx dy).map D.lst = some r)
    (q : ∀ μ' H' v, Ext μ μ' H H' → StRel X.K cls F μ' H' st → Rel X.K F μ' H' r v → Q v H') : rCat X.K cls F op x y H Q := by
  obtain ⟨zs, e1, e2⟩ := laysome e
  cases e2
  exact ⟨μ, st, dx, dy, zs, S, hx, hy, e1, fun ws p hp rl => q μ _ _ (ext_new hp) (S.new hp) (new_lst S hp rl)⟩
theorem bin_ok (op : BOp) : OpR X (binaryOp (toOp op)) (rBin X.K cls F op) := by
  intro pins s σ H x y v u Q I rx ry h
  obtain ⟨μ, st, dx, dy, r, S, hx, hy, e, q⟩ := h
  unfold binD at e
  split at e
  · cases e; cases hx; cases hy
    exact op_add pins s σ H _ _ v u Q I rx ry ⟨_, _, rfl, rfl, q μ H _ .refl S (.int _)⟩
  · cases e; cases hx; cases hy
    exact op_sub pins s σ H _ _ v u Q I rx ry ⟨_, _, rfl, rfl, q μ H _ .refl S (.int _)⟩
  · split at e
    · rename_i hl
      cases e; cases hx; cases hy
      exact op_mulA pins s σ H _ _ v u Q I rx ry ⟨_, _, rfl, rfl, hl, q μ H _ .refl S (.int _)⟩
    · cases e
  · split at e
    · rename_i hl
      cases e; cases hx; cases hy
      exact op_fdivA pins s σ H _ _ v u Q I rx ry ⟨_, _, rfl, rfl, hl, q μ H _ .refl S (.int _)⟩
    · cases e
  · split at e
    · rename_i hl
      cases e; cases hx; cases hy
      exact op_modN pins s σ H _ _ v u Q I rx ry ⟨_, _, rfl, rfl, hl, q μ H _ .refl S (.int _)⟩
    · cases e
  · split at e
    · rename_i hl
      cases e; cases hx; cases hy
      exact op_pow pins s σ H _ _ v u Q I rx ry ⟨_, _, rfl, rfl, hl, q μ H _ .refl S (.int _)⟩
    · cases e
  · split at e
    · rename_i hl
      cases e; cases hx; cases hy
      exact op_add_str pins s σ H _ _ v u Q I rx ry ⟨_, _, rfl, rfl, hl, q μ H _ .refl S (.str _)⟩
    · cases e
  · split at e
    · rename_i hl
      cases e
      obtain ⟨a, vs, rfl, ta, ra⟩ := tupD_rel hx
      obtain ⟨b, ws, rfl, tb, rb⟩ := tupD_rel hy
      refine op_catA pins s σ H _ _ v u Q I rx ry ⟨a, b, vs, ws, rfl, rfl, ta, tb, by rw [← ra.length, ← rb.length]; exact hl, fun z => ?_, fun _ z => ?_, fun _ _ p hp => ?_⟩
      · subst z; cases ra; exact q μ H _ .refl S hy
      · subst z; cases rb; rw [List.append_nil] at q; exact q μ H _ .refl S hx
      · exact q μ _ _ (ext_new hp) (S.new hp) (new_tup S hp (ra.append rb))
    · cases e
  · exact cat_ok op pins s σ H x y v u Q I rx ry (bin_cat S hx hy e q)
end
end MP

set_option Elab.async false
set_option linter.all false
set_option maxRecDepth 100000
set_option maxHeartbeats 2000000
namespace MP
open PySem L2 PyProof.Rows
section
variable {X : Cx} {cls : Cl} {F : List Addr}
/-! ### comparisons -/
def toCmp : COp → CmpOp
  | .eq => .Eq | .ne => .NotEq | .lt => .Lt | .le => .LtE | .gt => .Gt | .ge => .GtE | .inn => .In | .nin => .NotIn
def rCmp (K : PySem.W.Frag) (cls : Cl) (F : List Addr) (op : COp) : R2 := fun x y H Q => ∃ μ st dx dy k, StRel K cls F μ H st ∧ Rel K F μ H dx x ∧ Rel K F μ H dy y ∧ cmpD op st dx dy = some k ∧ Q (.bl k) H
theorem dec_i {i j : Int} : decide (V.int i = V.int j) = decide (i = j) := by simp
theorem dec_s {i j : Str} : decide (V.str i = V.str j) = decide (i = j) := by simp
theorem dec_b {i j : Bool} : decide (V.bl i = V.bl j) = decide (i = j) := by simp
/-- what == comes to -/
theorem eqD_cases {K : PySem.W.Frag} {μ : List Addr} {H : Hp} {st : DS} {dx dy : D} {x y : V} {k : Bool} (S : StRel K cls F μ H st) (hx : Rel K F μ H dx x) (hy : Rel K F μ H dy y) (e : eqD st dx dy = some k) :
    (scal x y = true ∧ decide (x = y) = k) ∨ ∃ a b, Dp K H x a ∧ Dp K H y b ∧ SeqAt.shaped a = true ∧ SeqAt.shaped b = true ∧ PyData.eqv a b = k := by
  unfold eqD at e
  split at e
  · cases hx; cases hy; cases e; exact .inl ⟨rfl, dec_i⟩
  · cases hx; cases hy; cases e; exact .inl ⟨rfl, dec_s⟩
  · cases hx; cases hy; cases e; exact .inl ⟨rfl, dec_b⟩
  · split at e
    · rename_i a b h1 h2
      split at e
      · rename_i h3
        simp only [Bool.and_eq_true] at h3
        cases e
        exact .inr ⟨a, b, dp1 S _ _ _ hx h1 (SeqAt.canLay_of_shaped h3.1), dp1 S _ _ _ hy h2 (SeqAt.canLay_of_shaped h3.2), h3.1, h3.2, rfl⟩
      · cases e
    · cases e
theorem flat_rel {K : PySem.W.Frag} {μ : List Addr} {H : Hp} {d : D} {v : V} (r : Rel K F μ H d v) (h : flatD d = true) : flatV v = true := by
  cases r <;> first | rfl | cases h
theorem eqF_rel {K : PySem.W.Frag} {μ : List Addr} {H : Hp} {d e : D} {v u : V} (r : Rel K F μ H d v) (q : Rel K F μ H e u) (h : flatD d = true) (g : flatD e = true) : eqV v u = eqF d e := by
  cases r <;> cases q <;> first | rfl | (exact absurd h (by simp [flatD])) | (exact absurd g (by simp [flatD]))
theorem inL_rel {K : PySem.W.Frag} {μ : List Addr} {H : Hp} {d : D} {v : V} (r : Rel K F μ H d v) (h : flatD d = true) : ∀ {ys : List D} {vs : List V}, RelL K F μ H ys vs → ys.all flatD = true →
    vs.all flatV = true ∧ inV v vs = ys.any fun y => eqF y d
  | [], _, q, _ => by cases q; exact ⟨rfl, rfl⟩
  | y :: ys, _, q, g => by
    cases q with
    | cons q1 q2 =>
      simp only [List.all_cons, Bool.and_eq_true] at g
      obtain ⟨a, b⟩ := inL_rel r h q2 g.2
      refine ⟨by simp only [List.all_cons, Bool.and_eq_true]; exact ⟨flat_rel q1 g.1, a⟩, ?_⟩
      unfold inV at b ⊢
      rw [List.any_cons, List.any_cons, b, eqF_rel q1 r g.1 h]
theorem cmp_ok (hu : X.A.units + 64 < cLine) (op : COp) : OpR X (compareOp (toCmp op)) (rCmp X.K cls F op) := by
  intro pins s σ H x y v u Q I rx ry h
  obtain ⟨μ, st, dx, dy, k, S, hx, hy, e, q⟩ := h
  cases op with
  | eq =>
    rcases eqD_cases S hx hy e with ⟨h1, h2⟩ | ⟨a, b, h1, h2, h3, h4, h5⟩
    · exact op_eq pins s σ H x y v u Q I rx ry ⟨h1, by rw [h2]; exact q⟩
    · exact op_eqD hu pins s σ H x y v u Q I rx ry ⟨a, b, h1, h2, h3, h4, by rw [h5]; exact q⟩
  | ne =>
    have e' : (eqD st dx dy).map (!·) = some k := e
    cases e2 : eqD st dx dy with
    | none => rw [e2] at e'; cases e'
    | some j =>
      rw [e2] at e'; cases e'
      rcases eqD_cases S hx hy e2 with ⟨h1, h2⟩ | ⟨a, b, h1, h2, h3, h4, h5⟩
      · exact op_ne pins s σ H x y v u Q I rx ry ⟨h1, by rw [h2]; exact q⟩
      · exact op_neD hu pins s σ H x y v u Q I rx ry ⟨a, b, h1, h2, h3, h4, by rw [h5]; exact q⟩
  | lt =>
    unfold cmpD at e; dsimp only at e
    split at e <;> first | contradiction | skip
    cases hx; cases hy; cases e
    exact op_lt pins s σ H _ _ v u Q I rx ry ⟨_, _, rfl, rfl, q⟩
  | le =>
    unfold cmpD at e; dsimp only at e
    split at e <;> first | contradiction | skip
    cases hx; cases hy; cases e
    exact op_le pins s σ H _ _ v u Q I rx ry ⟨_, _, rfl, rfl, q⟩
  | gt =>
    unfold cmpD at e; dsimp only at e
    split at e <;> first | contradiction | skip
    cases hx; cases hy; cases e
    exact op_gt pins s σ H _ _ v u Q I rx ry ⟨_, _, rfl, rfl, q⟩
  | ge =>
    unfold cmpD at e; dsimp only at e
    split at e <;> first | contradiction | skip
    cases hx; cases hy; cases e
    exact op_ge pins s σ H _ _ v u Q I rx ry ⟨_, _, rfl, rfl, q⟩
  | inn =>
    have e' : inD st dx dy = some k := e
    unfold inD at e'
    split at e'
    · cases hx; cases hy; cases e'
      exact op_in_str pins s σ H _ _ v u Q I rx ry ⟨_, _, rfl, rfl, q⟩
    · split at e'
      · rename_i ys hs
        unfold inL at e'
        split at e'
        · rename_i hf
          simp only [Bool.and_eq_true] at hf
          cases e'
          obtain ⟨a, vs, rfl, r2, sq⟩ := seq_rel S hy hs
          obtain ⟨c1, c2⟩ := inL_rel hx hf.1 r2 hf.2
          exact op_in_seq pins s σ H _ _ v u Q I rx ry ⟨a, vs, rfl, sq, flat_rel hx hf.1, c1, by rw [if_neg (by decide), c2]; exact q⟩
        · cases e'
      · cases e'
  | nin =>
    have e0 : (inD st dx dy).map (!·) = some k := e
    cases e' : inD st dx dy with
    | none => rw [e'] at e0; cases e0
    | some j =>
      rw [e'] at e0; cases e0
      unfold inD at e'
      split at e'
      · cases hx; cases hy; cases e'
        exact op_notIn_str pins s σ H _ _ v u Q I rx ry ⟨_, _, rfl, rfl, q⟩
      · split at e'
        · rename_i ys hs
          unfold inL at e'
          split at e'
          · rename_i hf
            simp only [Bool.and_eq_true] at hf
            cases e'
            obtain ⟨a, vs, rfl, r2, sq⟩ := seq_rel S hy hs
            obtain ⟨c1, c2⟩ := inL_rel hx hf.1 r2 hf.2
            exact op_notIn_seq pins s σ H _ _ v u Q I rx ry ⟨a, vs, rfl, sq, flat_rel hx hf.1, c1, by rw [if_pos rfl, c2]; exact q⟩
          · cases e'
        · cases e'
/-! ### truth -/
theorem isEmpty_rel {K : PySem.W.Frag} {μ : List Addr} {H : Hp} : ∀ {ys : List D} {vs : List V}, RelL K F μ H ys vs → (!ys.isEmpty) = !vs.isEmpty
  | [], _, q => by cases q; rfl
  | y :: ys, _, q => by cases q; rfl
theorem isEmpty_relP {K : PySem.W.Frag} {μ : List Addr} {H : Hp} : ∀ {ys : List (D × D)} {vs : List (Key × V)}, RelP K F μ H ys vs → (!ys.isEmpty) = !vs.isEmpty
  | [], _, q => by cases q; rfl
  | (y, z) :: ys, _, q => by cases q; rfl
theorem tru_rel {K : PySem.W.Frag} {μ : List Addr} {H : Hp} {st : DS} {d : D} {v : V} {k : Bool} (S : StRel K cls F μ H st) (r : Rel K F μ H d v) (e : truD st d = some k) : TruV K v H k := by
  have sq : ∀ xs, seqD st d = some xs → (!xs.isEmpty) = k → TruV K v H k := fun xs h1 h2 => by
    obtain ⟨a, vs, rfl, r2, h⟩ := seq_rel S r h1
    rcases h with h | h
    · exact .inl ⟨vs, h, by rw [← isEmpty_rel r2]; exact h2.symm⟩
    · exact .inr (.inl ⟨vs, h, by rw [← isEmpty_rel r2]; exact h2.symm⟩)
  have dq : ∀ xs, dicD st d = some xs → (!xs.isEmpty) = k → TruV K v H k := fun xs h1 h2 => by
    obtain ⟨a, vs, rfl, r2, h⟩ := dic_rel S r h1
    exact .inr (.inr ⟨vs, h, by rw [← isEmpty_relP r2]; exact h2.symm⟩)
  unfold truD at e
  split at e
  · cases r; cases e; exact rfl
  · cases r; cases e; exact rfl
  · cases r; cases e; exact rfl
  · split at e
    · rename_i hl
      cases r; cases e; exact ⟨hl, rfl⟩
    · cases e
  · split at e
    · rename_i xs hs
      exact sq xs hs (Option.some.inj e)
    · split at e
      · rename_i xs hs
        exact dq xs hs (Option.some.inj e)
      · cases e
/-! ### an item -/
def rIxD (K : PySem.W.Frag) (cls : Cl) (F : List Addr) : R2 := fun x y H Q => ∃ μ st dx dy r, StRel K cls F μ H st ∧ Rel K F μ H dx x ∧ Rel K F μ H dy y ∧ ixD st dx dy = some r ∧ ∀ v, Rel K F μ H r v → Q v H
theorem atI_rel {K : PySem.W.Frag} {μ : List Addr} {H : Hp} {ys : List D} {vs : List V} {i : Int} {d : D} (r : RelL K F μ H ys vs) (h : atI ys i = some d) : ∃ v, atI vs i = some v ∧ Rel K F μ H d v := by
  unfold atI at h ⊢
  rw [← r.length]
  cases e : ixN ys.length i with
  | none => rw [e] at h; cases h
  | some j =>
    rw [e] at h
    exact r.get h
theorem ix_ok : IxR X (rIxD X.K cls F) := by
  intro value slice pins s σ H x y v u Q I rx ry h hs
  obtain ⟨μ, st, dx, dy, r, S, hx, hy, e, q⟩ := h
  have sq : ∀ i, dy = .int i → ∀ xs, seqD st dx = some xs → atI xs i = some r → rIx X.K x y H Q := fun i hi xs h1 h2 => by
    subst hi
    cases hy
    obtain ⟨a, vs, rfl, r2, h⟩ := seq_rel S hx h1
    obtain ⟨w, h3, h4⟩ := atI_rel r2 h2
    rcases h with h | h
    · exact .inl ⟨a, vs, i, w, rfl, rfl, h, h3, q w h4⟩
    · exact .inr (.inl ⟨a, vs, i, w, rfl, rfl, h, h3, q w h4⟩)
  refine ix_seq value slice pins s σ H x y v u Q I rx ry ?_ hs
  unfold ixD at e
  split at e
  · rename_i z i
    split at e
    · rename_i hl
      cases hx; cases hy
      cases e2 : atI z.cps.toList i with
      | none => rw [e2] at e; cases e
      | some c =>
        rw [e2] at e; cases e
        exact .inr (.inr ⟨z, i, c, rfl, rfl, hl, e2, q _ (.str _)⟩)
    · cases e
  · split at e
    · rename_i xs hs2
      exact sq _ rfl xs hs2 e
    · cases e
  · cases e
/-! ### a slice -/
theorem cut_rel {K : PySem.W.Frag} {μ : List Addr} {H : Hp} {ys : List D} {vs : List V} (r : RelL K F μ H ys vs) (lo hi : Option Int) : RelL K F μ H (cutD ys lo hi) (cutV vs lo hi) := by
  unfold cutD cutV
  rw [← r.length]
  exact (r.drop _).take _
end
end MP

set_option Elab.async false
set_option linter.all false
set_option maxRecDepth 100000
set_option maxHeartbeats 2000000
namespace MP
open PySem L2 PyProof.Rows
section
variable {X : Cx} {cls : Cl} {F μ : List Addr} {H : Hp} {st : DS} {pins : List (Addr × Obj)} {σ : L2.St} {s : Shared}
/-- what the written part says of sys.modules: it is no list -/
def SmK (K : PySem.W.Frag) : Prop := ∃ o, K.lookup sysModules = some o ∧ o.cls ≠ .type "list"
theorem list_ne (I : Inv X pins σ H s) (sm : SmK X.K) {a : Addr} {o : Obj} (h : s.heap.get? a = some o) (hc : o.cls = .type "list") : a ≠ sysModules := fun z => by
  obtain ⟨o', e, n⟩ := sm
  have q := I.kIn _ _ e
  rw [z] at h
  rw [h] at q; cases q
  exact n hc
/-- if that is known, sys.modules is not among these -/
def NoS (K : PySem.W.Frag) (as : List Addr) : Prop := SmK K → sysModules ∉ as
theorem pd0P_cons {k v : D} {r : List (D × D)} {ps : List (PyData × PyData)} (h : pd0P ((k, v) :: r) = some ps) : ∃ p q qs, pd0 k = some p ∧ pd0 v = some q ∧ pd0P r = some qs ∧ ps = (p, q) :: qs := by
  unfold pd0P at h
  split at h
  · rename_i a b c e1 e2 e3
    cases h
    exact ⟨a, b, c, e1, e2, e3, rfl⟩
  · cases h
theorem pdP_cons {k v : D} {r : List (D × D)} {ps : List (PyData × PyData)} (h : pdP st ((k, v) :: r) = some ps) : ∃ p q qs, pd st k = some p ∧ pd st v = some q ∧ pdP st r = some qs ∧ ps = (p, q) :: qs := by
  unfold pdP at h
  split at h
  · rename_i a b c e1 e2 e3
    cases h
    exact ⟨a, b, c, e1, e2, e3, rfl⟩
  · cases h
theorem dic_pairs {P : Program} {w : World} : ∀ {es : List DictEntry} {vs : List (Key × Value)} {l : List (Key × V)}, PySem.Pairs (mixKind P w) es vs → KV l vs →
    Paired (fun (e : DictEntry) (p : Key × V) => RelV (kV p.1) e.key ∧ RelV p.2 e.val) es l
  | _, _, _, .nil, .nil => .nil
  | _, _, _, .cons h1 h2 h3, .cons r t => .cons ⟨by rw [r.1]; exact relV_key h1, by rw [h2]; exact r.2⟩ (dic_pairs h3 t)
/-- a dict of ours, as the model holds it -/
theorem dic_obj (I : Inv X pins σ H s) {a : Addr} {l : List (Key × V)} (h : H a = some (.dK l)) :
    (a == sysModules) = false ∧ ∃ o es ep, s.heap.get? a = some o ∧ o.cls = .type "dict" ∧ o.data = .dict es ep ∧
      Paired (fun (e : DictEntry) (p : Key × V) => RelV (kV p.1) e.key ∧ RelV p.2 e.val) es.toList l := by
  obtain ⟨z, hs, vs, kv, o, es, ep, ho, hx, hdt, hk, hp, hn⟩ := I.hok a _ h
  refine ⟨hs, o, es, ep, ho, hx.1, hdt, ?_⟩
  exact dic_pairs hp kv
theorem rel_keyV {d : D} {k : Key} (h : keyOf d = some k) {K : PySem.W.Frag} : Rel K F μ H d (kV k) := by
  cases d <;> first | (cases h; done) | skip
  · cases h; exact .int _
  · cases h; exact .str _
theorem scrD_rel {K : PySem.W.Frag} {ds : List D} {v : V} (r : Rel K F μ H (.scr ds) v) : ∃ a vs, v = .ref a ∧ SqL K H a vs ∧ RelL K F μ H ds vs := by
  cases r with
  | scr h1 h2 h3 => exact ⟨_, _, rfl, .inl (.inr ⟨_, h1⟩), h3⟩
  | scrK h1 h3 => exact ⟨_, _, rfl, h1 H, h3⟩
mutual
theorem rd0 (I : Inv X pins σ H s) : ∀ (d : D) (v : V) (u : Value) (p : PyData), Rel X.K F μ H d v → RelV v u → pd0 d = some p → ∃ as, Reads s.heap u p as ∧ NoS X.K as
  | .non, _, _, _, r, q, h => by cases r; simp only [pd0] at h; cases h; cases q; exact ⟨_, .none, fun _ => by simp⟩
  | .bl _, _, _, _, r, q, h => by cases r; simp only [pd0] at h; cases h; cases q; exact ⟨_, .bool _, fun _ => by simp⟩
  | .int _, _, _, _, r, q, h => by cases r; simp only [pd0] at h; cases h; obtain ⟨t, rfl⟩ := q; exact ⟨_, .int _ t, fun _ => by simp⟩
  | .str _, _, _, _, r, q, h => by cases r; simp only [pd0] at h; cases h; obtain ⟨t, rfl⟩ := q; exact ⟨_, .str _ t, fun _ => by simp⟩
  | .tup ds, _, _, _, r, q, h => by
    simp only [pd0] at h
    obtain ⟨ps, e, rfl⟩ := laysome h
    obtain ⟨a, vs, rfl, hs, hr⟩ := tupD_rel r
    cases q
    obtain ⟨its, rv, ⟨o, ho, hc, n, hd⟩, _⟩ := I.tuple hs
    obtain ⟨as, hr', ns⟩ := rd0L I ds _ its _ hr rv e
    exact ⟨_, Reads.tuple ho hc hd hr', ns⟩
  | .lst ds, _, _, _, r, q, h => by
    simp only [pd0] at h
    obtain ⟨ps, e, rfl⟩ := laysome h
    obtain ⟨a, vs, rfl, hs, hr⟩ := lstD_rel r
    cases q
    obtain ⟨its, rv, ⟨o, n, ho, hc, _, hd⟩, _⟩ := I.list (SqL.of hs)
    obtain ⟨as, hr', ns⟩ := rd0L I ds _ its _ hr rv e
    exact ⟨_, Reads.list ho hc hd hr', fun sm z => (List.mem_cons.mp z).elim (fun z => list_ne I sm ho hc z.symm) (ns sm)⟩
  | .scr ds, _, _, _, r, q, h => by
    simp only [pd0] at h
    obtain ⟨ps, e, rfl⟩ := laysome h
    obtain ⟨a, vs, rfl, hs, hr⟩ := scrD_rel r
    cases q
    obtain ⟨its, rv, ⟨o, n, ho, hc, _, hd⟩, _⟩ := I.list hs
    obtain ⟨as, hr', ns⟩ := rd0L I ds _ its _ hr rv e
    exact ⟨_, Reads.list ho hc hd hr', fun sm z => (List.mem_cons.mp z).elim (fun z => list_ne I sm ho hc z.symm) (ns sm)⟩
  | .dic kvs, _, _, _, r, q, h => by
    simp only [pd0] at h
    obtain ⟨ps, e, rfl⟩ := laysome h
    cases r with
    | dic h1 h2 h4 h3 =>
      cases q
      obtain ⟨ne, o, es, ep, ho, hc, hd, hp⟩ := dic_obj I h1
      obtain ⟨as, bs, r1, r2, n1, n2⟩ := rd0P I kvs _ _ _ h3 hp e
      refine ⟨_, Reads.dict ho hc hd r1 r2, fun sm z => ?_⟩
      rcases List.mem_append.mp z with z | z
      · rcases List.mem_cons.mp z with z | z
        · rw [z] at ne; simp at ne
        · exact n1 sm z
      · exact n2 sm z
  | .ref _, _, _, _, r, _, h => by simp only [pd0] at h; cases h
theorem rd0L (I : Inv X pins σ H s) : ∀ (ds : List D) (vs : List V) (us : List Value) (ps : List PyData), RelL X.K F μ H ds vs → Vals vs us → pd0L ds = some ps → ∃ as, ReadsAll s.heap us ps as ∧ NoS X.K as
  | [], _, _, _, r, q, h => by cases r; simp only [pd0L] at h; cases h; cases q; exact ⟨_, .nil, fun _ => by simp⟩
  | d :: ds, _, _, _, r, q, h => by
    obtain ⟨p, qs, e1, e2, rfl⟩ := pd0L_cons h
    cases r with
    | cons r1 r2 =>
      cases q with
      | cons q1 q2 =>
        obtain ⟨as, a1, n1⟩ := rd0 I d _ _ _ r1 q1 e1
        obtain ⟨bs, a2, n2⟩ := rd0L I ds _ _ _ r2 q2 e2
        exact ⟨_, .cons a1 a2, fun sm z => (List.mem_append.mp z).elim (n1 sm) (n2 sm)⟩
theorem rd0P (I : Inv X pins σ H s) : ∀ (ds : List (D × D)) (l : List (Key × V)) (es : List DictEntry) (ps : List (PyData × PyData)), RelP X.K F μ H ds l →
    Paired (fun (e : DictEntry) (p : Key × V) => RelV (kV p.1) e.key ∧ RelV p.2 e.val) es l → pd0P ds = some ps →
    ∃ as bs, ReadsAll s.heap (es.map (·.key)) (ps.map (·.1)) as ∧ ReadsAll s.heap (es.map (·.val)) (ps.map (·.2)) bs ∧ NoS X.K as ∧ NoS X.K bs
  | [], _, _, _, r, q, h => by
    cases r
    cases q
    simp only [pd0P] at h
    cases h
    exact ⟨_, _, .nil, .nil, fun _ => by simp, fun _ => by simp⟩
  | (k, d) :: ds, _, _, _, r, q, h => by
    obtain ⟨p, p2, qs, e1, e2, e3, rfl⟩ := pd0P_cons h
    cases r with
    | cons r0 r1 r2 =>
      cases q with
      | cons q1 q2 =>
        obtain ⟨as, a1, n1⟩ := rd0 I k _ _ _ (rel_keyV r0) q1.1 e1
        obtain ⟨bs, a2, n2⟩ := rd0 I d _ _ _ r1 q1.2 e2
        obtain ⟨cs, ds', a3, a4, n3, n4⟩ := rd0P I ds _ _ _ r2 q2 e3
        exact ⟨_, _, .cons a1 a3, .cons a2 a4, fun sm z => (List.mem_append.mp z).elim (n1 sm) (n3 sm), fun sm z => (List.mem_append.mp z).elim (n2 sm) (n4 sm)⟩
end
mutual
theorem rd1 (I : Inv X pins σ H s) (S : StRel X.K cls F μ H st) : ∀ (d : D) (v : V) (u : Value) (p : PyData), Rel X.K F μ H d v → RelV v u → pd st d = some p → ∃ as, Reads s.heap u p as ∧ NoS X.K as
  | .non, _, _, _, r, q, h => by cases r; simp only [pd] at h; cases h; cases q; exact ⟨_, .none, fun _ => by simp⟩
  | .bl _, _, _, _, r, q, h => by cases r; simp only [pd] at h; cases h; cases q; exact ⟨_, .bool _, fun _ => by simp⟩
  | .int _, _, _, _, r, q, h => by cases r; simp only [pd] at h; cases h; obtain ⟨t, rfl⟩ := q; exact ⟨_, .int _ t, fun _ => by simp⟩
  | .str _, _, _, _, r, q, h => by cases r; simp only [pd] at h; cases h; obtain ⟨t, rfl⟩ := q; exact ⟨_, .str _ t, fun _ => by simp⟩
  | .tup ds, _, _, _, r, q, h => by
    simp only [pd] at h
    obtain ⟨ps, e, rfl⟩ := laysome h
    obtain ⟨a, vs, rfl, hs, hr⟩ := tupD_rel r
    cases q
    obtain ⟨its, rv, ⟨o, ho, hc, n, hd⟩, _⟩ := I.tuple hs
    obtain ⟨as, hr', ns⟩ := rd1L I S ds _ its _ hr rv e
    exact ⟨_, Reads.tuple ho hc hd hr', ns⟩
  | .lst ds, _, _, _, r, q, h => by
    simp only [pd] at h
    obtain ⟨ps, e, rfl⟩ := laysome h
    obtain ⟨a, vs, rfl, hs, hr⟩ := lstD_rel r
    cases q
    obtain ⟨its, rv, ⟨o, n, ho, hc, _, hd⟩, _⟩ := I.list (SqL.of hs)
    obtain ⟨as, hr', ns⟩ := rd1L I S ds _ its _ hr rv e
    exact ⟨_, Reads.list ho hc hd hr', fun sm z => (List.mem_cons.mp z).elim (fun z => list_ne I sm ho hc z.symm) (ns sm)⟩
  | .scr ds, _, _, _, r, q, h => by
    simp only [pd] at h
    obtain ⟨ps, e, rfl⟩ := laysome h
    obtain ⟨a, vs, rfl, hs, hr⟩ := scrD_rel r
    cases q
    obtain ⟨its, rv, ⟨o, n, ho, hc, _, hd⟩, _⟩ := I.list hs
    obtain ⟨as, hr', ns⟩ := rd1L I S ds _ its _ hr rv e
    exact ⟨_, Reads.list ho hc hd hr', fun sm z => (List.mem_cons.mp z).elim (fun z => list_ne I sm ho hc z.symm) (ns sm)⟩
  | .dic kvs, _, _, _, r, q, h => by
    simp only [pd] at h
    obtain ⟨ps, e, rfl⟩ := laysome h
    cases r with
    | dic h1 h2 h4 h3 =>
      cases q
      obtain ⟨ne, o, es, ep, ho, hc, hd, hp⟩ := dic_obj I h1
      obtain ⟨as, bs, r1, r2, n1, n2⟩ := rd1P I S kvs _ _ _ h3 hp e
      refine ⟨_, Reads.dict ho hc hd r1 r2, fun sm z => ?_⟩
      rcases List.mem_append.mp z with z | z
      · rcases List.mem_cons.mp z with z | z
        · rw [z] at ne; simp at ne
        · exact n1 sm z
      · exact n2 sm z
  | .ref n, _, _, _, r, q, h => by
    simp only [pd] at h
    cases r with
    | @ref _ a hn =>
      cases q
      obtain ⟨ob, e, o⟩ := S.obj n a hn
      rw [e] at h
      cases ob with
      | lst ds =>
        obtain ⟨ps, e', rfl⟩ := laysome h
        obtain ⟨vs, hs, hr⟩ := o
        obtain ⟨its, rv, ⟨o, n, ho, hc, _, hd⟩, _⟩ := I.list (SqL.of hs)
        obtain ⟨as, hr', ns⟩ := rd0L I ds _ its _ hr rv e'
        exact ⟨_, Reads.list ho hc hd hr', fun sm z => (List.mem_cons.mp z).elim (fun z => list_ne I sm ho hc z.symm) (ns sm)⟩
      | dic kvs =>
        obtain ⟨ps, e', rfl⟩ := laysome h
        obtain ⟨l, h1, h3⟩ := o
        obtain ⟨ne, o, es, ep, ho, hc, hd, hp⟩ := dic_obj I h1
        obtain ⟨as, bs, r1, r2, n1, n2⟩ := rd0P I kvs _ _ _ h3 hp e'
        refine ⟨_, Reads.dict ho hc hd r1 r2, fun sm z => ?_⟩
        rcases List.mem_append.mp z with z | z
        · rcases List.mem_cons.mp z with z | z
          · rw [z] at ne; simp at ne
          · exact n1 sm z
        · exact n2 sm z
      | ins => cases h
theorem rd1L (I : Inv X pins σ H s) (S : StRel X.K cls F μ H st) : ∀ (ds : List D) (vs : List V) (us : List Value) (ps : List PyData), RelL X.K F μ H ds vs → Vals vs us → pdL st ds = some ps → ∃ as, ReadsAll s.heap us ps as ∧ NoS X.K as
  | [], _, _, _, r, q, h => by cases r; simp only [pdL] at h; cases h; cases q; exact ⟨_, .nil, fun _ => by simp⟩
  | d :: ds, _, _, _, r, q, h => by
    obtain ⟨p, qs, e1, e2, rfl⟩ := pdL_cons h
    cases r with
    | cons r1 r2 =>
      cases q with
      | cons q1 q2 =>
        obtain ⟨as, a1, n1⟩ := rd1 I S d _ _ _ r1 q1 e1
        obtain ⟨bs, a2, n2⟩ := rd1L I S ds _ _ _ r2 q2 e2
        exact ⟨_, .cons a1 a2, fun sm z => (List.mem_append.mp z).elim (n1 sm) (n2 sm)⟩
theorem rd1P (I : Inv X pins σ H s) (S : StRel X.K cls F μ H st) : ∀ (ds : List (D × D)) (l : List (Key × V)) (es : List DictEntry) (ps : List (PyData × PyData)), RelP X.K F μ H ds l →
    Paired (fun (e : DictEntry) (p : Key × V) => RelV (kV p.1) e.key ∧ RelV p.2 e.val) es l → pdP st ds = some ps →
    ∃ as bs, ReadsAll s.heap (es.map (·.key)) (ps.map (·.1)) as ∧ ReadsAll s.heap (es.map (·.val)) (ps.map (·.2)) bs ∧ NoS X.K as ∧ NoS X.K bs
  | [], _, _, _, r, q, h => by
    cases r
    cases q
    simp only [pdP] at h
    cases h
    exact ⟨_, _, .nil, .nil, fun _ => by simp, fun _ => by simp⟩
  | (k, d) :: ds, _, _, _, r, q, h => by
    obtain ⟨p, p2, qs, e1, e2, e3, rfl⟩ := pdP_cons h
    cases r with
    | cons r0 r1 r2 =>
      cases q with
      | cons q1 q2 =>
        obtain ⟨as, a1, n1⟩ := rd1 I S k _ _ _ (rel_keyV r0) q1.1 e1
        obtain ⟨bs, a2, n2⟩ := rd1 I S d _ _ _ r1 q1.2 e2
        obtain ⟨cs, ds', a3, a4, n3, n4⟩ := rd1P I S ds _ _ _ r2 q2 e3
        exact ⟨_, _, .cons a1 a3, .cons a2 a4, fun sm z => (List.mem_append.mp z).elim (n1 sm) (n3 sm), fun sm z => (List.mem_append.mp z).elim (n2 sm) (n4 sm)⟩
end
/-- repr(..) of data -/
theorem repr_ok (I : Inv X pins σ H s) (hg : X.A.guards = some []) (hu : X.A.units + 64 < cLine) (S : StRel X.K cls F μ H st) {d : D} {v : V} {u : Value} {p : PyData} {Q : VK} (r : Rel X.K F μ H d v) (q : RelV v u)
    (h : pd st d = some p) (h1 : p.showable = true) (h2 : p.shown.length ≤ sizeLine) (h3 : p.depth ≤ 60) (h4 : p.hasDict = false) (k : Q (.str p.shown) H) : wpAny (model X.prog X.w) X.A (call (.builtin "repr") [u]) (EP X pins σ Q) X.xe s := by
  obtain ⟨as, rd, ns⟩ := rd1 I S d v u p r q h
  cases rd with
  | none => exact PySem.P.repr_of_none ⟨.str _, H, I.tok _, ⟨_, rfl⟩, by simpa only [PyData.shown] using k⟩
  | bool b => exact PySem.P.repr_of_bool ⟨.str _, H, I.tok _, ⟨_, rfl⟩, by simpa only [PyData.shown] using k⟩
  | int i t => exact PySem.P.repr_of_int (by simpa [PyData.showable] using h1) ⟨.str _, H, I.tok _, ⟨_, rfl⟩, by simpa only [PyData.shown] using k⟩
  | str x t => exact PySem.P.repr_of_str ⟨.str _, H, I.tok _, ⟨_, rfl⟩, by simpa only [PyData.shown] using k⟩ (by simpa only [PyData.shown] using h2)
  | list a1 a2 a3 a4 => exact repr_of_reads' (Reads.list a1 a2 a3 a4) h1 (fun z => absurd z (by rw [h4]; decide)) hg (by omega) (fun _ _ e => e) (fun h' t tk hk => ⟨.str _, H, I.kept (t' := tk) hk, ⟨t, rfl⟩, k⟩) h2
  | tuple a1 a2 a3 a4 => exact repr_of_reads' (Reads.tuple a1 a2 a3 a4) h1 (fun z => absurd z (by rw [h4]; decide)) hg (by omega) (fun _ _ e => e) (fun h' t tk hk => ⟨.str _, H, I.kept (t' := tk) hk, ⟨t, rfl⟩, k⟩) h2
  | dict a1 a2 a3 a4 a5 => exact repr_of_reads' (Reads.dict a1 a2 a3 a4 a5) h1 (fun z => absurd z (by rw [h4]; decide)) hg (by omega) (fun _ _ e => e) (fun h' t tk hk => ⟨.str _, H, I.kept (t' := tk) hk, ⟨t, rfl⟩, k⟩) h2
end
end MP

set_option Elab.async false
set_option linter.all false
set_option maxRecDepth 100000
set_option maxHeartbeats 2000000
namespace MP
open PySem L2 PyProof.Rows
/-- what every place of a body has -/
structure Good (X : Cx) : Prop where
  gd : X.A.guards = some []
  hu : X.A.units + 70 < cLine
section
variable {X : Cx} {cls : Cl} {F : List Addr}
def biV : BI → Value
  | .abs => .builtin "abs" | .len => .builtin "len" | .max => .builtin "max" | .min => .builtin "min" | .int => .type "int" | .str => .type "str" | .repr => .builtin "repr"
  | .gcd => .builtin "math.gcd" | .isqrt => .builtin "math.isqrt" | .tuple => .type "tuple" | .all => .builtin "all" | .any => .builtin "any" | .sum => .builtin "sum"
def rBi (K : PySem.W.Frag) (cls : Cl) (F : List Addr) (b : BI) : List V → Hp → VK → Prop := fun vs H Q => ∃ μ st ds r, StRel K cls F μ H st ∧ RelL K F μ H ds vs ∧ biD b st ds = some r ∧
  ∀ μ' H' v, Ext μ μ' H H' → StRel K cls F μ' H' st → Rel K F μ' H' r v → Q v H'
theorem relL1 {K : PySem.W.Frag} {μ : List Addr} {H : Hp} {d : D} {vs : List V} (r : RelL K F μ H [d] vs) : ∃ v, vs = [v] ∧ Rel K F μ H d v := by
  cases r with
  | cons a b => cases b; exact ⟨_, rfl, a⟩
theorem relL2 {K : PySem.W.Frag} {μ : List Addr} {H : Hp} {d e : D} {vs : List V} (r : RelL K F μ H [d, e] vs) : ∃ v w, vs = [v, w] ∧ Rel K F μ H d v ∧ Rel K F μ H e w := by
  cases r with
  | cons a b => cases b with
    | cons b c => cases c; exact ⟨_, _, rfl, a, b⟩
theorem bls_rel {K : PySem.W.Frag} {μ : List Addr} {H : Hp} : ∀ {ys : List D} {bs : List Bool} {vs : List V}, RelL K F μ H ys vs → blsD ys = some bs → vs = bs.map V.bl
  | [], _, _, r, h => by cases r; cases h; rfl
  | y :: ys, _, _, r, h => by
    cases r with
    | cons r1 r2 =>
      cases y with
      | bl b =>
        have h' : (blsD ys).map (b :: ·) = some _ := h
        obtain ⟨bs, e, rfl⟩ := laysome h'
        cases r1
        rw [bls_rel r2 e]
        rfl
      | _ => cases h
theorem ints_rel {K : PySem.W.Frag} {μ : List Addr} {H : Hp} : ∀ {ys : List D} {bs : List Int} {vs : List V}, RelL K F μ H ys vs → intsD ys = some bs → vs = bs.map V.int
  | [], _, _, r, h => by cases r; cases h; rfl
  | y :: ys, _, _, r, h => by
    cases r with
    | cons r1 r2 =>
      cases y with
      | int b =>
        have h' : (intsD ys).map (b :: ·) = some _ := h
        obtain ⟨bs, e, rfl⟩ := laysome h'
        cases r1
        rw [ints_rel r2 e]
        rfl
      | _ => cases h
theorem lis_rel {K : PySem.W.Frag} {μ : List Addr} {H : Hp} {st : DS} (S : StRel K cls F μ H st) {d : D} {v : V} {xs : List D} (r : Rel K F μ H d v) (h : lisD st d = some xs) : ∃ a vs, v = .ref a ∧ RelL K F μ H xs vs ∧ SqL K H a vs := by
  cases r with
  | non => cases h
  | bl => cases h
  | int => cases h
  | str => cases h
  | tup => cases h
  | tupK => cases h
  | lst h1 h2 h4 h3 => cases h; exact ⟨_, _, rfl, h3, SqL.of h1⟩
  | scr h1 h2 h3 => cases h; exact ⟨_, _, rfl, h3, .inl (.inr ⟨_, h1⟩)⟩
  | scrK h1 h3 => cases h; exact ⟨_, _, rfl, h3, h1 H⟩
  | dic => cases h
  | @ref n a hn =>
    obtain ⟨ob, e, o⟩ := S.obj n a hn
    have h' : (match getO st n with | some (.lst xs) => some xs | _ => none) = some xs := h
    rw [e] at h'
    cases ob with
    | lst ds => cases h'; obtain ⟨vs, e1, e2⟩ := o; exact ⟨a, vs, rfl, e2, SqL.of e1⟩
    | dic => cases h'
    | ins => cases h'
theorem isqrt_cr : CallR X (.builtin "math.isqrt") (fun xs H Q => ∃ a : Int, xs = [.int a] ∧ (0 ≤ a ∧ a.toNat.log2 < 13000) ∧ Q (.int ((Float64.isqrt a.toNat : Nat) : Int)) H) := by
  intro pins s σ H xs us Q I r h
  obtain ⟨a, rfl, ⟨h0, h1⟩, q⟩ := h
  obtain ⟨u, rfl, t, rfl⟩ := vals1 r
  exact call_function_meets PySem.W.MGF.kind_isqrt PySem.W.MGF.plain_isqrt PySem.W.MGF.entry_isqrt (PySem.W.MGF.args_isqrt _) (PySem.W.mg_run_isqrt a t (by omega) (by omega) (by omega)).meets ⟨.int _, H, I.tok _, ⟨_, rfl⟩, q⟩
theorem bi_ok (g : Good X) (hc : X.calm = true) (b : BI) : CallR X (biV b) (rBi X.K cls F b) := by
  intro pins s σ H xs us Q I r h
  obtain ⟨μ, st, ds, d, S, rs, e, q⟩ := h
  have fin : ∀ v, Rel X.K F μ H d v → Q v H := fun v rv => q μ H v .refl S rv
  cases b with
  | abs =>
    unfold biD at e
    split at e <;> first | contradiction | skip
    all_goals first | (rename_i hq; cases hq; done) | skip
    cases e
    obtain ⟨v, rfl, r1⟩ := relL1 rs
    cases r1
    exact call_abs pins s σ H _ us Q I r ⟨_, rfl, fin _ (.int _)⟩
  | len =>
    unfold biD at e
    split at e <;> first | contradiction | skip
    all_goals first | (rename_i hq; cases hq; done) | skip
    · split at e
      · rename_i hl
        cases e
        obtain ⟨v, rfl, r1⟩ := relL1 rs
        cases r1
        exact call_len_str pins s σ H _ us Q I r ⟨_, rfl, hl, fin _ (.int _)⟩
      · cases e
    · obtain ⟨v, rfl, r1⟩ := relL1 rs
      split at e
      · rename_i ys hs
        cases e
        obtain ⟨a, vs, rfl, r2, sq⟩ := seq_rel S r1 hs
        exact call_len_seq pins s σ H _ us Q I r ⟨a, vs, rfl, sq, by rw [← r2.length]; exact fin _ (.int _)⟩
      · split at e
        · rename_i kvs hs
          cases e
          obtain ⟨a, l, rfl, r2, sq⟩ := dic_rel S r1 hs
          exact call_lenD pins s σ H _ us Q I r ⟨a, l, rfl, sq, by rw [← r2.length]; exact fin _ (.int _)⟩
        · cases e
  | max =>
    unfold biD at e
    split at e <;> first | contradiction | skip
    all_goals first | (rename_i hq; cases hq; done) | skip
    cases e
    obtain ⟨v, w, rfl, r1, r2⟩ := relL2 rs
    cases r1; cases r2
    exact call_max2 hc pins s σ H _ us Q I r ⟨_, _, rfl, fin _ (.int _)⟩
  | min =>
    unfold biD at e
    split at e <;> first | contradiction | skip
    all_goals first | (rename_i hq; cases hq; done) | skip
    cases e
    obtain ⟨v, w, rfl, r1, r2⟩ := relL2 rs
    cases r1; cases r2
    exact call_min2 hc pins s σ H _ us Q I r ⟨_, _, rfl, fin _ (.int _)⟩
  | int =>
    unfold biD at e
    split at e <;> first | contradiction | skip
    all_goals first | (rename_i hq; cases hq; done) | skip
    · cases e
      obtain ⟨v, rfl, r1⟩ := relL1 rs
      cases r1
      exact call_int1 pins s σ H _ us Q I r (.inl ⟨_, rfl, fin _ (.int _)⟩)
    · cases e
      obtain ⟨v, rfl, r1⟩ := relL1 rs
      cases r1
      exact call_int1 pins s σ H _ us Q I r (.inr ⟨_, rfl, fin _ (.int _)⟩)
  | str =>
    unfold biD at e
    split at e <;> first | contradiction | skip
    all_goals first | (rename_i hq; cases hq; done) | skip
    split at e
    · rename_i hl
      cases e
      obtain ⟨v, rfl, r1⟩ := relL1 rs
      cases r1
      exact call_str_int pins s σ H _ us Q I r ⟨_, rfl, hl, fin _ (.str _)⟩
    · cases e
  | repr =>
    unfold biD at e
    split at e <;> first | contradiction | skip
    all_goals first | (rename_i hq; cases hq; done) | skip
    split at e
    · rename_i p hp
      split at e
      · rename_i hl
        simp only [Bool.and_eq_true, decide_eq_true_eq] at hl
        cases e
        obtain ⟨v, rfl, r1⟩ := relL1 rs
        obtain ⟨u, rfl, ru⟩ := vals1 r
        have h1 := g.hu
        exact repr_ok I g.gd (by omega) S r1 ru hp hl.1.1.1 hl.1.1.2 hl.1.2 (by simpa using hl.2) (fin _ (.str _))
      · cases e
    · cases e
  | gcd =>
    unfold biD at e
    split at e <;> first | contradiction | skip
    all_goals first | (rename_i hq; cases hq; done) | skip
    cases e
    obtain ⟨v, w, rfl, r1, r2⟩ := relL2 rs
    cases r1; cases r2
    exact cr_gcd pins s σ H _ us Q I r ⟨_, _, rfl, fin _ (.int _)⟩
  | isqrt =>
    unfold biD at e
    split at e <;> first | contradiction | skip
    all_goals first | (rename_i hq; cases hq; done) | skip
    split at e
    · rename_i hl
      cases e
      obtain ⟨v, rfl, r1⟩ := relL1 rs
      cases r1
      exact isqrt_cr pins s σ H _ us Q I r ⟨_, rfl, hl, fin _ (.int _)⟩
    · cases e
  | tuple =>
    unfold biD at e
    split at e <;> first | contradiction | skip
    all_goals first | (rename_i hq; cases hq; done) | skip
    · cases e
      obtain ⟨v, rfl, r1⟩ := relL1 rs
      obtain ⟨a, vs, rfl, sq, r2⟩ := tupD_rel r1
      exact call_tuple_of pins s σ H _ us Q I r ⟨a, vs, rfl, .inr ⟨sq, fin _ r1⟩⟩
    · split at e
      · rename_i ys hs
        cases e
        obtain ⟨v, rfl, r1⟩ := relL1 rs
        obtain ⟨a, vs, rfl, r2, sq⟩ := lis_rel S r1 hs
        exact call_tuple_of pins s σ H _ us Q I r ⟨a, vs, rfl, .inl ⟨sq, fun p hp => q μ _ _ (ext_new hp) (S.new hp) (new_tup S hp r2)⟩⟩
      · cases e
  | all =>
    unfold biD at e
    split at e <;> first | contradiction | skip
    all_goals first | (rename_i hq; cases hq; done) | skip
    split at e
    · rename_i bs hb
      cases e
      obtain ⟨ys, hs, hb'⟩ := Option.bind_eq_some_iff.mp hb
      obtain ⟨v, rfl, r1⟩ := relL1 rs
      obtain ⟨a, vs, rfl, r2, sq⟩ := lis_rel S r1 hs
      rw [bls_rel r2 hb'] at sq
      exact cr_all hc pins s σ H _ us Q I r ⟨a, bs, rfl, sq, fin _ (.bl _)⟩
    · cases e
  | any =>
    unfold biD at e
    split at e <;> first | contradiction | skip
    all_goals first | (rename_i hq; cases hq; done) | skip
    split at e
    · rename_i bs hb
      cases e
      obtain ⟨ys, hs, hb'⟩ := Option.bind_eq_some_iff.mp hb
      obtain ⟨v, rfl, r1⟩ := relL1 rs
      obtain ⟨a, vs, rfl, r2, sq⟩ := lis_rel S r1 hs
      rw [bls_rel r2 hb'] at sq
      exact cr_any hc pins s σ H _ us Q I r ⟨a, bs, rfl, sq, fin _ (.bl _)⟩
    · cases e
  | sum =>
    unfold biD at e
    split at e <;> first | contradiction | skip
    all_goals first | (rename_i hq; cases hq; done) | skip
    split at e
    · rename_i bs hb
      cases e
      obtain ⟨ys, hs, hb'⟩ := Option.bind_eq_some_iff.mp hb
      obtain ⟨v, rfl, r1⟩ := relL1 rs
      obtain ⟨a, vs, rfl, r2, sq⟩ := lis_rel S r1 hs
      rw [ints_rel r2 hb'] at sq
      exact cr_sum hc pins s σ H _ us Q I r ⟨a, bs, rfl, sq, fin _ (.int _)⟩
    · cases e
end
end MP

set_option Elab.async false
set_option linter.all false
set_option maxRecDepth 100000
set_option maxHeartbeats 2000000
namespace MP
open PySem L2 PyProof.Rows
/-! ### defs that know what runs around -/
structure FnG (P : Program) (w : World) (K : PySem.W.Frag) (mg : Str → Option Value) (base : Heap) (k : Nat) (f : Addr) (fd : FuncData) (ps : List Str) (sp : Sp) : Prop where
  len : ∀ vs H Q E, sp vs H Q E → vs.length = ps.length
  run : ∀ (A : Around) (out : List PySem.Env) (s : Shared) (H : Hp) (args : Args) (us : List Value) (vs : List V) (Q : VK) (E : XK), Room k A → A.guards = some [] → Env0 P w K mg base A out s H →
    BindsTo s fd args (ps.zip us) → Vals vs us → sp vs H Q E → codeAny (model P w) A (.call (.ref f) args) (CR (L2.CX P w) out P w H s Q E) s
section
variable {P : Program} {w : World} {K : PySem.W.Frag} {mg : Str → Option Value} {base : Heap}
/-- from a body -/
theorem FnG.of {x qual : Str} {st : Stmt} {f : Addr} {fd : FuncData} {N ps : List Str} {k : Nat} {sp : Sp} (D : Fun K x qual st f fd) (S : FnScope N ps (defScope st)) (len : ∀ vs H Q E, sp vs H Q E → vs.length = ps.length)
    (hb : ∀ (cdv : Value) (A : Around) (out : List PySem.Env) (s : Shared) (H : Hp) (vs : List V) (Q : VK) (E : XK), Room k (A.deeper (envOfC qual (defScope st) s.heap.objs.size f cdv)) → A.guards = some [] → fd.code = cdv → sp vs H Q E →
      ∃ t, PSs (cxOf (L2.CX P w) P w K mg base N qual (defScope st) f cdv A out s H E) (defBody st) t ∧ t { nx := fun _ H' => Q .non H', rt := Q } (start N vs) H) : FnG P w K mg base (k + 1) f fd ps sp := by
  refine ⟨len, fun A out s H args us vs Q E hr hg e0 hbd r h => ?_⟩
  obtain ⟨oc, od, kV, doc, pm, an, cdv, ct, osl, rfl, lk, hcd⟩ := D.ex
  have ln := len _ _ _ _ h
  have kin : K.In s.heap := e0.mod.kin.keeps fun b o e => (e0.bs b o e).1
  refine codeAny_call_function hr.depth (kin _ _ lk) rfl S.co S.gen rfl (PySem.W.codeRec_of kin hcd) (hbd _ _ _ _ ?_)
  refine wpAny_newFunctionEnv_cells S.kind (fun ⟨n, v⟩ hy => ?_) fun env he s1 ic => ?_
  · rcases S.par n (List.of_mem_zip hy).1 with z | z
    · exact .inl z
    · exact .inr ⟨z, PySem.W.cellsFrom_some _ _ _ (.inl z)⟩
  · subst he
    refine ⟨(e0.mod.nolimit.keeps fun b o e => (e0.bs b o e).1).keeps ic.toInCall.keep, codeAny_func ?_⟩
    obtain ⟨t, ht, hq⟩ := hb cdv A out s H vs Q E (hr.deeper _) hg rfl h
    have I : L2.Inv (cxOf (L2.CX P w) P w K mg base N qual (defScope st) f cdv A out s H E) [] (start N vs) H s1 := inv_start S hr.hd e0 ln r ic
    refine wpAny_mono (ht.run [] s1 (start N vs) H _ I hq) (fun fl s' z => ?_) fun _ _ z => z
    cases fl with
    | ret u => obtain ⟨v, _, H', J, rv, q⟩ := z; exact ⟨v, H', J.os, J.bare, J.base, J.hok, rv, q⟩
    | next => obtain ⟨_, H', J, q⟩ := z; exact ⟨V.non, H', J.os, J.bare, J.base, J.hok, rfl, q⟩
    | brk => obtain ⟨_, _, _, q⟩ := z; exact q.elim
    | cont => obtain ⟨_, _, _, q⟩ := z; exact q.elim
end
section
variable {X : Cx} {W : WX} {k : Nat} {f : Addr} {fd : FuncData} {ps : List Str} {sp : Sp}
/-- a def is called -/
theorem callG {pins : List (Addr × Obj)} {σ : L2.St} {H : Hp} {s : Shared} {Q : VK} {us : List Value} {vs : List V} (G : FnG X.prog X.w X.K X.mg X.base k f fd ps sp) (hr : Room k X.A) (hg : X.A.guards = some []) (hb : Binds X.K fd ps []) (tk : Takes X W)
    (I : Inv X pins σ H s) (r : Vals vs us) (h : sp vs H Q (fun c d H' => W c d σ H')) : wpAny (model X.prog X.w) X.A (call (.ref f) us) (EP X pins σ Q) X.xe s := by
  have ln : us.length = ps.length := by rw [← r.length]; exact G.len _ _ _ _ h
  have b := hb s us I.kIn (by rw [List.append_nil]; exact ln)
  rw [List.append_nil] at b
  refine wpAny_call (codeAny_mono (G.run X.A X.stack s H ⟨us, []⟩ us vs Q _ hr hg I.env0 b r h) fun res s' z => ?_)
  cases res with
  | error e => exact tk e s' (XE.of_call I (fun _ _ _ h => h) z)
  | ok fl => cases fl with
    | ret u => exact I.after z
    | next => exact False.elim z
    | brk => exact False.elim z
    | cont => exact False.elim z
end
/-! ### a program's facts -/
/-- what the text tells -/
structure Sg where
  xf : Nat → List Str
  Pg : Nat → Option FDef
  cn : Nat → Option (Str × D)
  xn : Nat → Option Str
  tn : Nat → Option Str
  gc : Bool
  iq : Bool
structure Wd extends Sg where
  cls : Cl
  fa : Nat → Addr
  fdat : Nat → FuncData
  ps : Nat → List Str
  cd : Nat → V
/-- what a def promises: what the interpreter tells of it -/
def prom (K : PySem.W.Frag) (U : Wd) (C : Nat → List D → DS → R D) (f : Nat) : Sp := fun vs H Q E => ∃ F μ st ds, StRel K U.cls F μ H st ∧ RelL K F μ H ds vs ∧ ds.length = (U.ps f).length ∧
  Post K U.cls U.xf F (rlD K F) (fun c d _ H' => E c d H') [] μ H (C f ds st) Q
structure Fns (U : Wd) (P : Program) (w : World) (K : PySem.W.Frag) (mg : Str → Option Value) (base : Heap) (n : Nat) : Prop where
  ok : ∀ f fd, U.Pg f = some fd → Binds K (U.fdat f) (U.ps f) [] ∧ FnG P w K mg base (3 * n + 3) (U.fa f) (U.fdat f) (U.ps f) (prom K U (callN U.Pg n) f)
/-- the module's names -/
structure Gls (U : Wd) (K : PySem.W.Frag) (mg : Str → Option Value) : Prop where
  fn : ∀ f fd, U.Pg f = some fd → fd.gl = true → mg fd.nm = some (.ref (U.fa f)) ∧ PySem.W.keepIn K (.ref (U.fa f)) = true
  np : ∀ f fd, U.Pg f = some fd → (U.ps f).length = fd.np
  cn : ∀ k x d, U.cn k = some (x, d) → (∃ u, mg x = some u ∧ RelV (U.cd k) u) ∧ ∀ F μ H, Rel K F μ H d (U.cd k)
  bi : ∀ x, x = ("abs" : Str) ∨ x = ("len" : Str) ∨ x = ("max" : Str) ∨ x = ("min" : Str) ∨ x = ("int" : Str) ∨ x = ("str" : Str) ∨ x = ("repr" : Str) ∨ x = ("tuple" : Str) ∨ x = ("all" : Str) ∨ x = ("any" : Str) ∨ x = ("sum" : Str) ∨ x = ("range" : Str) ∨ x = ("list" : Str) ∨ x = ("dict" : Str) ∨ x = ("enumerate" : Str) ∨ x = ("zip" : Str) → mg x = none
  gcOk : U.gc = true → mg "gcd" = some (.builtin "math.gcd")
  iqOk : U.iq = true → mg "isqrt" = some (.builtin "math.isqrt")
structure Ctx (U : Wd) (n : Nat) (W : WX) (X : Cx) : Prop where
  good : Good X
  calm : X.calm = true
  nd : X.N.Nodup
  tk : Takes X W
  room : Room (3 * n + 3) X.A
  fns : Fns U X.prog X.w X.K X.mg X.base n
  gls : Gls U X.K X.mg
/-- what a call asks -/
theorem call_ok {U : Wd} {n : Nat} {W : WX} {X : Cx} (c : Ctx U n W X) {F : List Addr} {f : Nat} {fd : FDef} (hf : U.Pg f = some fd) {pins : List (Addr × Obj)} {σ : L2.St} {H : Hp} {s : Shared} {Q : VK} {us : List Value} {vs : List V} {ds : List D} {μ : List Addr} {st : DS}
    (I : Inv X pins σ H s) (r : Vals vs us) (S : StRel X.K U.cls F μ H st) (rd : RelL X.K F μ H ds vs) (hl : ds.length = fd.np) (h : Post X.K U.cls U.xf F (rlD X.K F) W σ μ H (callN U.Pg n f ds st) Q) :
    wpAny (model X.prog X.w) X.A (call (.ref (U.fa f)) us) (EP X pins σ Q) X.xe s := by
  obtain ⟨hb, G⟩ := c.fns.ok f fd hf
  refine callG G (c.room.mono (by omega)) c.good.gd hb c.tk I r ⟨F, μ, st, ds, S, rd, by rw [c.gls.np f fd hf]; exact hl, ?_⟩
  generalize callN U.Pg n f ds st = z at h
  cases z with
  | ok d st1 => exact h
  | exc a b st1 => exact h
  | bad => exact h.elim
end MP

set_option Elab.async false
set_option linter.all false
set_option maxRecDepth 100000
set_option maxHeartbeats 4000000
namespace MP
open PySem L2 PyProof.Rows
/-! ### the text, taken apart -/
def asName : Expr → Option Str | .Name x _ => some x | _ => none
def asConst : Expr → Option Const | .Constant c _ _ => some c | _ => none
def asBin : Expr → Option (Expr × Operator × Expr) | .BinOp a o b _ => some (a, o, b) | _ => none
def asUn : Expr → Option (UnaryOp × Expr) | .UnaryOp o a _ => some (o, a) | _ => none
def asBool : Expr → Option (BoolOp × List Expr × Pos) | .BoolOp o es p => some (o, es, p) | _ => none
def asCmp : Expr → Option (Expr × List CmpOp × List Expr) | .Compare a os es _ => some (a, os, es) | _ => none
def asIf : Expr → Option (Expr × Expr × Expr) | .IfExp a b c _ => some (a, b, c) | _ => none
def asTup : Expr → Option (List Expr) | .Tuple es _ _ => some es | _ => none
def asList : Expr → Option (List Expr) | .List es _ => some es | _ => none
def asDict : Expr → Option (List (Option Expr) × List Expr) | .Dict ks vs _ => some (ks, vs) | _ => none
def asSub : Expr → Option (Expr × Expr) | .Subscript a b _ => some (a, b) | _ => none
def asSlice : Expr → Option (Option Expr × Option Expr × Option Expr) | .Slice a b c _ => some (a, b, c) | _ => none
def asCall : Expr → Option (Expr × List Expr × List Keyword × Pos) | .Call f es ks p => some (f, es, ks, p) | _ => none
def asAttr : Expr → Option (Expr × Str × Pos) | .Attribute a f p => some (a, f, p) | _ => none
def asLC : Expr → Option (Expr × List Comprehension × Scope) | .ListComp e gs s _ => some (e, gs, s) | _ => none
def noStar : Expr → Bool | .Starred _ _ => false | _ => true
/-- its test is its value's truth -/
def plainT : Expr → Bool | .UnaryOp .Not _ _ => false | .BoolOp _ _ _ => false | .Compare _ _ _ _ => false | .IfExp _ _ _ _ => false | _ => true
def plainIx : Expr → Bool | .Slice _ _ _ _ => false | _ => true
def plainBase : Expr → Bool | .Call (.Name _ _) [] [] _ => false | _ => true
theorem asName_eq {e : Expr} {x : Str} (h : asName e = some x) : ∃ p, e = .Name x p := by cases e <;> first | (cases h; done) | skip; cases h; exact ⟨_, rfl⟩
theorem asConst_eq {e : Expr} {c : Const} (h : asConst e = some c) : ∃ k p, e = .Constant c k p := by cases e <;> first | (cases h; done) | skip; cases h; exact ⟨_, _, rfl⟩
theorem asBin_eq {e a b : Expr} {o : Operator} (h : asBin e = some (a, o, b)) : ∃ p, e = .BinOp a o b p := by cases e <;> first | (cases h; done) | skip; cases h; exact ⟨_, rfl⟩
theorem asUn_eq {e a : Expr} {o : UnaryOp} (h : asUn e = some (o, a)) : ∃ p, e = .UnaryOp o a p := by cases e <;> first | (cases h; done) | skip; cases h; exact ⟨_, rfl⟩
theorem asBool_eq {e : Expr} {es : List Expr} {o : BoolOp} {p : Pos} (h : asBool e = some (o, es, p)) : e = .BoolOp o es p := by cases e <;> first | (cases h; done) | skip; cases h; rfl
theorem asCmp_eq {e a : Expr} {os : List CmpOp} {es : List Expr} (h : asCmp e = some (a, os, es)) : ∃ p, e = .Compare a os es p := by cases e <;> first | (cases h; done) | skip; cases h; exact ⟨_, rfl⟩
theorem asIf_eq {e a b c : Expr} (h : asIf e = some (a, b, c)) : ∃ p, e = .IfExp a b c p := by cases e <;> first | (cases h; done) | skip; cases h; exact ⟨_, rfl⟩
theorem asTup_eq {e : Expr} {es : List Expr} (h : asTup e = some es) : ∃ k p, e = .Tuple es k p := by cases e <;> first | (cases h; done) | skip; cases h; exact ⟨_, _, rfl⟩
theorem asList_eq {e : Expr} {es : List Expr} (h : asList e = some es) : ∃ p, e = .List es p := by cases e <;> first | (cases h; done) | skip; cases h; exact ⟨_, rfl⟩
theorem asDict_eq {e : Expr} {ks : List (Option Expr)} {vs : List Expr} (h : asDict e = some (ks, vs)) : ∃ p, e = .Dict ks vs p := by cases e <;> first | (cases h; done) | skip; cases h; exact ⟨_, rfl⟩
theorem asSub_eq {e a b : Expr} (h : asSub e = some (a, b)) : ∃ p, e = .Subscript a b p := by cases e <;> first | (cases h; done) | skip; cases h; exact ⟨_, rfl⟩
theorem asSlice_eq {e : Expr} {a b c : Option Expr} (h : asSlice e = some (a, b, c)) : ∃ p, e = .Slice a b c p := by cases e <;> first | (cases h; done) | skip; cases h; exact ⟨_, rfl⟩
theorem asCall_eq {e f : Expr} {es : List Expr} {ks : List Keyword} {p : Pos} (h : asCall e = some (f, es, ks, p)) : e = .Call f es ks p := by cases e <;> first | (cases h; done) | skip; cases h; rfl
theorem asAttr_eq {e a : Expr} {f : Str} {p : Pos} (h : asAttr e = some (a, f, p)) : e = .Attribute a f p := by cases e <;> first | (cases h; done) | skip; cases h; rfl
theorem asLC_eq {e a : Expr} {gs : List Comprehension} {s : Scope} (h : asLC e = some (a, gs, s)) : ∃ p, e = .ListComp a gs s p := by cases e <;> first | (cases h; done) | skip; cases h; exact ⟨_, rfl⟩
theorem star1 {e : Expr} {es : List Expr} {env : PySem.Env} (h : noStar e = true) : starEach (e :: es) env = (false, PySem.eval e env) :: starEach es env := by
  cases e <;> first | rfl | cases h
theorem star_plain {env : PySem.Env} {pos : Pos} : ∀ {es : List Expr}, es.all noStar = true → (backTo pos (starEach es env)).any (·.1) = false
  | [], _ => rfl
  | e :: es, h => by
    simp only [List.all_cons, Bool.and_eq_true] at h
    have ih := star_plain (env := env) (pos := pos) h.2
    rw [star1 h.1]
    show (false || (backTo pos (starEach es env)).any (·.1)) = false
    rw [ih]; rfl
theorem star_all {env : PySem.Env} {pos : Pos} : ∀ {es : List Expr}, es.all noStar = true → (backTo pos (starEach es env)).all (fun x => !x.1) = true
  | [], _ => rfl
  | e :: es, h => by
    simp only [List.all_cons, Bool.and_eq_true] at h
    have ih := star_all (env := env) (pos := pos) h.2
    rw [star1 h.1]
    show (true && (backTo pos (starEach es env)).all (fun x => !x.1)) = true
    rw [ih]; rfl
theorem plainT_eq {e : Expr} {env : PySem.Env} (h : plainT e = true) : ∀ whole, isTrue e env whole = (do let v ← whole; standAt e.pos; holding [v] (truthy v)) := by
  intro whole
  cases e <;> first | rfl | (cases h; done) | skip
  rename_i o a p
  cases o <;> first | rfl | cases h
theorem plainIx_eq {b : Expr} (h : plainIx b = true) : PlainIx b := by
  intro o i
  cases b <;> first | rfl | cases h
theorem plainNo_eq {b : Expr} (h : plainIx b = true) : NoSl b := by
  intro o i
  cases b <;> first | rfl | cases h
theorem plainBase_eq {o : Expr} {m : Str} {env : PySem.Env} {w : Sem Value} (h : plainBase o = true) : attributeBase o m env w = w := by
  unfold attributeBase
  split
  · cases h
  · rfl
/-- weaker readings -/
theorem pe_imp {X : Cx} {e : Expr} {t t' : TE} (h : PE X e t) (i : ∀ σ H Q, t' σ H Q → t σ H Q) : PE X e t' := ⟨fun pins s σ H Q I q => h.run pins s σ H Q I (i σ H Q q)⟩
theorem pt_imp {X : Cx} {e : Expr} {t t' : TT} (h : PT X e t) (i : ∀ σ H Q, t' σ H Q → t σ H Q) : PT X e t' := ⟨fun pins s σ H Q I q => h.run pins s σ H Q I (i σ H Q q)⟩
theorem pa_imp {X : Cx} {e : List Expr} {t t' : TA} (h : PA X e t) (i : ∀ σ H Q, t' σ H Q → t σ H Q) : PA X e t' := ⟨fun pos pins s σ H Q I q => h.run pos pins s σ H Q I (i σ H Q q)⟩
theorem pw_of {X : Cx} {o : BoolOp} {es : List Expr} {p : Pos} {t : TT} (h : PT X (.BoolOp o es p) t) : PW X (.BoolOp o es p) t := ⟨fun _ pins s σ H Q I q => h.run pins s σ H Q I q⟩
def visB (sc : Scope) (x : Str) : Bool := match sc.names.lookup x with | some .local => true | some .cell => true | some .free => true | _ => false
def locB (sc : Scope) (x : Str) : Bool := match sc.names.lookup x with | some .local => true | some .cell => true | _ => false
def glB (sc : Scope) (x : Str) : Bool := match sc.names.lookup x with | some .globalImplicit => true | _ => false
theorem visB_eq {sc : Scope} {x : Str} (h : visB sc x = true) : Vis sc x := by
  unfold visB at h; unfold Vis
  split at h <;> first | exact .inl (by assumption) | exact .inr (.inl (by assumption)) | exact .inr (.inr (by assumption)) | cases h
theorem locB_eq {sc : Scope} {x : Str} (h : locB sc x = true) : L2.Loc sc x := by
  unfold locB at h; unfold L2.Loc
  split at h <;> first | exact .inl (by assumption) | exact .inr (by assumption) | cases h
theorem glB_eq {X : Cx} {x : Str} (h : glB X.env.scope x = true) : Gl X x := by
  unfold glB at h
  split at h
  · rename_i e; exact e
  · cases h
def okNm (x : Str) : Bool := !(x == ("__debug__" : Str)) && !(x == ("__classdict__" : Str))
theorem okNm_eq {x : Str} (h : okNm x = true) : (x == ("__debug__" : Str)) = false ∧ (x == ("__classdict__" : Str)) = false := by
  unfold okNm at h
  simpa only [Bool.and_eq_true, Bool.not_eq_true'] using h
mutual
def eqDD : D → D → Bool
  | .non, .non => true
  | .bl a, .bl b => a == b
  | .int a, .int b => a == b
  | .str a, .str b => decide (a = b)
  | .tup a, .tup b => eqDL a b
  | .lst a, .lst b => eqDL a b
  | _, _ => false
def eqDL : List D → List D → Bool
  | [], [] => true
  | a :: r, b :: s => eqDD a b && eqDL r s
  | _, _ => false
end
mutual
theorem eqDD_eq : ∀ (a b : D), eqDD a b = true → a = b
  | .non, b, h => by cases b <;> first | rfl | simp [eqDD] at h
  | .bl _, b, h => by cases b <;> first | (simp [eqDD] at h; done) | (simp [eqDD] at h; rw [h])
  | .int _, b, h => by cases b <;> first | (simp [eqDD] at h; done) | (simp [eqDD] at h; rw [h])
  | .str _, b, h => by cases b <;> first | (simp [eqDD] at h; done) | (simp [eqDD] at h; rw [h])
  | .tup xs, b, h => by
    cases b <;> first | (simp [eqDD] at h; done) | skip
    rename_i ys
    rw [eqDL_eq xs ys (by simpa [eqDD] using h)]
  | .lst xs, b, h => by
    cases b <;> first | (simp [eqDD] at h; done) | skip
    rename_i ys
    rw [eqDL_eq xs ys (by simpa [eqDD] using h)]
  | .scr xs, b, h => by cases b <;> simp [eqDD] at h
  | .dic xs, b, h => by cases b <;> simp [eqDD] at h
  | .ref xs, b, h => by cases b <;> simp [eqDD] at h
theorem eqDL_eq : ∀ (a b : List D), eqDL a b = true → a = b
  | [], b, h => by cases b <;> first | rfl | simp [eqDL] at h
  | x :: xs, b, h => by
    cases b with
    | nil => simp [eqDL] at h
    | cons y ys =>
      simp only [eqDL, Bool.and_eq_true] at h
      rw [eqDD_eq x y h.1, eqDL_eq xs ys h.2]
end
/-! ### the checker -/
def isMinusOne : Expr → Bool
  | .UnaryOp .USub (.Constant (.int 1) _ _) _ => true
  | _ => false
theorem isMinusOne_eq {e : Expr} (h : isMinusOne e = true) : ∃ k p1 p2, e = .UnaryOp .USub (.Constant (.int 1) k p1) p2 := by
  unfold isMinusOne at h
  split at h
  · exact ⟨_, _, _, rfl⟩
  · cases h
def opB : BOp → Operator → Bool
  | .add, .Add => true | .sub, .Sub => true | .mul, .Mult => true | .fdiv, .FloorDiv => true | .mod, .Mod => true | .pow, .Pow => true | _, _ => false
theorem opB_eq {o : BOp} {p : Operator} (h : opB o p = true) : p = toOp o := by cases o <;> cases p <;> first | rfl | cases h
def cmpB : COp → CmpOp → Bool
  | .eq, .Eq => true | .ne, .NotEq => true | .lt, .Lt => true | .le, .LtE => true | .gt, .Gt => true | .ge, .GtE => true | .inn, .In => true | .nin, .NotIn => true | _, _ => false
theorem cmpB_eq {o : COp} {p : CmpOp} (h : cmpB o p = true) : p = toCmp o := by cases o <;> cases p <;> first | rfl | cases h
def biN : BI → Str
  | .abs => "abs" | .len => "len" | .max => "max" | .min => "min" | .int => "int" | .str => "str" | .repr => "repr" | .gcd => "gcd" | .isqrt => "isqrt" | .tuple => "tuple" | .all => "all" | .any => "any" | .sum => "sum"
def constB : D → Const → Bool
  | .non, .none => true | .bl a, .bool b => a == b | .int a, .int b => a == b | .str a, .str b => decide (a = b) | _, _ => false
end MP

set_option Elab.async false
set_option linter.all false
set_option maxRecDepth 100000
set_option maxHeartbeats 4000000
namespace MP
open PySem L2 PyProof.Rows
theorem Rel.up {K : PySem.W.Frag} {F μ μ' : List Addr} {H H' : Hp} {d : D} {v : V} (r : Rel K F μ H d v) (e : Ext μ μ' H H') : Rel K F μ' H' d v := Rel.mono e d v r
theorem RelL.up {K : PySem.W.Frag} {F μ μ' : List Addr} {H H' : Hp} {d : List D} {v : List V} (r : RelL K F μ H d v) (e : Ext μ μ' H H') : RelL K F μ' H' d v := RelL.mono e d v r
/-- a list comes new, told as it is or as an object -/
theorem newL_ok {K : PySem.W.Frag} {cls : Cl} {xf : Nat → List Str} {F μ : List Addr} {H : Hp} {st : DS} {W : WX} {σ : L2.St} {Q : VK} {m : Bool} {ds : List D} {vs : List V} (S : StRel K cls F μ H st) (r : RelL K F μ H ds vs)
    (h : Post K cls xf F (rlD K F) W σ μ H (newL m ds st) Q) {p : Addr} (hp : H p = none) : Q (.ref p) (upd H p (.lst vs)) := by
  unfold newL at h
  cases m with
  | false => exact h μ _ _ (ext_new hp) (S.new hp) (new_lst S hp r)
  | true =>
    have e : Ext μ (μ ++ [p]) H (upd H p (.lst vs)) := ext_own hp
    refine h _ _ _ e (S.own hp ⟨vs, upd_same, r.up e⟩) (.ref ?_)
    rw [List.getElem?_append_right (by rw [S.len]; exact Nat.le_refl _), S.len, Nat.sub_self]
    rfl
section
variable {U : Wd} {n : Nat} {W : WX} {X : Cx} {F : List Addr}
abbrev TDx (U : Wd) (X : Cx) (F : List Addr) (W : WX) (sem : MP.Env → DS → R D) : TE := TD X.K U.cls U.xf F W sem
abbrev TBx (U : Wd) (X : Cx) (F : List Addr) (W : WX) (sem : MP.Env → DS → R Bool) : TT := TB X.K U.cls U.xf F W sem
abbrev TLx (U : Wd) (X : Cx) (F : List Addr) (W : WX) (sem : MP.Env → DS → R (List D)) : TA := TLs X.K U.cls U.xf F W sem
theorem k_var {i : Nat} {x : Str} {p : Pos} (hN : X.N[i]? = some x) (hv : Vis X.env.scope x) (hd : (x == ("__debug__" : Str)) = false) (hc : (x == ("__classdict__" : Str)) = false) :
    PE X (.Name x p) (TDx U X F W fun ρ st => R.of (getV ρ i) st) :=
  pe_imp (pe_var hN hv hd hc) fun σ H Q ⟨ρ, st, μ, hE, hS, hP⟩ => by
    obtain ⟨d, e, k⟩ := Post.of hP
    obtain ⟨v, a, r⟩ := hE.at e
    exact ⟨v, a, k μ H v .refl hS r⟩
theorem k_lit {d : D} {c : Const} {k : Nat} {p : Pos} (h : constB d c = true) : PE X (.Constant c k p) (TDx U X F W fun _ st => .ok d st) := by
  have go : ∀ v, (∀ μ H, Rel X.K F μ H d v) → PE X (.Constant c k p) (tC v) → PE X (.Constant c k p) (TDx U X F W fun _ st => .ok d st) := fun v hr hp =>
    pe_imp hp fun σ H Q ⟨ρ, st, μ, hE, hS, hP⟩ => hP μ H v .refl hS (hr μ H)
  unfold constB at h
  split at h
  · exact go _ (fun _ _ => .non) pe_non
  · rw [beq_iff_eq] at h; subst h; exact go _ (fun _ _ => .bl _) pe_bl
  · rw [beq_iff_eq] at h; subst h; exact go _ (fun _ _ => .int _) pe_int
  · rw [decide_eq_true_eq] at h; subst h; exact go _ (fun _ _ => .str _) pe_str
  · cases h
theorem k_bin {op : BOp} {a b : Expr} {p : Pos} {sa sb : MP.Env → DS → R D} (ha : PE X a (TDx U X F W sa)) (hb : PE X b (TDx U X F W sb)) :
    PE X (.BinOp a (toOp op) b p) (TDx U X F W fun ρ st => (sa ρ st).bind fun x st1 => (sb ρ st1).bind fun y st2 => R.of (binD op st2 x y) st2) :=
  pe_imp (pe_op (bin_ok (cls := U.cls) (F := F) op) ha hb) fun σ H Q ⟨ρ, st, μ, hE, hS, hP⟩ =>
    RD.bind hE hS hP fun d1 st1 μ1 H1 v1 x1 S1 r1 E1 P1 => RD.bind E1 S1 P1 fun d2 st2 μ2 H2 v2 x2 S2 r2 E2 P2 => by
      obtain ⟨d, e, k⟩ := Post.of P2
      exact ⟨μ2, st2, d1, d2, d, S2, r1.up x2, r2, e, k⟩
theorem k_neg {a : Expr} {p : Pos} {sa : MP.Env → DS → R D} (ha : PE X a (TDx U X F W sa)) :
    PE X (.UnaryOp .USub a p) (TDx U X F W fun ρ st => (sa ρ st).bind fun x st1 => match x with | .int i => .ok (.int (-i)) st1 | _ => .bad) :=
  pe_imp (pe_un un_neg ha) fun σ H Q ⟨ρ, st, μ, hE, hS, hP⟩ => RD.bind hE hS hP fun d1 st1 μ1 H1 v1 x1 S1 r1 E1 P1 => by
    cases d1 <;> first | exact P1.elim | skip
    cases r1
    exact ⟨_, rfl, P1 μ1 H1 _ .refl S1 (.int _)⟩
theorem k_not {a : Expr} {p : Pos} {sa : MP.Env → DS → R D} (ha : PE X a (TDx U X F W sa)) :
    PE X (.UnaryOp .Not a p) (TDx U X F W fun ρ st => (sa ρ st).bind fun x st1 => (R.of (truD st1 x) st1).bind fun k st2 => .ok (.bl (!k)) st2) :=
  pe_imp (pe_notT ha) fun σ H Q ⟨ρ, st, μ, hE, hS, hP⟩ => RD.bind hE hS hP fun d1 st1 μ1 H1 v1 x1 S1 r1 E1 P1 => by
    obtain ⟨k, e, P2⟩ := Post.ofBind P1
    exact ⟨k, tru_rel S1 r1 e, P2 μ1 H1 _ .refl S1 (.bl _)⟩
theorem k_and {a b : Expr} {r : List Expr} {p : Pos} {sa sb : MP.Env → DS → R D} (ha : PE X a (TDx U X F W sa)) (hb : PE X (.BoolOp .And (b :: r) p) (TDx U X F W sb)) :
    PE X (.BoolOp .And (a :: b :: r) p) (TDx U X F W fun ρ st => (sa ρ st).bind fun x st1 => (R.of (truD st1 x) st1).bind fun k st2 => if k then sb ρ st2 else .ok x st2) :=
  pe_imp (pe_andT ha hb) fun σ H Q ⟨ρ, st, μ, hE, hS, hP⟩ => RD.bind hE hS hP fun d1 st1 μ1 H1 v1 x1 S1 r1 E1 P1 => by
    obtain ⟨k, e, P2⟩ := Post.ofBind P1
    refine ⟨k, tru_rel S1 r1 e, ?_⟩
    cases k with
    | true => exact ⟨ρ, st1, μ1, E1, S1, P2⟩
    | false => exact P2 μ1 H1 _ .refl S1 r1
theorem k_or {a b : Expr} {r : List Expr} {p : Pos} {sa sb : MP.Env → DS → R D} (ha : PE X a (TDx U X F W sa)) (hb : PE X (.BoolOp .Or (b :: r) p) (TDx U X F W sb)) :
    PE X (.BoolOp .Or (a :: b :: r) p) (TDx U X F W fun ρ st => (sa ρ st).bind fun x st1 => (R.of (truD st1 x) st1).bind fun k st2 => if k then .ok x st2 else sb ρ st2) :=
  pe_imp (pe_orT ha hb) fun σ H Q ⟨ρ, st, μ, hE, hS, hP⟩ => RD.bind hE hS hP fun d1 st1 μ1 H1 v1 x1 S1 r1 E1 P1 => by
    obtain ⟨k, e, P2⟩ := Post.ofBind P1
    refine ⟨k, tru_rel S1 r1 e, ?_⟩
    cases k with
    | false => exact ⟨ρ, st1, μ1, E1, S1, P2⟩
    | true => exact P2 μ1 H1 _ .refl S1 r1
theorem k_cmp {op : COp} {a b : Expr} {p : Pos} {sa sb : MP.Env → DS → R D} (g : Good X) (ha : PE X a (TDx U X F W sa)) (hb : PE X b (TDx U X F W sb)) (hm : behindInMarks (toCmp op) b = false) :
    PE X (.Compare a [toCmp op] [b] p) (TDx U X F W fun ρ st => (sa ρ st).bind fun x st1 => (sb ρ st1).bind fun y st2 => (R.of (cmpD op st2 x y) st2).bind fun k st3 => .ok (.bl k) st3) :=
  pe_imp (pe_cmpR (cmp_ok (cls := U.cls) (F := F) (by have := g.hu; omega) op) ha hb hm) fun σ H Q ⟨ρ, st, μ, hE, hS, hP⟩ =>
    RD.bind hE hS hP fun d1 st1 μ1 H1 v1 x1 S1 r1 E1 P1 => RD.bind E1 S1 P1 fun d2 st2 μ2 H2 v2 x2 S2 r2 E2 P2 => by
      obtain ⟨k, e, P3⟩ := Post.ofBind P2
      exact ⟨μ2, st2, d1, d2, k, S2, r1.up x2, r2, e, P3 μ2 H2 _ .refl S2 (.bl _)⟩
theorem k_cmpT {op : COp} {a b : Expr} {p : Pos} {sa sb : MP.Env → DS → R D} (g : Good X) (ha : PE X a (TDx U X F W sa)) (hb : PE X b (TDx U X F W sb)) (hm : behindInMarks (toCmp op) b = false) :
    PT X (.Compare a [toCmp op] [b] p) (TBx U X F W fun ρ st => (sa ρ st).bind fun x st1 => (sb ρ st1).bind fun y st2 => R.of (cmpD op st2 x y) st2) :=
  pt_imp (pt_cmpR (cmp_ok (cls := U.cls) (F := F) (by have := g.hu; omega) op) ha hb hm) fun σ H Q ⟨ρ, st, μ, hE, hS, hP⟩ =>
    RD.bind hE hS hP fun d1 st1 μ1 H1 v1 x1 S1 r1 E1 P1 => RD.bind E1 S1 P1 fun d2 st2 μ2 H2 v2 x2 S2 r2 E2 P2 => by
      obtain ⟨k, e, P3⟩ := Post.of P2
      exact ⟨μ2, st2, d1, d2, k, S2, r1.up x2, r2, e, k, rfl, P3 μ2 H2 _ .refl S2 rfl⟩
theorem k_chain {o1 o2 : COp} {a b c : Expr} {p : Pos} {sa sb sc : MP.Env → DS → R D} (g : Good X) (ha : PE X a (TDx U X F W sa)) (hb : PE X b (TDx U X F W sb)) (hc : PE X c (TDx U X F W sc)) (hm : lastMarks [toCmp o1, toCmp o2] [b, c] = false) :
    PE X (.Compare a [toCmp o1, toCmp o2] [b, c] p) (TDx U X F W fun ρ st => (sa ρ st).bind fun x st1 => (sb ρ st1).bind fun y st2 => (R.of (cmpD o1 st2 x y) st2).bind fun k st3 =>
      if k then (sc ρ st3).bind fun z st4 => (R.of (cmpD o2 st4 y z) st4).bind fun k st5 => .ok (.bl k) st5 else .ok (.bl false) st3) :=
  pe_imp (pe_chain (cmp_ok (cls := U.cls) (F := F) (by have := g.hu; omega) o1) (cmp_ok (cls := U.cls) (F := F) (by have := g.hu; omega) o2) ha hb hc hm) fun σ H Q ⟨ρ, st, μ, hE, hS, hP⟩ =>
    RD.bind hE hS hP fun d1 st1 μ1 H1 v1 x1 S1 r1 E1 P1 => RD.bind E1 S1 P1 fun d2 st2 μ2 H2 v2 x2 S2 r2 E2 P2 => by
      obtain ⟨k, e, P3⟩ := Post.ofBind P2
      refine ⟨μ2, st2, d1, d2, k, S2, r1.up x2, r2, e, k, rfl, ?_⟩
      cases k with
      | false => exact P3 μ2 H2 _ .refl S2 (.bl _)
      | true =>
        refine RD.bind E2 S2 P3 fun d3 st3 μ3 H3 v3 x3 S3 r3 E3 P4 => ?_
        obtain ⟨k, e, P5⟩ := Post.ofBind P4
        exact ⟨μ3, st3, d2, d3, k, S3, r2.up x3, r3, e, P5 μ3 H3 _ .refl S3 (.bl _)⟩
theorem k_chainT {o1 o2 : COp} {a b c : Expr} {p : Pos} {sa sb sc : MP.Env → DS → R D} (g : Good X) (ha : PE X a (TDx U X F W sa)) (hb : PE X b (TDx U X F W sb)) (hc : PE X c (TDx U X F W sc)) (hm : lastMarks [toCmp o1, toCmp o2] [b, c] = false) :
    PT X (.Compare a [toCmp o1, toCmp o2] [b, c] p) (TBx U X F W fun ρ st => (sa ρ st).bind fun x st1 => (sb ρ st1).bind fun y st2 => (R.of (cmpD o1 st2 x y) st2).bind fun k st3 =>
      if k then (sc ρ st3).bind fun z st4 => R.of (cmpD o2 st4 y z) st4 else .ok false st3) :=
  pt_imp (pt_chain (cmp_ok (cls := U.cls) (F := F) (by have := g.hu; omega) o1) (cmp_ok (cls := U.cls) (F := F) (by have := g.hu; omega) o2) ha hb hc hm) fun σ H Q ⟨ρ, st, μ, hE, hS, hP⟩ =>
    RD.bind hE hS hP fun d1 st1 μ1 H1 v1 x1 S1 r1 E1 P1 => RD.bind E1 S1 P1 fun d2 st2 μ2 H2 v2 x2 S2 r2 E2 P2 => by
      obtain ⟨k, e, P3⟩ := Post.ofBind P2
      refine ⟨μ2, st2, d1, d2, k, S2, r1.up x2, r2, e, k, rfl, ?_⟩
      cases k with
      | false => exact ⟨false, rfl, P3 μ2 H2 _ .refl S2 rfl⟩
      | true =>
        refine RD.bind E2 S2 P3 fun d3 st3 μ3 H3 v3 x3 S3 r3 E3 P4 => ?_
        obtain ⟨k, e, P5⟩ := Post.of P4
        exact ⟨μ3, st3, d2, d3, k, S3, r2.up x3, r3, e, k, rfl, P5 μ3 H3 _ .refl S3 rfl⟩
theorem isN_rel {K : PySem.W.Frag} {μ : List Addr} {H : Hp} {d : D} {v : V} (r : Rel K F μ H d v) : decide (v = V.non) = isNon d := by
  cases r <;> simp [isNon]
theorem k_isN {ng : Bool} {a : Expr} {o : CmpOp} {k : Nat} {p p2 : Pos} {sa : MP.Env → DS → R D} (ha : PE X a (TDx U X F W sa)) (ho : (match ng, o with | false, .Is => true | true, .IsNot => true | _, _ => false) = true) :
    PE X (.Compare a [o] [.Constant .none k p2] p) (TDx U X F W fun ρ st => (sa ρ st).bind fun x st1 => .ok (.bl (xor ng (isNon x))) st1) := by
  split at ho
  · refine pe_imp (pe_cmp (pc_isN ha)) fun σ H Q ⟨ρ, st, μ, hE, hS, hP⟩ => RD.bind hE hS hP fun d1 st1 μ1 H1 v1 x1 S1 r1 E1 P1 => ?_
    rw [isN_rel r1]
    simpa using P1 μ1 H1 _ .refl S1 (.bl _)
  · refine pe_imp (pe_cmp (pc_notN ha)) fun σ H Q ⟨ρ, st, μ, hE, hS, hP⟩ => RD.bind hE hS hP fun d1 st1 μ1 H1 v1 x1 S1 r1 E1 P1 => ?_
    rw [isN_rel r1]
    simpa using P1 μ1 H1 _ .refl S1 (.bl _)
  · cases ho
theorem k_isNT {ng : Bool} {a : Expr} {o : CmpOp} {k : Nat} {p p2 : Pos} {sa : MP.Env → DS → R D} (ha : PE X a (TDx U X F W sa)) (ho : (match ng, o with | false, .Is => true | true, .IsNot => true | _, _ => false) = true) :
    PT X (.Compare a [o] [.Constant .none k p2] p) (TBx U X F W fun ρ st => (sa ρ st).bind fun x st1 => .ok (xor ng (isNon x)) st1) := by
  split at ho
  · refine pt_imp (pt_cmp (pc_isN ha)) fun σ H Q ⟨ρ, st, μ, hE, hS, hP⟩ => RD.bind hE hS hP fun d1 st1 μ1 H1 v1 x1 S1 r1 E1 P1 => ?_
    rw [isN_rel r1]
    exact ⟨_, rfl, by simpa using P1 μ1 H1 _ .refl S1 rfl⟩
  · refine pt_imp (pt_cmp (pc_notN ha)) fun σ H Q ⟨ρ, st, μ, hE, hS, hP⟩ => RD.bind hE hS hP fun d1 st1 μ1 H1 v1 x1 S1 r1 E1 P1 => ?_
    rw [isN_rel r1]
    exact ⟨_, rfl, by simpa using P1 μ1 H1 _ .refl S1 rfl⟩
  · cases ho
theorem k_ife {c a b : Expr} {p : Pos} {sc : MP.Env → DS → R Bool} {sa sb : MP.Env → DS → R D} (hc : PT X c (TBx U X F W sc)) (ha : PE X a (TDx U X F W sa)) (hb : PE X b (TDx U X F W sb)) :
    PE X (.IfExp c a b p) (TDx U X F W fun ρ st => (sc ρ st).bind fun k st1 => if k then sa ρ st1 else sb ρ st1) :=
  pe_imp (pe_ifExp hc ha hb) fun σ H Q ⟨ρ, st, μ, hE, hS, hP⟩ => RD.bind hE hS hP fun k st1 μ1 H1 k' x1 S1 r1 E1 P1 => by
    cases r1
    cases k with
    | true => exact ⟨ρ, st1, μ1, E1, S1, P1⟩
    | false => exact ⟨ρ, st1, μ1, E1, S1, P1⟩
theorem k_nil : PA X [] (TLx U X F W fun _ st => .ok [] st) := pa_imp pa_nil fun σ H Q ⟨ρ, st, μ, hE, hS, hP⟩ => hP μ H [] .refl hS .nil
theorem k_cons {e : Expr} {es : List Expr} {sa : MP.Env → DS → R D} {sr : MP.Env → DS → R (List D)} (hn : noStar e = true) (ha : PE X e (TDx U X F W sa)) (hr : PA X es (TLx U X F W sr)) :
    PA X (e :: es) (TLx U X F W fun ρ st => (sa ρ st).bind fun x st1 => (sr ρ st1).bind fun xs st2 => .ok (x :: xs) st2) :=
  pa_imp (pa_cons ha hr (star1 hn)) fun σ H Q ⟨ρ, st, μ, hE, hS, hP⟩ => RD.bind hE hS hP fun d1 st1 μ1 H1 v1 x1 S1 r1 E1 P1 => RD.bind E1 S1 P1 fun d2 st2 μ2 H2 v2 x2 S2 r2 E2 P2 =>
    P2 μ2 H2 _ .refl S2 (.cons (r1.up x2) r2)
theorem k_tup {es : List Expr} {k : Nat} {p : Pos} {sr : MP.Env → DS → R (List D)} (hr : PA X es (TLx U X F W sr)) :
    PE X (.Tuple es k p) (TDx U X F W fun ρ st => (sr ρ st).bind fun xs st1 => if xs.length ≤ sizeLine then .ok (.tup xs) st1 else .bad) :=
  pe_imp (pe_tup hr) fun σ H Q ⟨ρ, st, μ, hE, hS, hP⟩ => RD.bind hE hS hP fun ds st1 μ1 H1 vs x1 S1 r1 E1 P1 => by
    split at P1
    · rename_i hl
      exact ⟨by rw [← r1.length]; exact hl, fun q hq => P1 μ1 _ _ (ext_new hq) (S1.new hq) (new_tup S1 hq r1)⟩
    · exact P1.elim
theorem k_lst {m : Bool} {es : List Expr} {p : Pos} {sr : MP.Env → DS → R (List D)} (hr : PA X es (TLx U X F W sr)) :
    PE X (.List es p) (TDx U X F W fun ρ st => (sr ρ st).bind fun xs st1 => if xs.length ≤ sizeLine then newL m xs st1 else .bad) :=
  pe_imp (pe_lst hr) fun σ H Q ⟨ρ, st, μ, hE, hS, hP⟩ => RD.bind hE hS hP fun ds st1 μ1 H1 vs x1 S1 r1 E1 P1 => by
    split at P1
    · rename_i hl
      exact ⟨by rw [← r1.length]; exact hl, fun q hq => newL_ok S1 r1 P1 hq⟩
    · exact P1.elim
theorem k_ix {a b : Expr} {p : Pos} {sa sb : MP.Env → DS → R D} (hi : plainIx b = true) (ha : PE X a (TDx U X F W sa)) (hb : PE X b (TDx U X F W sb)) :
    PE X (.Subscript a b p) (TDx U X F W fun ρ st => (sa ρ st).bind fun x st1 => (sb ρ st1).bind fun y st2 => R.of (ixD st2 x y) st2) :=
  pe_imp (pe_ix (ix_ok (cls := U.cls) (F := F)) ha hb (plainIx_eq hi)) fun σ H Q ⟨ρ, st, μ, hE, hS, hP⟩ =>
    RD.bind hE hS hP fun d1 st1 μ1 H1 v1 x1 S1 r1 E1 P1 => RD.bind E1 S1 P1 fun d2 st2 μ2 H2 v2 x2 S2 r2 E2 P2 => by
      obtain ⟨d, e, k⟩ := Post.of P2
      exact ⟨μ2, st2, d1, d2, d, S2, r1.up x2, r2, e, fun v r => k μ2 H2 v .refl S2 r⟩
/-- a dict asked -/
theorem dixD_some {st : DS} {x y d : D} (h : dixD st x y = some d) : ∃ kvs k l, dicD st x = some kvs ∧ keyOf y = some k ∧ keysOf kvs = some l ∧ findK k l = some d := by
  unfold dixD at h
  split at h
  · rename_i kvs k e1 e2
    split at h
    · rename_i l e3
      exact ⟨kvs, k, l, e1, e2, e3, h⟩
    · cases h
  · cases h
theorem dinD_some {st : DS} {x y : D} {b : Bool} (h : dinD st x y = some b) : ∃ kvs k l, dicD st y = some kvs ∧ keyOf x = some k ∧ keysOf kvs = some l ∧ (findK k l).isSome = b := by
  unfold dinD at h
  split at h
  · rename_i kvs k e1 e2
    split at h
    · rename_i l e3
      cases h
      exact ⟨kvs, k, l, e1, e2, e3, rfl⟩
    · cases h
  · cases h
theorem k_dix {a b : Expr} {p : Pos} {sa sb : MP.Env → DS → R D} (g : Good X) (hi : plainIx b = true) (ha : PE X a (TDx U X F W sa)) (hb : PE X b (TDx U X F W sb)) :
    PE X (.Subscript a b p) (TDx U X F W fun ρ st => (sa ρ st).bind fun x st1 => (sb ρ st1).bind fun y st2 => R.of (dixD st2 x y) st2) :=
  pe_imp (pe_dget (by have := g.hu; omega) ha hb (plainNo_eq hi)) fun σ H Q ⟨ρ, st, μ, hE, hS, hP⟩ =>
    RD.bind hE hS hP fun d1 st1 μ1 H1 v1 x1 S1 r1 E1 P1 => RD.bind E1 S1 P1 fun d2 st2 μ2 H2 v2 x2 S2 r2 E2 P2 => by
      obtain ⟨d, e, k⟩ := Post.of P2
      obtain ⟨kvs, key, l, h1, h2, h3, h4⟩ := dixD_some e
      obtain ⟨a', o, rfl, hg, _, hz⟩ := dget_rel S2 (r1.up x2) r2 h1 h2 h3
      rcases hz with ⟨z, _⟩ | ⟨d', w, z1, z2, z3⟩
      · rw [h4] at z; cases z
      · rw [h4] at z1; cases z1
        subst z2
        exact ⟨a', w, rfl, hg, k μ2 H2 w .refl S2 z3⟩
theorem k_din {ng : Bool} {a b : Expr} {o : CmpOp} {p : Pos} {sa sb : MP.Env → DS → R D} (g : Good X) (ha : PE X a (TDx U X F W sa)) (hb : PE X b (TDx U X F W sb)) (ho : (match ng, o with | false, .In => true | true, .NotIn => true | _, _ => false) = true) (hm : behindInMarks o b = false) :
    PE X (.Compare a [o] [b] p) (TDx U X F W fun ρ st => (sa ρ st).bind fun x st1 => (sb ρ st1).bind fun y st2 => (R.of (dinD st2 x y) st2).bind fun k st3 => .ok (.bl (xor ng k)) st3) := by
  have key : ∀ σ H Q ρ st μ, EnvRel X.K F μ H ρ σ → StRel X.K U.cls F μ H st → Post X.K U.cls U.xf F (rlD X.K F) W σ μ H ((sa ρ st).bind fun x st1 => (sb ρ st1).bind fun y st2 => (R.of (dinD st2 x y) st2).bind fun k st3 => .ok (.bl (xor ng k)) st3) Q →
      TDx U X F W sa σ H fun y H1 => TDx U X F W sb σ H1 fun x H2 => ∃ a o, x = .ref a ∧ DGet H2 a y o ∧ Q (.bl (xor ng o.isSome)) H2 := fun σ H Q ρ st μ hE hS hP =>
    RD.bind hE hS hP fun d1 st1 μ1 H1 v1 x1 S1 r1 E1 P1 => RD.bind E1 S1 P1 fun d2 st2 μ2 H2 v2 x2 S2 r2 E2 P2 => by
      obtain ⟨k, e, P3⟩ := Post.ofBind P2
      obtain ⟨kvs, key, l, h1, h2, h3, h4⟩ := dinD_some e
      obtain ⟨a', o, rfl, hg, _, hz⟩ := dget_rel S2 r2 (r1.up x2) h1 h2 h3
      refine ⟨a', o, rfl, hg, ?_⟩
      have eo : o.isSome = k := by
        rcases hz with ⟨z1, z2⟩ | ⟨d', w, z1, z2, z3⟩
        · rw [z2, ← h4, z1]; rfl
        · rw [z2, ← h4, z1]; rfl
      rw [eo]
      exact P3 μ2 H2 _ .refl S2 (.bl _)
  split at ho
  · refine pe_imp (pe_cmp (pc_din (by have := g.hu; omega) ha hb) hm) fun σ H Q ⟨ρ, st, μ, hE, hS, hP⟩ => ?_
    have z := key σ H Q ρ st μ hE hS hP
    simp only [Bool.false_xor] at z
    exact z
  · refine pe_imp (pe_cmp (pc_dnotin (by have := g.hu; omega) ha hb) hm) fun σ H Q ⟨ρ, st, μ, hE, hS, hP⟩ => ?_
    have z := key σ H Q ρ st μ hE hS hP
    simp only [Bool.true_xor] at z
    exact z
  · cases ho
theorem k_dinT {ng : Bool} {a b : Expr} {o : CmpOp} {p : Pos} {sa sb : MP.Env → DS → R D} (g : Good X) (ha : PE X a (TDx U X F W sa)) (hb : PE X b (TDx U X F W sb)) (ho : (match ng, o with | false, .In => true | true, .NotIn => true | _, _ => false) = true) (hm : behindInMarks o b = false) :
    PT X (.Compare a [o] [b] p) (TBx U X F W fun ρ st => (sa ρ st).bind fun x st1 => (sb ρ st1).bind fun y st2 => (R.of (dinD st2 x y) st2).bind fun k st3 => .ok (xor ng k) st3) := by
  have key : ∀ σ H Q ρ st μ, EnvRel X.K F μ H ρ σ → StRel X.K U.cls F μ H st → Post X.K U.cls U.xf F rlB W σ μ H ((sa ρ st).bind fun x st1 => (sb ρ st1).bind fun y st2 => (R.of (dinD st2 x y) st2).bind fun k st3 => .ok (xor ng k) st3) Q →
      TDx U X F W sa σ H fun y H1 => TDx U X F W sb σ H1 fun x H2 => ∃ a o, x = .ref a ∧ DGet H2 a y o ∧ ∃ c, V.bl (xor ng o.isSome) = V.bl c ∧ Q c H2 := fun σ H Q ρ st μ hE hS hP =>
    RD.bind hE hS hP fun d1 st1 μ1 H1 v1 x1 S1 r1 E1 P1 => RD.bind E1 S1 P1 fun d2 st2 μ2 H2 v2 x2 S2 r2 E2 P2 => by
      obtain ⟨k, e, P3⟩ := Post.ofBind P2
      obtain ⟨kvs, key, l, h1, h2, h3, h4⟩ := dinD_some e
      obtain ⟨a', o, rfl, hg, _, hz⟩ := dget_rel S2 r2 (r1.up x2) h1 h2 h3
      refine ⟨a', o, rfl, hg, ?_⟩
      have eo : o.isSome = k := by
        rcases hz with ⟨z1, z2⟩ | ⟨d', w, z1, z2, z3⟩
        · rw [z2, ← h4, z1]; rfl
        · rw [z2, ← h4, z1]; rfl
      rw [eo]
      exact ⟨_, rfl, P3 μ2 H2 _ .refl S2 rfl⟩
  split at ho
  · refine pt_imp (pt_cmp (pc_din (by have := g.hu; omega) ha hb) hm) fun σ H Q ⟨ρ, st, μ, hE, hS, hP⟩ => ?_
    have z := key σ H Q ρ st μ hE hS hP
    simp only [Bool.false_xor] at z
    exact z
  · refine pt_imp (pt_cmp (pc_dnotin (by have := g.hu; omega) ha hb) hm) fun σ H Q ⟨ρ, st, μ, hE, hS, hP⟩ => ?_
    have z := key σ H Q ρ st μ hE hS hP
    simp only [Bool.true_xor] at z
    exact z
  · cases ho
theorem k_call (c : Ctx U n W X) {f : Nat} {fd : FDef} {x : Expr} {xs : List Expr} {p pos : Pos} {sr : MP.Env → DS → R (List D)} (hf : U.Pg f = some fd) (hgl : fd.gl = true) (hg : Gl X fd.nm) (hd : (fd.nm == ("__debug__" : Str)) = false)
    (hn : (x :: xs).all noStar = true) (hr : PA X (x :: xs) (TLx U X F W sr)) (hl : ∀ ρ st ds st1, sr ρ st = .ok ds st1 → ds.length = fd.np) :
    PE X (.Call (.Name fd.nm p) (x :: xs) [] pos) (TDx U X F W fun ρ st => (sr ρ st).bind fun ds st1 => callN U.Pg n f ds st1) := by
  refine ⟨fun pins s σ H Q I ⟨ρ, st, μ, hE, hS, hP⟩ => ?_⟩
  obtain ⟨hm, hk⟩ := c.gls.fn f fd hf hgl
  have hn' := hn
  simp only [List.all_cons, Bool.and_eq_true] at hn'
  refine wpAny_Call_Name_kw (ld_glob I hg hm ?_ hd)
  have q : TLx U X F W sr σ H fun vs H1 => ∃ μ1 st1 ds, StRel X.K U.cls F μ1 H1 st1 ∧ RelL X.K F μ1 H1 ds vs ∧ ds.length = fd.np ∧ Post X.K U.cls U.xf F (rlD X.K F) W σ μ1 H1 (callN U.Pg n f ds st1) Q := by
    refine ⟨ρ, st, μ, hE, hS, ?_⟩
    have hP : Post X.K U.cls U.xf F (rlD X.K F) W σ μ H ((sr ρ st).bind fun ds st1 => callN U.Pg n f ds st1) Q := hP
    cases e : sr ρ st with
    | ok ds st1 =>
      rw [e] at hP
      exact fun μ1 H1 vs x1 S1 r1 => ⟨μ1, st1, ds, S1, r1, hl ρ st ds st1 e, Post.shift x1 hP⟩
    | exc a b st1 => rw [e] at hP; exact hP
    | bad => rw [e] at hP; exact hP.elim
  refine PySem.W.callWith_K (h₀ := X.base) I.ok.mod.kin hk (thn (hr.run pos pins s σ H _ I q) fun us s1 ⟨vs, H1, I1, r, μ1, st1, ds, S1, rd, l1, P1⟩ => ⟨I1.kIn, ?_⟩) (star1 hn'.1) (star_plain hn'.2)
  exact call_ok c hf I1 r S1 rd l1 P1
end
end MP

set_option Elab.async false
set_option linter.all false
set_option maxRecDepth 100000
set_option maxHeartbeats 4000000
namespace MP
open PySem L2 PyProof.Rows
section
variable {U : Wd} {n : Nat} {W : WX} {X : Cx} {F : List Addr}
/-! ### built-ins -/
def biM (mg : Str → Option Value) : BI → Prop
  | .gcd => mg "gcd" = some (.builtin "math.gcd")
  | .isqrt => mg "isqrt" = some (.builtin "math.isqrt")
  | _ => True
theorem k_bi (c : Ctx U n W X) {b : BI} {x : Expr} {xs : List Expr} {p pos : Pos} {sr : MP.Env → DS → R (List D)} (hg : Gl X (biN b)) (hm : biM X.mg b)
    (hn : (x :: xs).all noStar = true) (hr : PA X (x :: xs) (TLx U X F W sr)) :
    PE X (.Call (.Name (biN b) p) (x :: xs) [] pos) (TDx U X F W fun ρ st => (sr ρ st).bind fun ds st1 => R.of (biD b st1 ds) st1) := by
  have hn' := hn
  simp only [List.all_cons, Bool.and_eq_true] at hn'
  have s1 : starEach (x :: xs) X.env = (false, PySem.eval x X.env) :: starEach xs X.env := star1 hn'.1
  have s2 : (backTo pos (starEach xs X.env)).any (·.1) = false := star_plain hn'.2
  have cr := bi_ok (cls := U.cls) (F := F) c.good c.calm b
  have imp : ∀ σ H Q, TDx U X F W (fun ρ st => (sr ρ st).bind fun ds st1 => R.of (biD b st1 ds) st1) σ H Q → tCB (rBi X.K U.cls F b) (TLx U X F W sr) σ H Q := fun σ H Q ⟨ρ, st, μ, hE, hS, hP⟩ =>
    RD.bind hE hS hP fun ds st1 μ1 H1 vs x1 S1 r1 E1 P1 => by
      obtain ⟨d, e, k⟩ := Post.of P1
      exact ⟨μ1, st1, ds, d, S1, r1, e, k⟩
  cases b with
  | abs => exact pe_imp (pe_callB cr hg (c.gls.bi _ (by simp [biN])) (by decide +kernel) hr (he := s1) (hpl := s2)) imp
  | len => exact pe_imp (pe_callB cr hg (c.gls.bi _ (by simp [biN])) (by decide +kernel) hr (he := s1) (hpl := s2)) imp
  | max => exact pe_imp (pe_callB cr hg (c.gls.bi _ (by simp [biN])) (by decide +kernel) hr (he := s1) (hpl := s2)) imp
  | min => exact pe_imp (pe_callB cr hg (c.gls.bi _ (by simp [biN])) (by decide +kernel) hr (he := s1) (hpl := s2)) imp
  | int => exact pe_imp (pe_callTy cr hg (c.gls.bi _ (by simp [biN])) (by decide +kernel) hr (he := s1) (hpl := s2)) imp
  | str => exact pe_imp (pe_callTy cr hg (c.gls.bi _ (by simp [biN])) (by decide +kernel) hr (he := s1) (hpl := s2)) imp
  | repr => exact pe_imp (pe_callB cr hg (c.gls.bi _ (by simp [biN])) (by decide +kernel) hr (he := s1) (hpl := s2)) imp
  | gcd => exact pe_imp (pe_callBfun cr hg hm hr (he := s1) (hpl := s2)) imp
  | isqrt => exact pe_imp (pe_callBfun cr hg hm hr (he := s1) (hpl := s2)) imp
  | tuple => exact pe_imp (pe_callTy cr hg (c.gls.bi _ (by simp [biN])) (by decide +kernel) hr (he := s1) (hpl := s2)) imp
  | all => exact pe_imp (pe_callB cr hg (c.gls.bi _ (by simp [biN])) (by decide +kernel) hr (he := s1) (hpl := s2)) imp
  | any => exact pe_imp (pe_callB cr hg (c.gls.bi _ (by simp [biN])) (by decide +kernel) hr (he := s1) (hpl := s2)) imp
  | sum => exact pe_imp (pe_callB cr hg (c.gls.bi _ (by simp [biN])) (by decide +kernel) hr (he := s1) (hpl := s2)) imp
/-- list(x) -/
theorem k_newl (c : Ctx U n W X) {m : Bool} {x : Expr} {p pos : Pos} {sa : MP.Env → DS → R D} (hg : Gl X "list") (hn : noStar x = true) (ha : PE X x (TDx U X F W sa)) :
    PE X (.Call (.Name "list" p) [x] [] pos) (TDx U X F W fun ρ st => (sa ρ st).bind fun x st1 => match seqD st1 x with | some xs => newL m xs st1 | none => .bad) := by
  refine pe_imp (pe_callTy call_list_of hg (c.gls.bi _ (by simp)) (by decide +kernel) (pa_cons ha pa_nil (star1 hn)) (he := star1 hn) (hpl := rfl)) fun σ H Q ⟨ρ, st, μ, hE, hS, hP⟩ =>
    RD.bind hE hS hP fun d st1 μ1 H1 v x1 S1 r1 E1 P1 => ?_
  split at P1
  · rename_i xs hs
    obtain ⟨a, vs, rfl, r2, sq⟩ := seq_rel S1 r1 hs
    exact ⟨a, vs, rfl, sq, fun q hq => newL_ok S1 r2 P1 hq⟩
  · exact P1.elim
/-! ### slices -/
def TOx (U : Wd) (X : Cx) (F : List Addr) (W : WX) (sem : MP.Env → DS → R (Option Int)) : TO := RD X.K U.cls U.xf F rlO W sem
theorem k_onone : PO X none (TOx U X F W fun _ st => .ok none st) := ⟨fun pins s σ H Q I ⟨ρ, st, μ, hE, hS, hP⟩ => po_none.run pins s σ H Q I (hP μ H none .refl hS rfl)⟩
theorem k_osome {e : Expr} {sa : MP.Env → DS → R D} (ha : PE X e (TDx U X F W sa)) : PO X (some e) (TOx U X F W fun ρ st => (sa ρ st).bind fun x st1 => match x with | .int i => .ok (some i) st1 | _ => .bad) :=
  ⟨fun pins s σ H Q I ⟨ρ, st, μ, hE, hS, hP⟩ => (po_some ha).run pins s σ H Q I (RD.bind hE hS hP fun d st1 μ1 H1 v x1 S1 r1 E1 P1 => by
    cases d <;> first | exact P1.elim | skip
    cases r1
    exact ⟨_, rfl, P1 μ1 H1 _ .refl S1 rfl⟩)⟩
theorem cutD_whole {xs : List D} {l h : Option Int} (e : HT.sIx xs.length 0 l = 0 ∧ HT.sIx xs.length xs.length h = xs.length) : cutD xs l h = xs := by
  unfold cutD
  rw [e.1, e.2]
  simp
theorem k_sl {m : Bool} {a : Expr} {lo hi : Option Expr} {p p2 : Pos} {sa : MP.Env → DS → R D} {sl sh : MP.Env → DS → R (Option Int)} (ha : PE X a (TDx U X F W sa)) (hl : PO X lo (TOx U X F W sl)) (hh : PO X hi (TOx U X F W sh)) :
    PE X (.Subscript a (.Slice lo hi none p2) p) (TDx U X F W fun ρ st => (sa ρ st).bind fun x st1 => (sl ρ st1).bind fun l st2 => (sh ρ st2).bind fun h st3 => slD m x l h st3) := by
  refine pe_imp (pe_slice (sl_tupA.or (sl_list.or sl_str)) ha hl hh) fun σ H Q ⟨ρ, st, μ, hE, hS, hP⟩ => RD.bind hE hS hP fun d st1 μ1 H1 v x1 S1 r1 E1 P1 => RD.bind E1 S1 P1 fun l st2 μ2 H2 l' x2 S2 r2 E2 P2 =>
    RD.bind E2 S2 P2 fun h st3 μ3 H3 h' x3 S3 r3 E3 P3 => ?_
  cases r2; cases r3
  have rd := (r1.up x2).up x3
  unfold slD at P3
  split at P3
  · rename_i xs
    cases m with
    | true => exact P3.elim
    | false =>
      obtain ⟨b, vs, rfl, sq, r4⟩ := tupD_rel rd
      refine .inl ⟨b, vs, rfl, sq, fun hw => ?_, fun hw q hq => ?_⟩
      · rw [← r4.length] at hw
        rw [cutD_whole hw] at P3
        exact P3 μ3 H3 _ .refl S3 rd
      · exact P3 μ3 _ _ (ext_new hq) (S3.new hq) (new_tup S3 hq (cut_rel r4 l h))
  · rename_i z
    cases m with
    | true => exact P3.elim
    | false =>
      split at P3
      · cases P3
      · split at P3
        · rename_i hz
          cases rd
          exact .inr (.inr ⟨z, rfl, hz, P3 μ3 H3 _ .refl S3 (.str _)⟩)
        · exact P3.elim
  · split at P3
    · rename_i xs hs
      obtain ⟨b, vs, rfl, r4, sq⟩ := lis_rel S3 rd hs
      exact .inr (.inl ⟨b, vs, rfl, sq, fun q hq => newL_ok S3 (cut_rel r4 l h) P3 hq⟩)
    · exact P3.elim
theorem k_rev {m : Bool} {a : Expr} {k : Nat} {p1 p2 p3 p : Pos} {sa : MP.Env → DS → R D} (ha : PE X a (TDx U X F W sa)) :
    PE X (.Subscript a (.Slice none none (some (.UnaryOp .USub (.Constant (.int 1) k p1) p2)) p3) p) (TDx U X F W fun ρ st => (sa ρ st).bind fun x st1 => match lisD st1 x with | some xs => newL m xs.reverse st1 | none => .bad) :=
  pe_imp (pe_revL ha) fun σ H Q ⟨ρ, st, μ, hE, hS, hP⟩ => RD.bind hE hS hP fun d st1 μ1 H1 v x1 S1 r1 E1 P1 => by
    split at P1
    · rename_i xs hs
      obtain ⟨b, vs, rfl, r4, sq⟩ := lis_rel S1 r1 hs
      exact ⟨b, vs, rfl, sq, fun q hq => newL_ok S1 r4.reverse P1 hq⟩
    · exact P1.elim
end
end MP

set_option Elab.async false
set_option linter.all false
set_option maxRecDepth 100000
set_option maxHeartbeats 4000000
namespace MP
open PySem L2 PyProof.Rows
/-! ### a place of one's own, while something is made there -/
/-- what stands at D while it grows -/
def Grows (o : HO) : Prop := (∃ l, o = .lst l) ∨ ∃ l, o = .dK l
section
variable {K : PySem.W.Frag} {cls : Cl} {F μ μ' : List Addr} {H H' : Hp} {st : DS} {ρ : MP.Env} {σ : L2.St} {D₀ : Addr}
mutual
/-- a new place is set apart -/
theorem Rel.addF (hD : H D₀ = none) : ∀ (d : D) (v : V), Rel K F μ H d v → Rel K (D₀ :: F) μ H d v
  | .non, _, h => by cases h; exact .non
  | .bl _, _, h => by cases h; exact .bl _
  | .int _, _, h => by cases h; exact .int _
  | .str _, _, h => by cases h; exact .str _
  | .tup ds, _, h => by
    cases h with
    | tup h1 h2 h3 => exact .tup h1 h2 (RelL.addF hD ds _ h3)
    | tupK h1 h3 => exact .tupK h1 (RelL.addF hD ds _ h3)
  | .lst ds, _, h => by
    cases h with
    | lst h1 h2 h4 h3 => exact .lst h1 h2 (by simp only [List.mem_cons, not_or]; exact ⟨ne_of_none h1 hD, h4⟩) (RelL.addF hD ds _ h3)
  | .scr ds, _, h => by
    cases h with
    | scr h1 h2 h3 => exact .scr h1 h2 (RelL.addF hD ds _ h3)
    | scrK h1 h3 => exact .scrK h1 (RelL.addF hD ds _ h3)
  | .dic kvs, _, h => by
    cases h with
    | dic h1 h2 h4 h3 => exact .dic h1 h2 (by simp only [List.mem_cons, not_or]; exact ⟨ne_of_none h1 hD, h4⟩) (RelP.addF hD kvs _ h3)
  | .ref n, _, h => by
    cases h with
    | ref h1 => exact .ref h1
theorem RelL.addF (hD : H D₀ = none) : ∀ (ds : List D) (vs : List V), RelL K F μ H ds vs → RelL K (D₀ :: F) μ H ds vs
  | [], _, h => by cases h; exact .nil
  | d :: ds, _, h => by
    cases h with
    | cons h1 h2 => exact .cons (Rel.addF hD d _ h1) (RelL.addF hD ds _ h2)
theorem RelP.addF (hD : H D₀ = none) : ∀ (ds : List (D × D)) (vs : List (Key × V)), RelP K F μ H ds vs → RelP K (D₀ :: F) μ H ds vs
  | [], _, h => by cases h; exact .nil
  | (k, d) :: ds, _, h => by
    cases h with
    | cons h0 h1 h2 => exact .cons h0 (Rel.addF hD d _ h1) (RelP.addF hD ds _ h2)
end
mutual
/-- the place is no longer set apart -/
theorem Rel.lessF : ∀ (d : D) (v : V), Rel K (D₀ :: F) μ H d v → Rel K F μ H d v
  | .non, _, h => by cases h; exact .non
  | .bl _, _, h => by cases h; exact .bl _
  | .int _, _, h => by cases h; exact .int _
  | .str _, _, h => by cases h; exact .str _
  | .tup ds, _, h => by
    cases h with
    | tup h1 h2 h3 => exact .tup h1 h2 (RelL.lessF ds _ h3)
    | tupK h1 h3 => exact .tupK h1 (RelL.lessF ds _ h3)
  | .lst ds, _, h => by
    cases h with
    | lst h1 h2 h4 h3 => exact .lst h1 h2 (fun z => h4 (List.mem_cons_of_mem _ z)) (RelL.lessF ds _ h3)
  | .scr ds, _, h => by
    cases h with
    | scr h1 h2 h3 => exact .scr h1 h2 (RelL.lessF ds _ h3)
    | scrK h1 h3 => exact .scrK h1 (RelL.lessF ds _ h3)
  | .dic kvs, _, h => by
    cases h with
    | dic h1 h2 h4 h3 => exact .dic h1 h2 (fun z => h4 (List.mem_cons_of_mem _ z)) (RelP.lessF kvs _ h3)
  | .ref n, _, h => by
    cases h with
    | ref h1 => exact .ref h1
theorem RelL.lessF : ∀ (ds : List D) (vs : List V), RelL K (D₀ :: F) μ H ds vs → RelL K F μ H ds vs
  | [], _, h => by cases h; exact .nil
  | d :: ds, _, h => by
    cases h with
    | cons h1 h2 => exact .cons (Rel.lessF d _ h1) (RelL.lessF ds _ h2)
theorem RelP.lessF : ∀ (ds : List (D × D)) (vs : List (Key × V)), RelP K (D₀ :: F) μ H ds vs → RelP K F μ H ds vs
  | [], _, h => by cases h; exact .nil
  | (k, d) :: ds, _, h => by
    cases h with
    | cons h0 h1 h2 => exact .cons h0 (Rel.lessF d _ h1) (RelP.lessF ds _ h2)
end
/-- the heap with another thing at D -/
structure Chg (F μ : List Addr) (H H' : Hp) (D₀ : Addr) : Prop where
  old : ∃ o, H D₀ = some o ∧ Grows o
  ne : ∀ a, a ≠ D₀ → H' a = H a
mutual
theorem Rel.chg (c : Chg F μ H H' D₀) : ∀ (d : D) (v : V), Rel K (D₀ :: F) μ H d v → Rel K (D₀ :: F) μ H' d v
  | .non, _, h => by cases h; exact .non
  | .bl _, _, h => by cases h; exact .bl _
  | .int _, _, h => by cases h; exact .int _
  | .str _, _, h => by cases h; exact .str _
  | .tup ds, _, h => by
    cases h with
    | tup h1 h2 h3 =>
      refine .tup ((c.ne _ fun z => ?_).trans h1) h2 (RelL.chg c ds _ h3)
      obtain ⟨o, e, g⟩ := c.old
      rw [z, e] at h1
      cases h1
      rcases g with ⟨l, q⟩ | ⟨l, q⟩ <;> cases q
    | tupK h1 h3 => exact .tupK h1 (RelL.chg c ds _ h3)
  | .lst ds, _, h => by
    cases h with
    | lst h1 h2 h4 h3 => exact .lst ((c.ne _ fun z => h4 (z ▸ List.mem_cons_self)).trans h1) h2 h4 (RelL.chg c ds _ h3)
  | .scr ds, _, h => by
    cases h with
    | scr h1 h2 h3 =>
      refine .scr ((c.ne _ fun z => ?_).trans h1) h2 (RelL.chg c ds _ h3)
      obtain ⟨o, e, g⟩ := c.old
      rw [z, e] at h1
      cases h1
      rcases g with ⟨l, q⟩ | ⟨l, q⟩ <;> cases q
    | scrK h1 h3 => exact .scrK h1 (RelL.chg c ds _ h3)
  | .dic kvs, _, h => by
    cases h with
    | dic h1 h2 h4 h3 => exact .dic ((c.ne _ fun z => h4 (z ▸ List.mem_cons_self)).trans h1) h2 h4 (RelP.chg c kvs _ h3)
  | .ref n, _, h => by
    cases h with
    | ref h1 => exact .ref h1
theorem RelL.chg (c : Chg F μ H H' D₀) : ∀ (ds : List D) (vs : List V), RelL K (D₀ :: F) μ H ds vs → RelL K (D₀ :: F) μ H' ds vs
  | [], _, h => by cases h; exact .nil
  | d :: ds, _, h => by
    cases h with
    | cons h1 h2 => exact .cons (Rel.chg c d _ h1) (RelL.chg c ds _ h2)
theorem RelP.chg (c : Chg F μ H H' D₀) : ∀ (ds : List (D × D)) (vs : List (Key × V)), RelP K (D₀ :: F) μ H ds vs → RelP K (D₀ :: F) μ H' ds vs
  | [], _, h => by cases h; exact .nil
  | (k, d) :: ds, _, h => by
    cases h with
    | cons h0 h1 h2 => exact .cons h0 (Rel.chg c d _ h1) (RelP.chg c ds _ h2)
end
theorem EnvRel.addF (hD : H D₀ = none) (r : EnvRel K F μ H ρ σ) : EnvRel K (D₀ :: F) μ H ρ σ := ⟨r.1, fun i d h => by
  obtain ⟨v, a, b⟩ := r.2 i d h
  exact ⟨v, a, Rel.addF hD d v b⟩⟩
theorem EnvRel.lessF (r : EnvRel K (D₀ :: F) μ H ρ σ) : EnvRel K F μ H ρ σ := ⟨r.1, fun i d h => by
  obtain ⟨v, a, b⟩ := r.2 i d h
  exact ⟨v, a, Rel.lessF d v b⟩⟩
theorem EnvRel.chg (c : Chg F μ H H' D₀) (r : EnvRel K (D₀ :: F) μ H ρ σ) : EnvRel K (D₀ :: F) μ H' ρ σ := ⟨r.1, fun i d h => by
  obtain ⟨v, a, b⟩ := r.2 i d h
  exact ⟨v, a, Rel.chg c d v b⟩⟩
theorem ObRel.map {F' : List Addr} {a : Addr} {ob : Ob} (x : ObRel K cls F μ H a ob) (ha : H' a = H a) (fL : ∀ ds vs, RelL K F μ H ds vs → RelL K F' μ' H' ds vs) (fP : ∀ ds vs, RelP K F μ H ds vs → RelP K F' μ' H' ds vs) (fR : ∀ d v, Rel K F μ H d v → Rel K F' μ' H' d v) :
    ObRel K cls F' μ' H' a ob := by
  cases ob with
  | lst ds => obtain ⟨vs, p, q⟩ := x; exact ⟨vs, ha.trans p, fL _ _ q⟩
  | dic kvs => obtain ⟨vs, p, q⟩ := x; exact ⟨vs, ha.trans p, fP _ _ q⟩
  | ins c fs => obtain ⟨dx, l, p, q⟩ := x; exact ⟨dx, l, ha.trans p, Paired.mapP q fun a b z => ⟨z.1, fR _ _ z.2⟩⟩
/-- a place is laid and set apart -/
theorem StRel.lay (S : StRel K cls F μ H st) (hD : H D₀ = none) (o : HO) : StRel K cls (D₀ :: F) μ (upd H D₀ o) st := by
  have S1 := S.new (o := o) hD
  refine ⟨S.len, S.nd, fun n a hn => ?_, fun a ha => ?_, fun a ha => ?_, S1.tb⟩
  · obtain ⟨ob, e, r⟩ := S.obj n a hn
    have e1 : Ext μ μ H (upd H D₀ o) := ext_new hD
    have ha : upd H D₀ o a = H a := upd_ne fun z => S.fresh hD (z ▸ List.mem_of_getElem? hn)
    refine ⟨ob, e, r.map ha (fun ds vs q => RelL.mono e1 _ _ (RelL.addF hD ds vs q)) (fun ds vs q => RelP.mono e1 _ _ (RelP.addF hD ds vs q)) fun d v q => Rel.mono e1 _ _ (Rel.addF hD d v q)⟩
  · simp only [List.mem_cons, not_or]
    exact ⟨fun z => S.fresh hD (z ▸ ha), S.dis a ha⟩
  · rcases List.mem_cons.mp ha with z | z
    · rw [z, upd_same]; exact fun q => nomatch q
    · exact S1.fl a z
theorem StRel.lessF (S : StRel K cls (D₀ :: F) μ H st) : StRel K cls F μ H st :=
  ⟨S.len, S.nd, fun n a hn => by
    obtain ⟨ob, e, r⟩ := S.obj n a hn
    exact ⟨ob, e, r.map rfl (fun ds vs => RelL.lessF ds vs) (fun ds vs => RelP.lessF ds vs) fun d v => Rel.lessF d v⟩, fun a ha z => S.dis a ha (List.mem_cons_of_mem _ z), fun a ha => S.fl a (List.mem_cons_of_mem _ ha), S.tb⟩
theorem StRel.chg (c : Chg F μ H H' D₀) (hD' : H' D₀ ≠ none) (S : StRel K cls (D₀ :: F) μ H st) : StRel K cls (D₀ :: F) μ H' st :=
  ⟨S.len, S.nd, fun n a hn => by
    obtain ⟨ob, e, r⟩ := S.obj n a hn
    have ne : a ≠ D₀ := fun z => S.dis a (List.mem_of_getElem? hn) (z ▸ List.mem_cons_self)
    exact ⟨ob, e, r.map (c.ne a ne) (fun ds vs => RelL.chg c ds vs) (fun ds vs => RelP.chg c ds vs) fun d v => Rel.chg c d v⟩, S.dis, fun a ha => by
      by_cases z : a = D₀
      · rw [z]; exact hD'
      · rw [c.ne a z]; exact S.fl a ha, tabs_keep S.tb fun b u e hu => by
      refine (c.ne b fun z => ?_).trans e
      obtain ⟨o, eo, g⟩ := c.old
      rw [z, eo] at e
      cases e
      rcases g with ⟨l, q⟩ | ⟨l, q⟩ <;> rw [q] at hu <;> rcases hu with ⟨_, w⟩ | ⟨_, w⟩ <;> cases w⟩
/-- from the heap ahead of the place to the heap with it, at the end -/
theorem ext_made (hD : H D₀ = none) (o : HO) (e : Ext (D₀ :: μ) (D₀ :: μ') (upd H D₀ o) H') : Ext μ μ' H H' := by
  obtain ⟨s, es, hs⟩ := e.pre
  refine ⟨⟨s, by simpa using es, fun p hp => ?_⟩, fun p u h hn nt => ?_, fun p h => ?_⟩
  · have q := hs p hp
    by_cases z : p = D₀
    · rw [z, upd_same] at q; cases q
    · rwa [upd_ne z] at q
  · have z : p ≠ D₀ := ne_of_none h hD
    exact e.keep p u (by rw [upd_ne z]; exact h) (by simp only [List.mem_cons, not_or]; exact ⟨z, hn⟩) nt
  · refine e.live p ?_
    by_cases z : p = D₀
    · rw [z, upd_same]; exact fun q => nomatch q
    · rw [upd_ne z]; exact h
/-- .. D itself becoming ours -/
theorem ext_madeO (hD : H D₀ = none) (o : HO) (e : Ext (D₀ :: μ) (D₀ :: μ') (upd H D₀ o) H') : Ext μ (μ' ++ [D₀]) H H' := by
  have e1 := ext_made hD o e
  obtain ⟨s, es, hs⟩ := e1.pre
  refine ⟨⟨s ++ [D₀], by rw [es, List.append_assoc], fun p hp => ?_⟩, e1.keep, e1.live⟩
  rcases List.mem_append.mp hp with z | z
  · exact hs p z
  · rw [List.mem_singleton.mp z]; exact hD
theorem Ext.cons (e : Ext μ μ' H H') (a : Addr) : Ext (a :: μ) (a :: μ') H H' := by
  obtain ⟨s, es, hs⟩ := e.pre
  exact ⟨⟨s, by rw [es]; rfl, hs⟩, fun p u h hn nt => e.keep p u h (fun z => hn (List.mem_cons_of_mem _ z)) nt, e.live⟩
/-- what is needed to carry what is told from one world to another -/
structure Car (F F' μ μ' : List Addr) (H H' : Hp) : Prop where
  t : ∀ a xs, H a = some (.tup xs) → a ∉ μ → H' a = some (.tup xs) ∧ a ∉ μ'
  l : ∀ a xs, H a = some (.lst xs) → a ∉ μ → a ∉ F → H' a = some (.lst xs) ∧ a ∉ μ' ∧ a ∉ F'
  s : ∀ a o xs, H a = some (.frz o (.lst xs)) → a ∉ μ → H' a = some (.frz o (.lst xs)) ∧ a ∉ μ'
  d : ∀ a xs, H a = some (.dK xs) → a ∉ μ → a ∉ F → H' a = some (.dK xs) ∧ a ∉ μ' ∧ a ∉ F'
  r : ∀ (n : Nat) a, μ[n]? = some a → μ'[n]? = some a
mutual
theorem Rel.car {F' : List Addr} (c : Car F F' μ μ' H H') : ∀ (d : D) (v : V), Rel K F μ H d v → Rel K F' μ' H' d v
  | .non, _, h => by cases h; exact .non
  | .bl _, _, h => by cases h; exact .bl _
  | .int _, _, h => by cases h; exact .int _
  | .str _, _, h => by cases h; exact .str _
  | .tup ds, _, h => by
    cases h with
    | tup h1 h2 h3 => exact .tup (c.t _ _ h1 h2).1 (c.t _ _ h1 h2).2 (RelL.car c ds _ h3)
    | tupK h1 h3 => exact .tupK h1 (RelL.car c ds _ h3)
  | .lst ds, _, h => by
    cases h with
    | lst h1 h2 h4 h3 => obtain ⟨a, b, e⟩ := c.l _ _ h1 h2 h4; exact .lst a b e (RelL.car c ds _ h3)
  | .scr ds, _, h => by
    cases h with
    | scr h1 h2 h3 => exact .scr (c.s _ _ _ h1 h2).1 (c.s _ _ _ h1 h2).2 (RelL.car c ds _ h3)
    | scrK h1 h3 => exact .scrK h1 (RelL.car c ds _ h3)
  | .dic kvs, _, h => by
    cases h with
    | dic h1 h2 h4 h3 => obtain ⟨a, b, e⟩ := c.d _ _ h1 h2 h4; exact .dic a b e (RelP.car c kvs _ h3)
  | .ref n, _, h => by
    cases h with
    | ref h1 => exact .ref (c.r _ _ h1)
theorem RelL.car {F' : List Addr} (c : Car F F' μ μ' H H') : ∀ (ds : List D) (vs : List V), RelL K F μ H ds vs → RelL K F' μ' H' ds vs
  | [], _, h => by cases h; exact .nil
  | d :: ds, _, h => by
    cases h with
    | cons h1 h2 => exact .cons (Rel.car c d _ h1) (RelL.car c ds _ h2)
theorem RelP.car {F' : List Addr} (c : Car F F' μ μ' H H') : ∀ (ds : List (D × D)) (vs : List (Key × V)), RelP K F μ H ds vs → RelP K F' μ' H' ds vs
  | [], _, h => by cases h; exact .nil
  | (k, d) :: ds, _, h => by
    cases h with
    | cons h0 h1 h2 => exact .cons h0 (Rel.car c d _ h1) (RelP.car c ds _ h2)
end
/-- the place becomes ours -/
theorem car_own {o : HO} (hD : H D₀ = some o) (g : Grows o) : Car (D₀ :: F) F μ (μ ++ [D₀]) H H := by
  have ne : ∀ a u, H a = some u → (∀ l, u ≠ .lst l) → (∀ l, u ≠ .dK l) → a ≠ D₀ := fun a u h h1 h2 z => by
    rw [z, hD] at h
    cases h
    rcases g with ⟨l, q⟩ | ⟨l, q⟩
    · exact h1 l q
    · exact h2 l q
  have nm : ∀ a, a ∉ μ → a ≠ D₀ → a ∉ μ ++ [D₀] := fun a h1 h2 z => (List.mem_append.mp z).elim h1 fun z => h2 (List.mem_singleton.mp z)
  have nf : ∀ a, a ∉ D₀ :: F → a ≠ D₀ ∧ a ∉ F := fun a h => by simpa only [List.mem_cons, not_or] using h
  refine ⟨fun a xs h1 h2 => ⟨h1, nm a h2 (ne a _ h1 (fun _ z => nomatch z) fun _ z => nomatch z)⟩, fun a xs h1 h2 h3 => ⟨h1, nm a h2 (nf a h3).1, (nf a h3).2⟩, fun a o' xs h1 h2 => ⟨h1, nm a h2 (ne a _ h1 (fun _ z => nomatch z) fun _ z => nomatch z)⟩,
    fun a xs h1 h2 h3 => ⟨h1, nm a h2 (nf a h3).1, (nf a h3).2⟩, fun n a h => ?_⟩
  rw [List.getElem?_append_left (List.getElem?_eq_some_iff.mp h).1]
  exact h
theorem StRel.took {ob : Ob} {o : HO} (hD : H D₀ = some o) (g : Grows o) (S : StRel K cls (D₀ :: F) μ H st) (r : ObRel K cls F (μ ++ [D₀]) H D₀ ob) (hF : D₀ ∉ F) : StRel K cls F (μ ++ [D₀]) H (st ++ [ob]) := by
  have c := car_own (F := F) (μ := μ) hD g
  have nm : D₀ ∉ μ := fun z => S.dis D₀ z List.mem_cons_self
  refine ⟨by simp [S.len], ?_, fun n a hn => ?_, fun a ha => ?_, fun a ha => S.fl a (List.mem_cons_of_mem _ ha), S.tb⟩
  · rw [List.nodup_append]
    exact ⟨S.nd, by simp, fun a ha b hb z => nm (by rw [← List.mem_singleton.mp hb, ← z]; exact ha)⟩
  · by_cases e : n < μ.length
    · rw [List.getElem?_append_left e] at hn
      obtain ⟨ob', q, r'⟩ := S.obj n a hn
      exact ⟨ob', getO_append q, r'.map rfl (fun ds vs => RelL.car c ds vs) (fun ds vs => RelP.car c ds vs) fun d v => Rel.car c d v⟩
    · rw [List.getElem?_append_right (by omega)] at hn
      have e2 : n - μ.length = 0 := by
        cases q : n - μ.length with
        | zero => rfl
        | succ k => rw [q] at hn; simp at hn
      rw [e2] at hn
      simp at hn
      subst hn
      have e3 : n = st.length := by have := S.len; omega
      subst e3
      exact ⟨ob, getO_last, r⟩
  · rcases List.mem_append.mp ha with z | z
    · exact fun q => S.dis a z (List.mem_cons_of_mem _ q)
    · rw [List.mem_singleton.mp z]; exact hF
/-- the list at D is handed over -/
theorem newL_end {xf : Nat → List Str} {W : WX} {σ : L2.St} {Q : VK} {m : Bool} {ds : List D} {vs : List V} (hD : H D₀ = none) (o : HO) (e : Ext (D₀ :: μ) (D₀ :: μ') (upd H D₀ o) H') (S : StRel K cls (D₀ :: F) μ' H' st) (hv : H' D₀ = some (.lst vs))
    (r : RelL K (D₀ :: F) μ' H' ds vs) (h : Post K cls xf F (rlD K F) W σ μ H (newL m ds st) Q) (hF : D₀ ∉ F) : Q (.ref D₀) H' := by
  have nm : D₀ ∉ μ' := fun z => S.dis D₀ z List.mem_cons_self
  unfold newL at h
  cases m with
  | false => exact h μ' H' _ (ext_made hD o e) S.lessF (.lst hv nm hF (RelL.lessF _ _ r))
  | true =>
    have g : Grows (.lst vs) := .inl ⟨vs, rfl⟩
    refine h _ H' _ (ext_madeO hD o e) (S.took hv g ⟨vs, hv, RelL.car (car_own hv g) _ _ r⟩ hF) (.ref ?_)
    have hl := S.len
    rw [List.getElem?_append_right (by omega), hl, Nat.sub_self]
    rfl
end
end MP

set_option Elab.async false
set_option linter.all false
set_option maxRecDepth 100000
set_option maxHeartbeats 4000000
namespace MP
open PySem L2 PyProof.Rows
/-! ### targets -/
mutual
def tnS : TN → List Nat
  | .nm i => [i]
  | .tp ts => tnSL ts
def tnSL : List TN → List Nat
  | [] => []
  | t :: ts => tnS t ++ tnSL ts
end
mutual
def cTN (N : List Str) (sc : Scope) (fn : Str → Bool) : TN → Expr → Bool
  | .nm i, pe => match asName pe with | some x => decide (N[i]? = some x) && locB sc x && (fn x || decide (sc.names.lookup x = some .local)) | none => false
  | .tp ts, pe => match asTup pe with | some xs => xs.all noStar && cTNL N sc fn ts xs | none => false
def cTNL (N : List Str) (sc : Scope) (fn : Str → Bool) : List TN → List Expr → Bool
  | [], [] => true
  | t :: ts, x :: xs => cTN N sc fn t x && cTNL N sc fn ts xs
  | _, _ => false
end
theorem assign1 {e : Expr} {es : List Expr} {env : PySem.Env} (h : noStar e = true) : assignEach (e :: es) env = (false, assign e env) :: assignEach es env := by
  cases e <;> first | rfl | cases h
theorem assign_len {env : PySem.Env} : ∀ {es : List Expr}, es.all noStar = true → (assignEach es env).length = es.length ∧ (assignEach es env).findIdx? (·.1) = none
  | [], _ => ⟨rfl, rfl⟩
  | e :: es, h => by
    simp only [List.all_cons, Bool.and_eq_true] at h
    obtain ⟨a, b⟩ := assign_len (env := env) h.2
    rw [assign1 h.1]
    refine ⟨by simp [a], ?_⟩
    rw [List.findIdx?_cons, b]
    rfl
def gTN (K : PySem.W.Frag) (tg : TN) : TG := fun v σ H Q => ∃ F μ ρ d ρ', EnvRel K F μ H ρ σ ∧ Rel K F μ H d v ∧ tnD tg d ρ = some ρ' ∧
  ∀ σ', EnvRel K F μ H ρ' σ' → σ'.length = σ.length → (∀ j, j ∉ tnS tg → σ'[j]? = σ[j]?) → Q σ' H
def gTNL (K : PySem.W.Frag) (tg : List TN) : TGs := fun vs σ H Q => ∃ F μ ρ ds ρ', EnvRel K F μ H ρ σ ∧ RelL K F μ H ds vs ∧ tnL tg ds ρ = some ρ' ∧
  ∀ σ', EnvRel K F μ H ρ' σ' → σ'.length = σ.length → (∀ j, j ∉ tnSL tg → σ'[j]? = σ[j]?) → Q σ' H
theorem pg_imp {X : Cx} {e : Expr} {t t' : TG} (h : PG X e t) (i : ∀ v σ H Q, t' v σ H Q → t v σ H Q) : PG X e t' := ⟨fun pins s σ H v u Q I r q => h.run pins s σ H v u Q I r (i v σ H Q q)⟩
theorem pgs_imp {X : Cx} {e : List Expr} {t t' : TGs} (h : PGs X e t) (i : ∀ v σ H Q, t' v σ H Q → t v σ H Q) : PGs X e t' := ⟨fun pins s σ H v u Q I r q => h.run pins s σ H v u Q I r (i v σ H Q q)⟩
theorem tnL_cons {t : TN} {ts : List TN} {d : D} {ds : List D} {ρ ρ' : MP.Env} (e : tnL (t :: ts) (d :: ds) ρ = some ρ') : ∃ ρ1, tnD t d ρ = some ρ1 ∧ tnL ts ds ρ1 = some ρ' := by
  unfold tnL at e
  split at e
  · rename_i ρ1 e1
    exact ⟨ρ1, e1, e⟩
  · cases e
section
variable {X : Cx}
mutual
theorem pgTN (hc : X.calm = true) (hN : X.N.Nodup) : ∀ (tg : TN) (pe : Expr), cTN X.N X.env.scope X.fn tg pe = true → PG X pe (gTN X.K tg)
  | .nm i, pe, h => by
    unfold cTN at h
    split at h
    · rename_i x hx
      obtain ⟨p, rfl⟩ := asName_eq hx
      simp only [Bool.and_eq_true, Bool.or_eq_true, decide_eq_true_eq] at h
      refine pg_imp (pg_name hN h.1.1 (locB_eq h.1.2) h.2) fun v σ H Q ⟨F, μ, ρ, d, ρ', hE, hr, e, q⟩ => ?_
      have e' : some (setV ρ i (some d)) = some ρ' := by simpa only [tnD] using e
      cases e'
      refine q _ (hE.set hr) (by simp) fun j hj => ?_
      rw [List.getElem?_set_ne]
      exact fun z => hj (by simp [tnS, z])
    · cases h
  | .tp ts, pe, h => by
    unfold cTN at h
    split at h
    · rename_i xs hx
      obtain ⟨k, p, rfl⟩ := asTup_eq hx
      simp only [Bool.and_eq_true] at h
      obtain ⟨l1, l2⟩ := assign_len (env := X.env) h.1
      refine pg_imp (pg_tup (n := xs.length) hc (pgTNL hc hN ts xs h.1 h.2) l1 l2) fun v σ H Q ⟨F, μ, ρ, d, ρ', hE, hr, e, q⟩ => ?_
      cases d with
      | tup ds =>
        obtain ⟨a, vs, rfl, sq, r2⟩ := tupD_rel hr
        have e' : tnL ts ds ρ = some ρ' := by simpa only [tnD] using e
        refine ⟨a, vs, rfl, sq, ?_, F, μ, ρ, ds, ρ', hE, r2, e', fun σ' E' hl hj => q σ' E' hl fun j hj' => hj j (by simpa [tnS] using hj')⟩
        rw [← r2.length]
        exact tnL_len ts ds xs e' h.2
      | _ => simp [tnD] at e
    · cases h
theorem pgTNL (hc : X.calm = true) (hN : X.N.Nodup) : ∀ (tg : List TN) (pe : List Expr), pe.all noStar = true → cTNL X.N X.env.scope X.fn tg pe = true → PGs X pe (gTNL X.K tg)
  | [], [], _, _ => pgs_imp pgs_nil fun v σ H Q ⟨F, μ, ρ, ds, ρ', hE, hr, e, q⟩ => by
    cases ds with
    | nil =>
      cases hr
      have e' : some ρ = some ρ' := by simpa only [tnL] using e
      cases e'
      exact ⟨rfl, q σ hE rfl fun _ _ => rfl⟩
    | cons => simp [tnL] at e
  | t :: ts, x :: xs, hn, h => by
    simp only [List.all_cons, Bool.and_eq_true] at hn
    simp only [cTNL, Bool.and_eq_true] at h
    refine pgs_imp (pgs_cons (pgTN hc hN t x h.1) (pgTNL hc hN ts xs hn.2 h.2) (by rw [assign1 hn.1]; rfl)) fun v σ H Q ⟨F, μ, ρ, ds, ρ', hE, hr, e, q⟩ => ?_
    cases ds with
    | nil => simp [tnL] at e
    | cons d ds =>
      cases hr with
      | cons r1 r2 =>
        obtain ⟨ρ1, e1, e'⟩ := tnL_cons e
        refine ⟨_, _, rfl, F, μ, ρ, d, ρ1, hE, r1, e1, fun σ1 E1 l1 j1 => ⟨F, μ, ρ1, ds, ρ', E1, r2, e', fun σ2 E2 l2 j2 => q σ2 E2 (l2.trans l1) fun j hj => ?_⟩⟩
        simp only [tnSL, List.mem_append, not_or] at hj
        exact (j2 j hj.2).trans (j1 j hj.1)
  | [], _ :: _, _, h => by simp [cTNL] at h
  | _ :: _, [], _, h => by simp [cTNL] at h
theorem tnL_len {N : List Str} {sc : Scope} {fn : Str → Bool} : ∀ (ts : List TN) (ds : List D) (xs : List Expr) {ρ ρ' : MP.Env}, tnL ts ds ρ = some ρ' → cTNL N sc fn ts xs = true → ds.length = xs.length
  | [], [], [], _, _, _, _ => rfl
  | [], [], _ :: _, _, _, _, h => by simp [cTNL] at h
  | [], _ :: _, _, _, _, e, _ => by simp [tnL] at e
  | t :: ts, [], _, _, _, e, _ => by simp [tnL] at e
  | t :: ts, d :: ds, [], _, _, _, h => by simp [cTNL] at h
  | t :: ts, d :: ds, x :: xs, ρ, ρ', e, h => by
    obtain ⟨ρ1, e1, e'⟩ := tnL_cons e
    simp only [cTNL, Bool.and_eq_true] at h
    simp [tnL_len ts ds xs e' h.2]
end
end
/-! ### what is walked -/
structure SeqIt (K : PySem.W.Frag) (F : List Addr) (J : It) (μ : List Addr) (H1 : Hp) (items : List D) : Prop where
  go : ∀ i μ' H', Ext μ μ' H1 H' → i < items.length → J.go i H'
  stop : ∀ μ' H', Ext μ μ' H1 H' → J.stop items.length H'
  yld : ∀ i F' μ' H' x H'', Ext μ μ' H1 H' → (∀ d v, Rel K F μ H1 d v → Rel K F' μ' H' d v) → (∀ p, H' p = none → p ∉ μ') → i < items.length → J.yld i H' x H'' →
    ∃ d, items[i]? = some d ∧ Rel K F' μ' H'' d x ∧ (H'' = H' ∨ ∃ T xs, H' T = none ∧ H'' = upd H' T (.tup xs))
def ITx (U : Wd) (X : Cx) (F : List Addr) (W : WX) (sem : MP.Env → DS → R (List D)) : TI := RD X.K U.cls U.xf F (fun μ H items J => SeqIt X.K F J μ H items) W sem
theorem relL_all {K : PySem.W.Frag} {F F' μ μ' : List Addr} {H H' : Hp} (c : ∀ d v, Rel K F μ H d v → Rel K F' μ' H' d v) : ∀ {ds : List D} {vs : List V}, RelL K F μ H ds vs → RelL K F' μ' H' ds vs
  | [], _, h => by cases h; exact .nil
  | d :: ds, _, h => by
    cases h with
    | cons h1 h2 => exact .cons (c _ _ h1) (relL_all c h2)
/-- a list that stands -/
theorem it_list {K : PySem.W.Frag} {F μ : List Addr} {H1 : Hp} {a : Addr} {ds : List D} {vs : List V} (r : RelL K F μ H1 ds vs) (h : ∀ μ' H', Ext μ μ' H1 H' → SqL K H' a vs) : SeqIt K F (Itl K a) μ H1 ds := by
  refine ⟨fun i μ' H' e hi => ?_, fun μ' H' e => ⟨vs, h μ' H' e, by rw [← r.length]; exact Nat.le_refl _⟩, fun i F' μ' H' x H'' e c _ hi y => ?_⟩
  · have hi' : i < vs.length := by rw [← r.length]; exact hi
    exact ⟨vs, vs[i], h μ' H' e, by simp [hi']⟩
  · obtain ⟨rfl, y⟩ := y
    obtain ⟨d, e1, r1⟩ := (relL_all c r).get' (y vs (h μ' _ e))
    exact ⟨d, e1, r1, .inl rfl⟩
theorem it_tup {K : PySem.W.Frag} {F μ : List Addr} {H1 : Hp} {a : Addr} {ds : List D} {vs : List V} (r : RelL K F μ H1 ds vs) (h : ∀ μ' H', Ext μ μ' H1 H' → SqT K H' a vs) : SeqIt K F (Itt K a) μ H1 ds := by
  refine ⟨fun i μ' H' e hi => ?_, fun μ' H' e => ⟨vs, h μ' H' e, by rw [← r.length]; exact Nat.le_refl _⟩, fun i F' μ' H' x H'' e c _ hi y => ?_⟩
  · have hi' : i < vs.length := by rw [← r.length]; exact hi
    exact ⟨vs, vs[i], h μ' H' e, by simp [hi']⟩
  · obtain ⟨rfl, y⟩ := y
    obtain ⟨d, e1, r1⟩ := (relL_all c r).get' (y vs (h μ' _ e))
    exact ⟨d, e1, r1, .inl rfl⟩
theorem it_str {K : PySem.W.Frag} {F μ : List Addr} {H1 : Hp} {z : Str} : SeqIt K F (Its z) μ H1 (z.cps.toList.map fun c => .str ⟨#[c]⟩) := by
  refine ⟨fun i μ' H' e hi => by simpa [Its] using hi, fun μ' H' e => by simp [Its], fun i F' μ' H' x H'' e c _ hi y => ?_⟩
  obtain ⟨rfl, c, e1, rfl⟩ := y
  refine ⟨.str ⟨#[c]⟩, ?_, .str _, .inl rfl⟩
  rw [List.getElem?_map, Array.getElem?_toList, e1]
  rfl
theorem it_rng {K : PySem.W.Frag} {F μ : List Addr} {H1 : Hp} {lo : Int} {n : Nat} : SeqIt K F (Itr lo n) μ H1 ((List.range n).map fun (k : Nat) => .int (lo + (k : Int))) := by
  refine ⟨fun i μ' H' e hi => by simpa [Itr] using hi, fun μ' H' e => by simp [Itr], fun i F' μ' H' x H'' e c _ hi y => ?_⟩
  obtain ⟨rfl, rfl⟩ := y
  refine ⟨.int (lo + (i : Int)), ?_, .int _, .inl rfl⟩
  rw [List.length_map, List.length_range] at hi
  rw [List.getElem?_map, List.getElem?_range hi]
  rfl
theorem it_enum {K : PySem.W.Frag} {F μ : List Addr} {H1 : Hp} {a : Addr} {ds : List D} {vs : List V} (r : RelL K F μ H1 ds vs) (h : ∀ μ' H', Ext μ μ' H1 H' → SqL K H' a vs) : SeqIt K F (Ite K a) μ H1 (ds.zipIdx.map fun p => .tup [.int (p.2 : Int), p.1]) := by
  have hlen : (ds.zipIdx.map fun p => D.tup [.int (p.2 : Int), p.1]).length = vs.length := by simp [r.length]
  refine ⟨fun i μ' H' e hi => ?_, fun μ' H' e => ⟨vs, h μ' H' e, by rw [hlen]; exact Nat.le_refl _⟩, fun i F' μ' H' x H'' e c nm hi y => ?_⟩
  · have hi' : i < vs.length := by rw [← hlen]; exact hi
    exact ⟨vs, vs[i], h μ' H' e, by simp [hi']⟩
  · obtain ⟨T, u, rfl, hT, rfl, y⟩ := y
    obtain ⟨d, e1, r1⟩ := (relL_all c r).get' (y vs (h μ' _ e))
    have e0 : Ext μ' μ' H' (upd H' T (.tup [.int (i : Nat), u])) := ext_new hT
    refine ⟨.tup [.int (i : Int), d], ?_, .tup upd_same (nm T hT) (.cons (.int _) (.cons (r1.up e0) .nil)), .inr ⟨T, _, hT, rfl⟩⟩
    rw [List.getElem?_map, List.getElem?_zipIdx, e1]
    simp
end MP

set_option Elab.async false
set_option linter.all false
set_option maxRecDepth 100000
set_option maxHeartbeats 4000000
namespace MP
open PySem L2 PyProof.Rows
theorem pi_or {X : Cx} {tg e : Expr} {w1 w2 : TI} (h1 : PI X tg e w1) (h2 : PI X tg e w2) : PI X tg e (fun σ H R => w1 σ H R ∨ w2 σ H R) := ⟨fun pins s σ H R I q => q.elim (h1.run pins s σ H R I) (h2.run pins s σ H R I)⟩
theorem pi_imp {X : Cx} {tg e : Expr} {w1 w2 : TI} (h1 : PI X tg e w1) (i : ∀ σ H R, w2 σ H R → w1 σ H R) : PI X tg e w2 := ⟨fun pins s σ H R I q => h1.run pins s σ H R I (i σ H R q)⟩
section
variable {U : Wd} {n : Nat} {W : WX} {X : Cx} {F : List Addr}
/-- a sequence that is walked -/
theorem k_seq {tg e : Expr} {sa : MP.Env → DS → R D} (ha : PE X e (TDx U X F W sa)) : PI X tg e (ITx U X F W fun ρ st => (sa ρ st).bind fun x st1 => R.of (itD .seq st1 [x]) st1) := by
  refine pi_imp (pi_or (pi_list ha) (pi_or (pi_tup ha) (pi_str ha))) fun σ H Z ⟨ρ, st, μ, hE, hS, hP⟩ => ?_
  have hP : Post X.K U.cls U.xf F (fun μ H items J => SeqIt X.K F J μ H items) W σ μ H ((sa ρ st).bind fun x st1 => R.of (itD .seq st1 [x]) st1) Z := hP
  cases es : sa ρ st with
  | bad => rw [es] at hP; exact hP.elim
  | exc a b st1 => exact .inl ⟨ρ, st, μ, hE, hS, by rw [es] at hP ⊢; exact hP⟩
  | ok d st1 =>
    rw [es] at hP
    have hP : Post X.K U.cls U.xf F (fun μ H items J => SeqIt X.K F J μ H items) W σ μ H (R.of (itD .seq st1 [d]) st1) Z := hP
    obtain ⟨items, ei, k⟩ := Post.of hP
    cases d with
    | str z =>
      have e2 : some (z.cps.toList.map fun c => D.str ⟨#[c]⟩) = some items := ei
      cases e2
      refine .inr (.inr ⟨ρ, st, μ, hE, hS, ?_⟩)
      rw [es]
      intro μ1 H1 v x1 S1 r1
      cases r1
      exact ⟨z, rfl, k μ1 H1 _ x1 S1 it_str⟩
    | tup ds =>
      have e2 : some ds = some items := ei
      cases e2
      refine .inr (.inl ⟨ρ, st, μ, hE, hS, ?_⟩)
      rw [es]
      intro μ1 H1 v x1 S1 r1
      cases r1 with
      | tup h1 h2 h3 => exact ⟨_, rfl, ⟨_, SqT.of h1⟩, k μ1 H1 _ x1 S1 (it_tup h3 fun μ' H' e => SqT.of (e.keep _ _ h1 h2 (fun _ z => nomatch z)))⟩
      | tupK h1 h3 => exact ⟨_, rfl, ⟨_, SqT.ofW h1⟩, k μ1 H1 _ x1 S1 (it_tup h3 fun μ' H' e => SqT.ofW h1)⟩
    | lst ds =>
      have e2 : some ds = some items := ei
      cases e2
      refine .inl ⟨ρ, st, μ, hE, hS, ?_⟩
      rw [es]
      intro μ1 H1 v x1 S1 r1
      cases r1 with
      | lst h1 h2 h4 h3 => exact ⟨_, rfl, ⟨_, SqL.of h1⟩, k μ1 H1 _ x1 S1 (it_list h3 fun μ' H' e => SqL.of (e.keep _ _ h1 h2 (fun _ z => nomatch z)))⟩
    | scr ds =>
      have e2 : some ds = some items := ei
      cases e2
      refine .inl ⟨ρ, st, μ, hE, hS, ?_⟩
      rw [es]
      intro μ1 H1 v x1 S1 r1
      cases r1 with
      | scr h1 h2 h3 => exact ⟨_, rfl, ⟨_, .inl (.inr ⟨_, h1⟩)⟩, k μ1 H1 _ x1 S1 (it_list h3 fun μ' H' e => .inl (.inr ⟨_, e.keep _ _ h1 h2 (fun _ z => nomatch z)⟩))⟩
      | scrK h1 h3 => exact ⟨_, rfl, ⟨_, h1 H1⟩, k μ1 H1 _ x1 S1 (it_list h3 fun μ' H' e => h1 H')⟩
    | non => cases ei
    | bl _ => cases ei
    | int _ => cases ei
    | dic _ => cases ei
    | ref _ => cases ei
theorem RD.bindE {α β γ δ : Type} {K : PySem.W.Frag} {cls : Cl} {xf : Nat → List Str} {μ : List Addr} {H : Hp} {σ : L2.St} {ρ : MP.Env} {st : DS} {Ra : List Addr → Hp → α → β → Prop} {Rg : List Addr → Hp → γ → δ → Prop} {sa : MP.Env → DS → R α} {k : α → DS → R γ} {Q : δ → Hp → Prop} {Q' : β → Hp → Prop}
    (hE : EnvRel K F μ H ρ σ) (hS : StRel K cls F μ H st) (hP : Post K cls xf F Rg W σ μ H ((sa ρ st).bind k) Q)
    (h : ∀ a st1 μ1 H1 v, sa ρ st = .ok a st1 → Ext μ μ1 H H1 → StRel K cls F μ1 H1 st1 → Ra μ1 H1 a v → EnvRel K F μ1 H1 ρ σ → Post K cls xf F Rg W σ μ1 H1 (k a st1) Q → Q' v H1) : RD K cls xf F Ra W sa σ H Q' := by
  refine ⟨ρ, st, μ, hE, hS, ?_⟩
  cases e : sa ρ st with
  | ok a st1 =>
    rw [e] at hP
    exact fun μ1 H1 v x s r => h a st1 μ1 H1 v e x s r (hE.mono x) (hP.shift x)
  | exc c fs st1 => rw [e] at hP; exact hP
  | bad => rw [e] at hP; exact hP.elim
theorem k_rng1 (c : Ctx U n W X) {tg e : Expr} {p pos : Pos} {sr : MP.Env → DS → R (List D)} (hg : Gl X "range") (hn : noStar e = true) (hr : PA X [e] (TLx U X F W sr)) (hl : ∀ ρ st ds st1, sr ρ st = .ok ds st1 → ds.length = 1) :
    PI X tg (.Call (.Name "range" p) [e] [] pos) (ITx U X F W fun ρ st => (sr ρ st).bind fun xs st1 => R.of (itD .rng st1 xs) st1) := by
  refine pi_imp (pi_range1 hg (c.gls.bi _ (by simp)) hr (star1 hn)) fun σ H Z ⟨ρ, st, μ, hE, hS, hP⟩ => RD.bindE hE hS hP fun ds st1 μ1 H1 vs eq x1 S1 r1 E1 P1 => ?_
  obtain ⟨items, ei, k⟩ := Post.of P1
  have l1 := hl _ _ _ _ eq
  obtain ⟨d, rfl⟩ := List.length_eq_one_iff.mp l1
  obtain ⟨v, rfl, r2⟩ := relL1 r1
  cases d with
  | int j =>
    cases r2
    have e2 : (if -(2 ^ 62) ≤ j ∧ j < 2 ^ 62 then some ((List.range j.toNat).map fun (k : Nat) => D.int (0 + (k : Int))) else none) = some items := ei
    split at e2
    · rename_i hb
      cases e2
      exact ⟨j, rfl, hb.1, hb.2, k μ1 H1 _ .refl S1 it_rng⟩
    · cases e2
  | _ => cases ei
theorem len2 {ds : List D} (h : ds.length = 2) : ∃ a b, ds = [a, b] := match ds, h with | [a, b], _ => ⟨a, b, rfl⟩
theorem k_rng2 (c : Ctx U n W X) {tg e e' : Expr} {p pos : Pos} {sr : MP.Env → DS → R (List D)} (hg : Gl X "range") (hn : noStar e = true) (hn' : noStar e' = true) (hr : PA X [e, e'] (TLx U X F W sr)) (hl : ∀ ρ st ds st1, sr ρ st = .ok ds st1 → ds.length = 2) :
    PI X tg (.Call (.Name "range" p) [e, e'] [] pos) (ITx U X F W fun ρ st => (sr ρ st).bind fun xs st1 => R.of (itD .rng st1 xs) st1) := by
  refine pi_imp (pi_range2 hg (c.gls.bi _ (by simp)) hr (by rw [star1 hn, star1 hn']; rfl) (star1 hn')) fun σ H Z ⟨ρ, st, μ, hE, hS, hP⟩ => RD.bindE hE hS hP fun ds st1 μ1 H1 vs eq x1 S1 r1 E1 P1 => ?_
  obtain ⟨items, ei, k⟩ := Post.of P1
  have l1 := hl _ _ _ _ eq
  obtain ⟨d, d', rfl⟩ := len2 l1
  obtain ⟨v, v', rfl, r2, r3⟩ := relL2 r1
  cases d with
  | int i =>
   cases d' with
   | int j =>
    cases r2
    cases r3
    have e2 : (if -(2 ^ 62) ≤ i ∧ i < 2 ^ 62 ∧ -(2 ^ 62) ≤ j ∧ j < 2 ^ 62 then some ((List.range (j - i).toNat).map fun (k : Nat) => D.int (i + (k : Int))) else none) = some items := ei
    split at e2
    · rename_i hb
      cases e2
      exact ⟨i, j, rfl, hb, k μ1 H1 _ .refl S1 it_rng⟩
    · cases e2
   | _ => cases ei
  | _ => cases ei
theorem k_enum (c : Ctx U n W X) {elts : List Expr} {kk : Nat} {tpos : Pos} {e : Expr} {p pos : Pos} {sr : MP.Env → DS → R (List D)} (hg : Gl X "enumerate") (hn : noStar e = true) (hr : PA X [e] (TLx U X F W sr)) (hl : ∀ ρ st ds st1, sr ρ st = .ok ds st1 → ds.length = 1) :
    PI X (.Tuple elts kk tpos) (.Call (.Name "enumerate" p) [e] [] pos) (ITx U X F W fun ρ st => (sr ρ st).bind fun xs st1 => R.of (itD .enum st1 xs) st1) := by
  refine pi_imp (pi_enum hg (c.gls.bi _ (by simp)) hr (star1 hn)) fun σ H Z ⟨ρ, st, μ, hE, hS, hP⟩ => RD.bindE hE hS hP fun ds st1 μ1 H1 vs eq x1 S1 r1 E1 P1 => ?_
  obtain ⟨items, ei, k⟩ := Post.of P1
  have l1 := hl _ _ _ _ eq
  obtain ⟨d, rfl⟩ := List.length_eq_one_iff.mp l1
  obtain ⟨v, rfl, r2⟩ := relL1 r1
  cases d with
  | lst ys =>
    have e2 : some (ys.zipIdx.map fun p => D.tup [.int (p.2 : Int), p.1]) = some items := ei
    cases e2
    cases r2 with
    | lst h1 h2 h4 h3 => exact ⟨_, _, rfl, SqL.of h1, k μ1 H1 _ .refl S1 (it_enum h3 fun μ' H' e => SqL.of (e.keep _ _ h1 h2 (fun _ z => nomatch z)))⟩
  | _ => cases ei
/-! ### list comprehensions -/
def lcF (tg : TN) (own : List Nat) (sc : MP.Env → DS → R Bool) (se : MP.Env → DS → R D) (ρ : MP.Env) : D → DS → R (Option D) := fun x st2 => match tnD tg x (wipeV ρ own) with
  | some ρ' => (sc ρ' st2).bind fun k st3 => if k then (se ρ' st3).bind fun d st4 => .ok (some d) st4 else .ok none st3
  | none => .bad
theorem wipe_eq {σ σ' : L2.St} (hl : σ'.length = σ.length) {own : List Nat} (h : ∀ j, j ∉ own → σ'[j]? = σ[j]?) : wipe σ' own = wipe σ own := by
  have at_ : ∀ (own : List Nat) (τ : L2.St) (j : Nat), (wipe τ own)[j]? = if j ∈ own ∧ j < τ.length then some none else τ[j]? := by
    intro own
    induction own with
    | nil => intro τ j; simp [wipe]
    | cons a r ih =>
      intro τ j
      unfold wipe
      by_cases e : a = j
      · subst e
        by_cases hj : a < τ.length
        · rw [List.getElem?_set_self (by rw [wipe_length]; exact hj), if_pos ⟨List.mem_cons_self, hj⟩]
        · rw [if_neg (fun z => hj z.2), List.getElem?_eq_none (by simp [wipe_length]; omega), List.getElem?_eq_none (by omega)]
      · rw [List.getElem?_set_ne e, ih]
        by_cases hj : j ∈ r ∧ j < τ.length
        · rw [if_pos hj, if_pos ⟨List.mem_cons_of_mem _ hj.1, hj.2⟩]
        · rw [if_neg hj, if_neg]
          exact fun z => hj ⟨(List.mem_cons.mp z.1).elim (fun q => absurd q.symm e) (fun q => q), z.2⟩
  apply List.ext_getElem?
  intro j
  rw [at_, at_, hl]
  by_cases hj : j ∈ own ∧ j < σ.length
  · rw [if_pos hj, if_pos hj]
  · rw [if_neg hj, if_neg hj]
    by_cases hm : j ∈ own
    · have : ¬ j < σ.length := fun z => hj ⟨hm, z⟩
      rw [List.getElem?_eq_none (by omega), List.getElem?_eq_none (by omega)]
    · exact h j hm
theorem wipe_wipe {σ : L2.St} {own : List Nat} : wipe (wipe σ own) own = wipe σ own := by
  refine wipe_eq (wipe_length σ own) fun j hj => ?_
  induction own with
  | nil => rfl
  | cons a r ih =>
    simp only [List.mem_cons, not_or] at hj
    unfold wipe
    rw [List.getElem?_set_ne (Ne.symm hj.1)]
    exact ih hj.2
/-- nothing is wished for -/
abbrev WF : WX := fun _ _ _ _ => False
def anyD (U : Wd) (X : Cx) (sem : MP.Env → DS → R D) : TE := fun σ H Q => ∃ F, TDx U X F WF sem σ H Q
def anyB (U : Wd) (X : Cx) (sem : MP.Env → DS → R Bool) : TT := fun σ H Q => ∃ F, TBx U X F WF sem σ H Q
theorem lc_turn {items : List D} {tg : TN} {own : List Nat} {sc : MP.Env → DS → R Bool} {se : MP.Env → DS → R D} {m : Bool} {σ : L2.St} {ρ : MP.Env} {Q : VK} {J : It} {μ1 : List Addr} {H1 : Hp} {st1 : DS} (hown : ∀ j ∈ tnS tg, j ∈ own)
    (E1 : EnvRel X.K F μ1 H1 ρ σ) (S1 : StRel X.K U.cls F μ1 H1 st1) (hJ : SeqIt X.K F J μ1 H1 items)
    (P1 : Post X.K U.cls U.xf F (rlD X.K F) W σ μ1 H1 ((lcL (lcF tg own sc se ρ) items [] st1).bind fun ys st2 => newL m ys st2) Q) :
    ∀ D, H1 D = none → ∃ W' : Nat → Nat → Hp → Prop, (∃ m, W' 0 m (upd H1 D (.lst []))) ∧ ∀ i m H, W' i m H →
      (J.stop i H ∧ Q (.ref D) H) ∨ (J.go i H ∧ ∃ Nx : Hp → Prop, (∀ H', Nx H' → ∃ m', m' < m ∧ W' (i + 1) m' H') ∧ ∀ x H', J.yld i H x H' → gTN X.K tg x (wipe σ own) H' fun σ2 H2 => wipe σ2 own = wipe σ own ∧ anyB U X sc σ2 H2 fun b H3 =>
        if b = true then anyD U X se σ2 H3 fun y H4 => ∃ acc, H4 D = some (.lst acc) ∧ acc.length < sizeLine ∧ Nx (upd H4 D (.lst (acc ++ [y]))) else Nx H3) := by
  intro D hD
  have hF : D ∉ F := S1.freshF hD
  -- what holds ahead of turn i
  let Inn : Nat → Hp → Prop := fun i H => ∃ (μ' : List Addr) (st : DS) (acc : List MP.D) (vs : List V), i ≤ items.length ∧ Ext (D :: μ1) (D :: μ') (upd H1 D (.lst [])) H ∧ StRel X.K U.cls (D :: F) μ' H st ∧ H D = some (.lst vs) ∧ RelL X.K (D :: F) μ' H acc vs ∧
    (∀ d v, Rel X.K F μ1 H1 d v → Rel X.K (D :: F) μ' H d v) ∧
    Post X.K U.cls U.xf F (rlD X.K F) W σ μ1 H1 ((lcL (lcF tg own sc se ρ) (items.drop i) acc st).bind fun ys st2 => newL m ys st2) Q
  refine ⟨fun i k H => k = items.length - i ∧ Inn i H, ⟨items.length, by simp, μ1, st1, [], [], Nat.zero_le _, Ext.refl, S1.lay hD _, upd_same, .nil, fun d v r => ?_, by simpa using P1⟩, ?_⟩
  · exact Rel.mono (ext_new hD) _ _ (Rel.addF hD d v r)
  rintro i k H ⟨rfl, μ', st, acc, vs, hi, e, S, hv, ra, car, P⟩
  have nmD : D ∉ μ' := fun z => S.dis D z List.mem_cons_self
  have e1 : Ext μ1 μ' H1 H := ext_made hD _ e
  by_cases hlt : i < items.length
  · refine .inr ⟨hJ.go i μ' H e1 hlt, Inn (i + 1), fun H' q => ⟨items.length - (i + 1), by omega, rfl, q⟩, fun x H' y => ?_⟩
    obtain ⟨d, ed, rd, hh⟩ := hJ.yld i (D :: F) μ' H x H' e1 car (fun p hp => S.fresh hp) hlt y
    -- the heap with the yielded thing
    have e2 : Ext μ' μ' H H' := by
      rcases hh with rfl | ⟨T, xs, hT, rfl⟩
      · exact .refl
      · exact ext_new hT
    have S2 : StRel X.K U.cls (D :: F) μ' H' st := by
      rcases hh with rfl | ⟨T, xs, hT, rfl⟩
      · exact S
      · exact S.new hT
    have hv2 : H' D = some (.lst vs) := e2.keep _ _ hv nmD (fun _ z => nomatch z)
    have E2 : EnvRel X.K (D :: F) μ' H' (wipeV ρ own) (wipe σ own) := EnvRel.wipe ⟨E1.1, fun j dd hj => by
      obtain ⟨v, a, b⟩ := E1.2 j dd hj
      exact ⟨v, a, (car dd v b).up e2⟩⟩ own
    have hdrop : items.drop i = d :: items.drop (i + 1) := by
      obtain ⟨h1, h2⟩ := List.getElem?_eq_some_iff.mp ed
      rw [← h2]
      exact List.drop_eq_getElem_cons h1
    rw [hdrop] at P
    have P : Post X.K U.cls U.xf F (rlD X.K F) W σ μ1 H1 ((match lcF tg own sc se ρ d st with | .ok (some d) st1 => if acc.length < sizeLine then lcL (lcF tg own sc se ρ) (items.drop (i + 1)) (acc ++ [d]) st1 else .bad | .ok none st1 => lcL (lcF tg own sc se ρ) (items.drop (i + 1)) acc st1 | _ => .bad).bind fun ys st2 => newL m ys st2) Q := P
    unfold lcF at P
    cases et : tnD tg d (wipeV ρ own) with
    | none => rw [et] at P; exact P.elim
    | some ρ2 =>
      simp only [et] at P
      refine ⟨D :: F, μ', wipeV ρ own, d, ρ2, E2, rd, et, fun σ2 Eσ hl hj => ⟨?_, ?_⟩⟩
      · exact (wipe_eq hl fun j hj' => hj j fun z => hj' (hown j z)).trans wipe_wipe
      -- the test
      refine ⟨D :: F, ρ2, st, μ', Eσ, S2, ?_⟩
      cases es : sc ρ2 st with
      | bad => rw [es] at P; exact P.elim
      | exc a b c => rw [es] at P; exact P.elim
      | ok kb st3 =>
        rw [es] at P
        intro μ3 H3 kb' x3 S3 rk
        cases rk
        have hv3 : H3 D = some (.lst vs) := x3.keep _ _ hv2 nmD (fun _ z => nomatch z)
        cases kb with
        | false =>
          rw [if_neg (by decide)]
          exact ⟨μ3, st3, acc, vs, hlt, e.trans ((e2.trans x3).cons D), S3, hv3, ra.up (e2.trans x3), fun d v r => (car d v r).up (e2.trans x3), P⟩
        | true =>
          rw [if_pos rfl]
          have P : Post X.K U.cls U.xf F (rlD X.K F) W σ μ1 H1 ((match (se ρ2 st3).bind fun d st4 => R.ok (some d) st4 with | .ok (some d) st1 => if acc.length < sizeLine then lcL (lcF tg own sc se ρ) (items.drop (i + 1)) (acc ++ [d]) st1 else .bad | .ok none st1 => lcL (lcF tg own sc se ρ) (items.drop (i + 1)) acc st1 | _ => .bad).bind fun ys st2 => newL m ys st2) Q := P
          refine ⟨D :: F, ρ2, st3, μ3, Eσ.mono x3, S3, ?_⟩
          cases ee : se ρ2 st3 with
          | bad => rw [ee] at P; exact P.elim
          | exc a b c => rw [ee] at P; exact P.elim
          | ok dy st4 =>
            rw [ee] at P
            intro μ4 H4 y4 x4 S4 r4
            have nm3 : D ∉ μ3 := fun z => S3.dis D z List.mem_cons_self
            have nm4 : D ∉ μ4 := fun z => S4.dis D z List.mem_cons_self
            have hv4 : H4 D = some (.lst vs) := x4.keep _ _ hv3 nm3 (fun _ z => nomatch z)
            have P : Post X.K U.cls U.xf F (rlD X.K F) W σ μ1 H1 ((if acc.length < sizeLine then lcL (lcF tg own sc se ρ) (items.drop (i + 1)) (acc ++ [dy]) st4 else .bad).bind fun ys st2 => newL m ys st2) Q := P
            have e4 := (e2.trans x3).trans x4
            have ra4 := ra.up e4
            by_cases hz : acc.length < sizeLine
            · rw [if_pos hz] at P
              have ch : Chg F μ4 H4 (upd H4 D (.lst (vs ++ [y4]))) D := ⟨⟨_, hv4, .inl ⟨_, rfl⟩⟩, fun a ha => upd_ne ha⟩
              refine ⟨vs, hv4, by rw [← ra4.length]; exact hz, μ4, st4, acc ++ [dy], vs ++ [y4], hlt, ?_, S4.chg ch (by rw [upd_same]; exact fun z => nomatch z), upd_same, ?_, fun d v r => Rel.chg ch _ _ ((car d v r).up e4), P⟩
              · exact (e.trans (e4.cons D)).trans (ext_set List.mem_cons_self)
              · exact (RelL.chg ch _ _ ra4).append (.cons (Rel.chg ch _ _ r4) .nil)
            · rw [if_neg hz] at P; exact P.elim
  · have hi' : i = items.length := by omega
    subst hi'
    refine .inl ⟨hJ.stop μ' H e1, ?_⟩
    rw [List.drop_length] at P
    exact newL_end hD _ e S hv ra (Post.shift .refl P) hF
end
end MP

set_option Elab.async false
set_option linter.all false
set_option maxRecDepth 100000
set_option maxHeartbeats 4000000
namespace MP
open PySem L2 PyProof.Rows
theorem takesF {X : Cx} : Takes X WF := fun _ _ x => by
  obtain ⟨_, _, _, _, _, _, _, _, _, _, _, _, _, _, _, _, z⟩ := x
  exact z.elim
section
variable {U : Wd} {n : Nat} {W : WX} {X : Cx} {F : List Addr}
/-- within a comprehension's block -/
theorem Ctx.inBlk (c : Ctx U n W X) {s : Shared} {H : Hp} {scope : Scope} {env : PySem.Env} {fp : List Addr} : Ctx U n WF (X.blk s H scope env fp) :=
  ⟨⟨c.good.gd, c.good.hu⟩, c.calm, c.nd, takesF, c.room, c.fns, c.gls⟩
def ownN (N : List Str) (own : List Nat) : List (Str × Nat) := own.map fun i => ((N[i]?).getD "", i)
theorem ownN_snd {N : List Str} {own : List Nat} : (ownN N own).map (·.2) = own := by
  unfold ownN
  rw [List.map_map]
  exact List.map_id' own
def notSet : Expr → Bool | .Set _ _ _ => false | _ => true
theorem notSet_eq {e : Expr} (h : notSet e = true) {env : PySem.Env} : ∀ x, foldedSetIterable e env x = pure x := by
  intro x
  unfold foldedSetIterable
  cases e <;> first | rfl | cases h
theorem pe_any {X : Cx} {e : Expr} {sem : MP.Env → DS → R D} (h : ∀ F, PE X e (TDx U X F WF sem)) : PE X e (anyD U X sem) := ⟨fun pins s σ H Q I ⟨F, q⟩ => (h F).run pins s σ H Q I q⟩
theorem pt_any {X : Cx} {e : Expr} {sem : MP.Env → DS → R Bool} (h : ∀ F, PT X e (TBx U X F WF sem)) : PT X e (anyB U X sem) := ⟨fun pins s σ H Q I ⟨F, q⟩ => (h F).run pins s σ H Q I q⟩
/-- the tests of a clause: none, or one -/
theorem pts_any0 {X : Cx} : PTs X [] (anyB U X fun ρ st => R.ok true st) := by
  refine ⟨fun pins s σ H Q I ⟨F, ρ, st, μ, hE, hS, hP⟩ => ?_⟩
  exact pts_nil.run pins s σ H Q I (hP μ H true .refl hS rfl)
theorem pts_any1 {X : Cx} {e : Expr} {sem : MP.Env → DS → R Bool} (h : ∀ F, PT X e (TBx U X F WF sem)) : PTs X [e] (anyB U X fun ρ st => (sem ρ st).bind fun k st1 => if k then R.ok true st1 else .ok false st1) := by
  refine pts_one (pt_imp (pt_any h) fun σ H Q ⟨F, q⟩ => ⟨F, ?_⟩)
  have e1 : (fun (ρ : MP.Env) (st : DS) => (sem ρ st).bind fun k st1 => if k then R.ok true st1 else R.ok false st1) = sem := by
    funext ρ st
    cases sem ρ st with
    | ok a st1 => cases a <;> rfl
    | exc a b c => rfl
    | bad => rfl
  rw [e1] at q
  exact q
/-- a comprehension: what it asks and what it gives -/
def lcS (m : Bool) (tg : TN) (own : List Nat) (si : MP.Env → DS → R (List D)) (sc : MP.Env → DS → R Bool) (se : MP.Env → DS → R D) : MP.Env → DS → R D := fun ρ st => (si ρ st).bind fun items st1 => (lcL (lcF tg own sc se ρ) items [] st1).bind fun ys st2 => newL m ys st2
theorem lc_imp {m : Bool} {tg : TN} {own : List Nat} {si : MP.Env → DS → R (List D)} {sc : MP.Env → DS → R Bool} {se : MP.Env → DS → R D} (hown : ∀ j ∈ tnS tg, j ∈ own) {σ : L2.St} {H : Hp} {Q : VK} (h : TDx U X F W (lcS m tg own si sc se) σ H Q) :
    tLc (ITx U X F W si) (gTN X.K tg) (anyB U X sc) (anyD U X se) own σ H Q := by
  obtain ⟨ρ, st, μ, hE, hS, hP⟩ := h
  refine RD.bind hE hS hP fun items st1 μ1 H1 J x1 S1 r1 E1 P1 => ?_
  exact lc_turn hown E1 S1 r1 P1
theorem k_lc (c : Ctx U n W X) {m : Bool} {tg : TN} {own : List Nat} {elt tge iter : Expr} {ifs : List Expr} {scope : Scope} {pos : Pos} {si : MP.Env → DS → R (List D)} {sc : MP.Env → DS → R Bool} {se : MP.Env → DS → R D}
    (hown : (tnS tg).all (fun j => decide (j ∈ own)) = true) (hb : blkC X.N X.env.scope scope (ownN X.N own) = true) (hns : notSet iter = true) (htg : cTN X.N (relS scope X.env.scope) (fun x => scope.names.lookup x == some .cell) tg tge = true)
    (hi : PI X tge iter (ITx U X F W si)) (ht : ∀ (Y : Cx) (s : Shared) (H : Hp) (C : Addr) (cl : List (Str × Addr)) (fp : List Addr), Y = X.blk s H scope (compEnvC scope cl C X.env) fp → PTs Y ifs (anyB U X sc))
    (he : ∀ (Y : Cx) (s : Shared) (H : Hp) (C : Addr) (cl : List (Str × Addr)) (fp : List Addr), Y = X.blk s H scope (compEnvC scope cl C X.env) fp → PE Y elt (anyD U X se)) :
    PE X (.ListComp elt [⟨tge, iter, ifs, 0⟩] scope pos) (TDx U X F W (lcS m tg own si sc se)) := by
  have hown' : ∀ j ∈ tnS tg, j ∈ own := fun j hj => by simpa using List.all_eq_true.mp hown j hj
  refine pe_imp (pe_lc (wi := ITx U X F W si) (g := gTN X.K tg) (tt := anyB U X sc) (te := anyD U X se) c.calm c.nd hi (blkOk_by hb) (fun s H C cl fp => pgTN (X := X.blk s H scope (compEnvC scope cl C X.env) fp) c.calm c.nd tg tge htg) (fun s H C cl fp => ht _ s H C cl fp rfl) (fun s H C cl fp => he _ s H C cl fp rfl) (notSet_eq hns)) fun σ H Q h => ?_
  rw [ownN_snd]
  exact lc_imp hown' h
end
end MP

set_option Elab.async false
set_option linter.all false
set_option maxRecDepth 100000
set_option maxHeartbeats 4000000
namespace MP
open PySem L2 PyProof.Rows PySem.Spec
/-! ### a tuple, the other way round -/
section
variable {prog : Program} {w : World} {A : Around} {E : Value → Shared → Prop} {s : Shared}
theorem rev_picks (xs : Array Value) : ((List.range xs.size).filterMap fun (m : Nat) => xs[(((xs.size : Int) - 1) + (m : Int) * (-1)).toNat]?).toArray = xs.toList.reverse.toArray := by
  congr 1
  have e : (List.range xs.size).filterMap (fun (m : Nat) => xs[(((xs.size : Int) - 1) + (m : Int) * (-1)).toNat]?) = (List.range xs.size).filterMap ((fun k => xs[k]?) ∘ fun k => xs.size - 1 - k) := by
    have go : ∀ l : List Nat, (∀ m ∈ l, m < xs.size) → l.filterMap (fun (m : Nat) => xs[(((xs.size : Int) - 1) + (m : Int) * (-1)).toNat]?) = l.filterMap ((fun k => xs[k]?) ∘ fun k => xs.size - 1 - k) := by
      intro l
      induction l with
      | nil => intro _; rfl
      | cons m r ih =>
        intro hl
        have h := hl m List.mem_cons_self
        have e1 : (((xs.size : Int) - 1) + (m : Int) * (-1)).toNat = xs.size - 1 - m := by omega
        rw [List.filterMap_cons, List.filterMap_cons, ih fun j hj => hl j (List.mem_cons_of_mem _ hj), e1]
        rfl
    exact go _ fun m hm => List.mem_range.mp hm
  rw [e, ← List.filterMap_map, PySem.W.krv_range, List.filterMap_reverse, PySem.W.krv_all]
theorem adjust_rev (n : Nat) : Builtin.Slice.sliceAdjust none none (-1) (n : Int) = ((n : Int) - 1, -1) := by
  unfold Builtin.Slice.sliceAdjust
  rfl
theorem places_rev (n : Nat) : Builtin.Slice.slicePlaces ((n : Int) - 1) (-1) (-1) = n := by
  unfold Builtin.Slice.slicePlaces
  rw [if_neg (by decide), show (- -1 : Int) = 1 by decide, Int.ediv_one]
  split <;> omega
theorem getItem_tuple_rev {t sl : Addr} {items : Array Value} {vk : Value} {Q : Value → Shared → Prop} (ht : IsTup s.heap t items)
    (hs : s.heap.IsSliceOf sl .none .none vk) (pk : IsPart vk (some (-1)))
    (h : Q (.ref s.heap.objs.size) { s with heap := s.heap.push { cls := .type "tuple", data := .seq items.toList.reverse.toArray } })
    (hz : items.size ≤ sizeLine) : wpAny (model prog w) A (getItem (.ref t) (.ref sl)) Q E s := by
  have fits : sizeOk (.seq items.toList.reverse.toArray) := by
    show items.toList.reverse.toArray.size ≤ sizeLine
    rw [List.size_toArray, List.length_reverse, Array.length_toList]
    exact hz
  obtain ⟨os, hos, hcs, hds⟩ := id hs
  have isl : s.TypeIs (.ref sl) "slice" := ⟨os, hos, hcs⟩
  unfold getItem
  try with_reducible refine wpAny_holding ?_
  first
  | refine wpAny_bind (wpAny_pure ?_)
  | skip
  refine wpAny_bind (wpAny_sequenceKey ht.typeIs
    (by decide) ?_)
  refine wpAny_bind (wpAny_callSpecial?_slot
    (name := Str.ofString "__getitem__") ht.typeIs
    PyProof.Rows.slot_tuple_getitem
    (wpAny_call_entry PyProof.Rows.slot_tuple_getitem
      ht.typeIs entry_tuple_getitem ?_ (args_tuple_getitem _ _)))
  show wpAny _ _
    (Builtin.Tuple.tupleItemsOf (.ref t) >>= _) _ _ s
  refine wpAny_bind
    (tupleItemsOf_ ht ?_)
  refine wpAny_bind
    (wpAny_typeOf isl ?_)
  rw [if_pos
    (by decide)]
  refine wpAny_bind (Q := _) ?_
  unfold Builtin.Slice.sliceApplied
  unfold Builtin.Slice.sliceFields
  refine wpAny_bind (wpAny_bind
    (wpAny_field hos hds (x := .none) rfl (wpAny_bind
      (wpAny_field hos hds (x := .none) rfl (wpAny_bind
        (wpAny_field hos hds (x := vk) rfl (wpAny_pure ?_)))))))
  refine wpAny_bind
    (HT.slicePart_ pk ?_)
  show wpAny _ _
    (if ((-1 : Int) == 0) = true then _ else _) _ _ s
  rw [if_neg
    (by decide)]
  refine wpAny_bind (HT.slicePart_ .none
    (wpAny_bind (HT.slicePart_ .none (wpAny_bind (wpAny_pure ?_)))))
  show wpAny _ _ (match Builtin.Slice.sliceAdjust none none (-1) (items.size : Int) with
    | (lo, hi) => pure (lo, (-1 : Int), Builtin.Slice.slicePlaces lo hi (-1))) _ _ s
  rw [adjust_rev]
  show wpAny _ _ (pure ((items.size : Int) - 1, (-1 : Int), Builtin.Slice.slicePlaces ((items.size : Int) - 1) (-1) (-1))) _ _ s
  rw [places_rev]
  refine wpAny_pure ?_
  show wpAny _ _ (if ((((items.size : Int) - 1) == 0 && (-1 : Int) == 1 && items.size == items.size) = true) then _ else _) _ _ s
  rw [if_neg (by simp), rev_picks]
  first
    | exact wpAny_bind (m := Builtin.Tuple.tupleExact _)
        (wpAny_newObj_type (wpAny_pure ⟨_, rfl, wpAny_pure h⟩) fits)
    | exact wpAny_bind (m := Builtin.Tuple.tupleExact _)
        (wpAny_newObj_type (wpAny_bind (wpAny_pure (wpAny_pure ⟨_, rfl, wpAny_pure h⟩))) fits)
    | exact wpAny_bind (wpAny_bind (m := Builtin.Tuple.tupleExact _)
        (wpAny_newObj_type (wpAny_pure (wpAny_pure ⟨_, rfl, wpAny_pure h⟩)) fits))
    | exact wpAny_bind (wpAny_bind (m := Builtin.Tuple.tupleExact _)
        (wpAny_newObj_type (wpAny_pure ⟨_, rfl, wpAny_pure h⟩) fits))
end
section
variable {X : Cx}
def tRevT (K : PySem.W.Frag) (te : TE) : TE := fun σ H Q => te σ H fun x H1 => ∃ a xs, x = .ref a ∧ SqT K H1 a xs ∧ ∀ p, H1 p = none → Q (.ref p) (upd H1 p (.tup xs.reverse))
theorem pe_revT {e : Expr} {te : TE} {k : Nat} {p1 p2 p3 pos : Pos} (he : PE X e te) : PE X (.Subscript e (.Slice none none (some (.UnaryOp .USub (.Constant (.int 1) k p1) p2)) p3) pos) (tRevT X.K te) := by
  refine ⟨fun pins s σ H Q I h => ?_⟩
  refine Subscript_ (thn (he.run pins s σ H _ I h) fun v s1 ⟨x, H1, I1, r1, a, xs, ex, hx, q⟩ => ?_)
  subst ex
  cases r1
  have hst : PO X (some (.UnaryOp .USub (.Constant (.int 1) k p1) p2)) (tPart (tUn (rU fun i => .int (-i)) (tC (.int 1)))) :=
    po_some (pe_un un_neg pe_int)
  refine wpAny_Slice (thn (po_none.run pins s1 σ H1 (fun o H2 => o = none ∧ H2 = H1) I1
    ⟨rfl, rfl⟩) fun vl s2 ⟨l, H2, I2, pl, el, e2⟩ => ?_)
  subst el e2
  refine thn (po_none.run pins s2 σ H2 (fun o H3 => o = none ∧ H3 = H2) I2
    ⟨rfl, rfl⟩) fun vu s3 ⟨u, H3, I3, pu, eu, e3⟩ => ?_
  subst eu e3
  refine thn (hst.run pins s3 σ H3 (fun o H4 => o = some (-1) ∧ H4 = H3) I3
    ⟨1, rfl, -1, rfl, rfl, rfl⟩) fun vs s4 ⟨o, H4, I4, ps, eo, e4⟩ => ?_
  subst eo e4
  cases pl
  cases pu
  have I5 : Inv X pins σ H4 { s4 with heap := s4.heap.push { cls := .type "slice", data := .fields #[.none, .none, vs] } } :=
    I4.kept (t' := s4.toks) fun b ob q => Heap.get?_push_of_some _ q
  obtain ⟨its, r, ht, hz⟩ := I5.tuple hx
  have hlen := r.length
  show wpAny (model X.prog X.w) X.A (subscriptTail e (.Slice none none
    (some (.UnaryOp .USub (.Constant (.int 1) k p1) p2)) p3) (.ref a) (.ref s4.heap.objs.size)) (EP X pins σ Q) X.xe
    { s4 with heap := s4.heap.push { cls := .type "slice", data := .fields #[.none, .none, vs] } }
  refine tail_any (ops := [.ref a, .ref s4.heap.objs.size]) ht.typeIs
    PyProof.Rows.slot_tuple_getitem.lookup ?_ (by with_unfolding_all rfl)
  refine getItem_tuple_rev ht (Heap.IsSliceOf.new _ .none .none vs) ps ?_ (by rw [List.size_toArray]; omega)
  refine ⟨.ref _, _, I5.laid (t' := s4.toks) (o := .tup xs.reverse)
    (fun b ob q => Heap.get?_push_of_some _ q) (Nat.le_refl _) ?_, rfl, q _ (I5.hok.fresh (Nat.le_refl _))⟩
  exact ⟨by rw [List.length_reverse]; exact hz, _, r.reverse, IsTup.new _ _⟩
end
end MP

set_option Elab.async false
set_option linter.all false
set_option maxRecDepth 100000
set_option maxHeartbeats 4000000
namespace MP
open PySem L2 PyProof.Rows
section
variable {U : Wd} {n : Nat} {W : WX} {X : Cx} {F : List Addr}
theorem k_revT {a : Expr} {k : Nat} {p1 p2 p3 p : Pos} {sa : MP.Env → DS → R D} (ha : PE X a (TDx U X F W sa)) :
    PE X (.Subscript a (.Slice none none (some (.UnaryOp .USub (.Constant (.int 1) k p1) p2)) p3) p) (TDx U X F W fun ρ st => (sa ρ st).bind fun x st1 => match x with | .tup xs => .ok (.tup xs.reverse) st1 | _ => .bad) :=
  pe_imp (pe_revT ha) fun σ H Q ⟨ρ, st, μ, hE, hS, hP⟩ => RD.bind hE hS hP fun d st1 μ1 H1 v x1 S1 r1 E1 P1 => by
    cases d <;> first | exact P1.elim | skip
    obtain ⟨b, vs, rfl, sq, r4⟩ := tupD_rel r1
    exact ⟨b, vs, rfl, sq, fun q hq => P1 μ1 _ _ (ext_new hq) (S1.new hq) (new_tup S1 hq r4.reverse)⟩
theorem k_binO {op : BOp} {a b : Expr} {p : Pos} {sa sb : MP.Env → DS → R D} (ha : PE X a (TDx U X F W sa)) (hb : PE X b (TDx U X F W sb)) :
    PE X (.BinOp a (toOp op) b p) (TDx U X F W fun ρ st => (sa ρ st).bind fun x st1 => (sb ρ st1).bind fun y st2 => match catD op st2 x y with | some zs => newL true zs st2 | none => .bad) :=
  pe_imp (pe_op (cat_ok (cls := U.cls) (F := F) op) ha hb) fun σ H Q ⟨ρ, st, μ, hE, hS, hP⟩ =>
    RD.bind hE hS hP fun d1 st1 μ1 H1 v1 x1 S1 r1 E1 P1 => RD.bind E1 S1 P1 fun d2 st2 μ2 H2 v2 x2 S2 r2 E2 P2 => by
      cases e : catD op st2 d1 d2 with
      | none => rw [e] at P2; exact P2.elim
      | some zs =>
        rw [e] at P2
        exact ⟨μ2, st2, d1, d2, zs, S2, r1.up x2, r2, e, fun ws p hp rl => newL_ok S2 rl P2 hp⟩
theorem k_bad {e : Expr} : PE X e (TDx U X F W fun _ _ => .bad) := ⟨fun pins s σ H Q I ⟨ρ, st, μ, hE, hS, hP⟩ => hP.elim⟩
/-! ### dicts that come new -/
theorem RelP.append {K : PySem.W.Frag} {μ : List Addr} {H : Hp} : ∀ {ds es : List (D × D)} {vs ws : List (Key × V)}, RelP K F μ H ds vs → RelP K F μ H es ws → RelP K F μ H (ds ++ es) (vs ++ ws)
  | [], _, _, _, h, g => by cases h; exact g
  | (k, d) :: ds, _, _, _, h, g => by
    cases h with
    | cons h0 h1 h2 => exact .cons h0 h1 (RelP.append h2 g)
theorem RelP.any {K : PySem.W.Frag} {μ : List Addr} {H : Hp} {k : Key} : ∀ {ds : List (D × D)} {vs : List (Key × V)}, RelP K F μ H ds vs → ds.any (fun kv => decide (keyOf kv.1 = some k)) = vs.any fun kv => decide (kv.1 = k)
  | [], _, h => by cases h; rfl
  | (a, d) :: ds, _, h => by
    cases h with
    | cons h0 h1 h2 =>
      rw [List.any_cons, List.any_cons, RelP.any h2]
      dsimp only
      rw [h0]
      simp
theorem RelP.map {K : PySem.W.Frag} {μ : List Addr} {H : Hp} {k : Key} {y : D} {v : V} (r : Rel K F μ H y v) : ∀ {ds : List (D × D)} {vs : List (Key × V)}, RelP K F μ H ds vs →
    RelP K F μ H (ds.map fun kv => if keyOf kv.1 = some k then (kv.1, y) else kv) (vs.map fun kv => if kv.1 = k then (kv.1, v) else kv)
  | [], _, h => by cases h; exact .nil
  | (a, d) :: ds, _, h => by
    cases h with
    | @cons _ _ key w _ vs h0 h1 h2 =>
      rw [List.map_cons, List.map_cons]
      dsimp only
      by_cases e : key = k
      · rw [if_pos (by rw [h0, e]), if_pos e]
        exact .cons h0 r (RelP.map r h2)
      · rw [if_neg (by rw [h0]; simpa using e), if_neg e]
        exact .cons h0 h1 (RelP.map r h2)
theorem RelP.put {K : PySem.W.Frag} {μ : List Addr} {H : Hp} {k : Key} {x y : D} {v : V} {ds : List (D × D)} {vs : List (Key × V)} (h : RelP K F μ H ds vs) (hk : keyOf x = some k) (r : Rel K F μ H y v) : RelP K F μ H (putP ds k x y) (putK vs k v) := by
  unfold putP putK
  rw [h.any]
  split
  · exact h.map r
  · exact h.append (.cons hk r .nil)
theorem RelP.merge {K : PySem.W.Frag} {μ : List Addr} {H : Hp} : ∀ {es : List (D × D)} {ws : List (Key × V)} {ds : List (D × D)} {vs : List (Key × V)}, RelP K F μ H es ws → RelP K F μ H ds vs → RelP K F μ H (mergeP ds es) (mergeK vs ws)
  | [], _, _, _, h, g => by cases h; exact g
  | (k, d) :: es, _, ds, vs, h, g => by
    cases h with
    | @cons _ _ key w _ ws h0 h1 h2 =>
      have e1 : mergeP ds ((k, d) :: es) = mergeP (putP ds key k d) es := by
        show (match keyOf k with | some a => mergeP (putP ds a k d) es | none => ds) = _
        rw [h0]
      rw [e1]
      show RelP K F μ H _ (mergeK (putK vs key w) ws)
      exact RelP.merge h2 (g.put h0 h1)
theorem pairUp_len : ∀ {xs : List D} {kvs : List (D × D)}, pairUp xs = some kvs → xs.length = 2 * kvs.length
  | [], _, h => by cases h; rfl
  | [_], _, h => by cases h
  | k :: v :: r, _, h => by
    have h' : (pairUp r).map (fun l => (k, v) :: l) = some _ := h
    obtain ⟨l, e, rfl⟩ := laysome h'
    have := pairUp_len e
    simp only [List.length_cons]
    omega
/-- the pairs of a display, as values -/
theorem pairs_rel {K : PySem.W.Frag} {μ : List Addr} {H : Hp} : ∀ {xs : List D} {kvs : List (D × D)} {l : List (Key × D)} {ps : List (V × V)}, RelL K F μ H xs (ps.flatMap fun p => [p.1, p.2]) → pairUp xs = some kvs → keysOf kvs = some l →
    ∃ vs : List (Key × V), ps = vs.map (fun kv => (kV kv.1, kv.2)) ∧ RelP K F μ H kvs vs
  | [], _, _, ps, r, h, _ => by
    cases h
    cases ps with
    | nil => exact ⟨[], rfl, .nil⟩
    | cons p ps => cases r
  | [_], _, _, _, _, h, _ => by cases h
  | k :: v :: r, _, _, ps, rl, h, hk => by
    have h' : (pairUp r).map (fun l => (k, v) :: l) = some _ := h
    obtain ⟨kvs, e, rfl⟩ := laysome h'
    cases ps with
    | nil => cases rl
    | cons p ps =>
      have rl' : RelL K F μ H (k :: v :: r) (p.1 :: p.2 :: ps.flatMap fun p => [p.1, p.2]) := rl
      cases rl' with
      | cons r1 r2 =>
        cases r2 with
        | cons r3 r4 =>
          unfold keysOf at hk
          split at hk
          · rename_i a b ea eb
            cases hk
            obtain ⟨vs, e1, e2⟩ := pairs_rel r4 e eb
            refine ⟨(a, p.2) :: vs, ?_, .cons ea r3 e2⟩
            rw [List.map_cons, ← e1, ← rel_key r1 ea]
          · cases hk
def anyW (U : Wd) (X : Cx) (W : WX) (sem : MP.Env → DS → R D) : TE := fun σ H Q => ∃ F, TDx U X F W sem σ H Q
theorem pe_anyW {X : Cx} {e : Expr} {sem : MP.Env → DS → R D} (h : ∀ F, PE X e (TDx U X F W sem)) : PE X e (anyW U X W sem) := ⟨fun pins s σ H Q I ⟨F, q⟩ => (h F).run pins s σ H Q I q⟩
/-- the meanings of a display's expressions, one after another -/
def seqR : List (MP.Env → DS → R D) → MP.Env → DS → R (List D)
  | [], _, st => .ok [] st
  | f :: r, ρ, st => (f ρ st).bind fun x st1 => (seqR r ρ st1).bind fun xs st2 => .ok (x :: xs) st2
def trsOf (U : Wd) (X : Cx) (W : WX) : List (MP.Env → DS → R D) → List (TE × TE)
  | a :: b :: r => (anyW U X W a, anyW U X W b) :: trsOf U X W r
  | _ => []
theorem R.bind_ok {α β : Type} {x : R α} {k : α → DS → R β} {b : β} {st' : DS} (h : x.bind k = .ok b st') : ∃ a st1, x = .ok a st1 ∧ k a st1 = .ok b st' := by
  cases x with
  | ok a st1 => exact ⟨a, st1, rfl, h⟩
  | exc a b c => cases h
  | bad => cases h
theorem pairs_imp {F' : List Addr} {σ : L2.St} {ρ : MP.Env} : ∀ (fs : List (MP.Env → DS → R D)) (st : DS) (μ : List Addr) (H : Hp) (Q' : List (V × V) → Hp → Prop) (ds : List D) (st1 : DS) (kvs : List (D × D)), EnvRel X.K F' μ H ρ σ → StRel X.K U.cls F' μ H st → seqR fs ρ st = .ok ds st1 → pairUp ds = some kvs →
    (∀ μ1 H1 ps, Ext μ μ1 H H1 → StRel X.K U.cls F' μ1 H1 st1 → RelL X.K F' μ1 H1 ds (ps.flatMap fun (p : V × V) => [p.1, p.2]) → Q' ps H1) → tPairs (trsOf U X W fs) σ H Q'
  | [], st, μ, H, Q', ds, st1, kvs, hE, hS, e, ep, k => by
    cases e
    exact k μ H [] .refl hS .nil
  | [f], st, μ, H, Q', ds, st1, kvs, hE, hS, e, ep, k => by
    obtain ⟨a, s1, e1, e2⟩ := R.bind_ok e
    cases e2
    cases ep
  | f :: g :: r, st, μ, H, Q', ds, st1, kvs, hE, hS, e, ep, k => by
    obtain ⟨a, s1, e1, e2⟩ := R.bind_ok e
    obtain ⟨xs, s2, e3, e4⟩ := R.bind_ok e2
    cases e4
    obtain ⟨b, s3, e5, e6⟩ := R.bind_ok e3
    obtain ⟨ys, s4, e7, e8⟩ := R.bind_ok e6
    cases e8
    have ep' : (pairUp ys).map (fun l => (a, b) :: l) = some kvs := ep
    obtain ⟨kvs', ep2, rfl⟩ := laysome ep'
    refine ⟨F', ρ, st, μ, hE, hS, ?_⟩
    rw [e1]
    intro μ1 H1 v1 x1 S1 r1
    refine ⟨F', ρ, s1, μ1, hE.mono x1, S1, ?_⟩
    rw [e5]
    intro μ2 H2 v2 x2 S2 r2
    refine pairs_imp r s3 μ2 H2 _ ys _ kvs' (hE.mono (x1.trans x2)) S2 e7 ep2 fun μ3 H3 ps x3 S3 r3 => ?_
    exact k μ3 H3 ((v1, v2) :: ps) ((x1.trans x2).trans x3) S3 (.cons (r1.up (x2.trans x3)) (.cons (r2.up x3) r3))
/-- the dict at D is handed over -/
theorem newD_end {K : PySem.W.Frag} {cls : Cl} {xf : Nat → List Str} {μ μ' : List Addr} {H H' : Hp} {st : DS} {σ : L2.St} {Q : VK} {m : Bool} {ds : List (D × D)} {vs : List (Key × V)} {D₀ : Addr} (hD : H D₀ = none) (o : HO) (e : Ext (D₀ :: μ) (D₀ :: μ') (upd H D₀ o) H') (S : StRel K cls (D₀ :: F) μ' H' st) (hv : H' D₀ = some (.dK vs))
    (r : RelP K (D₀ :: F) μ' H' ds vs) (h : Post K cls xf F (rlD K F) W σ μ H (newD m ds st) Q) (hF : D₀ ∉ F) : Q (.ref D₀) H' := by
  have nm : D₀ ∉ μ' := fun z => S.dis D₀ z List.mem_cons_self
  unfold newD at h
  cases m with
  | false => exact h μ' H' _ (ext_made hD o e) S.lessF (.dic hv nm hF (RelP.lessF _ _ r))
  | true =>
    have g : Grows (.dK vs) := .inr ⟨vs, rfl⟩
    refine h _ H' _ (ext_madeO hD o e) (S.took hv g ⟨vs, hv, RelP.car (car_own hv g) _ _ r⟩ hF) (.ref ?_)
    have hl := S.len
    rw [List.getElem?_append_right (by omega), hl, Nat.sub_self]
    rfl
def dicS (m : Bool) (sl : MP.Env → DS → R (List D)) : MP.Env → DS → R D := fun ρ st => match sl ρ st with
  | .ok xs st1 => (match pairUp xs with
    | some kvs => if kvs.length ≤ 15 ∧ (keysOf kvs).isSome then newD m (mergeP [] kvs) st1 else .bad
    | none => .bad)
  | _ => .bad
theorem k_dic {m : Bool} {ks : List (Option Expr)} {es : List Expr} {p : Pos} {fs : List (MP.Env → DS → R D)} (h : PPs X p ks es (trsOf U X W fs)) (hall : ks.all (·.isSome) = true) (hl : ks.length = es.length) (h0 : ks ≠ []) (h15 : ks.length ≤ 15) :
    PE X (.Dict ks es p) (TDx U X F W (dicS m (seqR fs))) := by
  refine pe_imp (pe_disp h hall hl h0 h15) fun σ H Q ⟨ρ, st, μ, hE, hS, hP⟩ => ?_
  intro p hp
  unfold dicS at hP
  cases e : seqR fs ρ st with
  | exc a b c => rw [e] at hP; exact hP.elim
  | bad => rw [e] at hP; exact hP.elim
  | ok xs st1 =>
    rw [e] at hP
    dsimp only at hP
    cases ep : pairUp xs with
    | none => rw [ep] at hP; exact hP.elim
    | some kvs =>
      rw [ep] at hP
      dsimp only at hP
      split at hP
      · rename_i hc
        obtain ⟨l, el⟩ := Option.isSome_iff_exists.mp hc.2
        have e1 : Ext μ μ H (upd H p (.dK [])) := ext_new hp
        refine pairs_imp (F' := p :: F) fs st μ (upd H p (.dK [])) _ xs st1 kvs ((hE.addF hp).mono e1) (hS.lay hp _) e ep fun μ1 H1 ps x1 S1 r1 => ?_
        have nm : p ∉ μ := fun z => hS.ne z hp
        have nm1 : p ∉ μ1 := fun z => S1.dis p z List.mem_cons_self
        have hv : H1 p = some (.dK []) := x1.keep _ _ upd_same nm fun _ z => nomatch z
        obtain ⟨vs, e2, r2⟩ := pairs_rel r1 ep el
        refine ⟨hv, vs, e2, by rw [← r2.length]; exact hc.1, ?_⟩
        have ch : Chg F μ1 H1 (upd H1 p (.dK (mergeK [] vs))) p := ⟨⟨_, hv, .inr ⟨_, rfl⟩⟩, fun a ha => upd_ne ha⟩
        refine newD_end hp (.dK []) ((x1.cons p).trans (ext_set List.mem_cons_self)) (S1.chg ch (by rw [upd_same]; exact fun z => nomatch z)) upd_same (RelP.chg ch _ _ (RelP.merge r2 .nil)) hP (hS.freshF hp)
      · exact hP.elim
theorem k_emp {m : Bool} {p : Pos} : PE X (.Dict [] [] p) (TDx U X F W fun _ st => newD m [] st) :=
  pe_imp pe_dnewK fun σ H Q ⟨ρ, st, μ, hE, hS, hP⟩ q hq => newD_end hq (.dK []) .refl (hS.lay hq _) upd_same .nil hP (hS.freshF hq)
/-! ### methods -/
theorem lstR' {μ : List Addr} {H : Hp} {st : DS} {n : Nat} {v : V} (S : StRel X.K U.cls F μ H st) (r : Rel X.K F μ H (.ref n) v) {ob : Ob} (e : getO st n = some ob) : ∃ a, v = .ref a ∧ μ[n]? = some a ∧ ObRel X.K U.cls F μ H a ob := by
  cases r with
  | ref hn =>
    obtain ⟨ob', e', o⟩ := S.obj n _ hn
    rw [e] at e'; cases e'
    exact ⟨_, rfl, hn, o⟩
theorem tyL {μ : List Addr} {H : Hp} {st : DS} {d : D} {v : V} (S : StRel X.K U.cls F μ H st) (r : Rel X.K F μ H d v) (h : (lstD st d).isSome = true) : tyV X.K "list" v H := by
  obtain ⟨xs, e⟩ := Option.isSome_iff_exists.mp h
  obtain ⟨a, vs, rfl, ha, _⟩ := lstR S r e
  exact .inl ⟨rfl, vs, SqL.of ha⟩
theorem setL {μ : List Addr} {H : Hp} {st : DS} {n : Nat} {a : Addr} {xs ys : List D} {ws : List V} (S : StRel X.K U.cls F μ H st) (hn : μ[n]? = some a) (r : RelL X.K F μ H ys ws) : Ext μ μ H (upd H a (.lst ws)) ∧ StRel X.K U.cls F μ (upd H a (.lst ws)) (setO st n (.lst ys)) := by
  have e : Ext μ μ H (upd H a (.lst ws)) := ext_set (List.mem_of_getElem? hn)
  exact ⟨e, S.set hn ⟨ws, upd_same, r.up e⟩⟩
/-- o.append(x) -/
theorem k_append {o e : Expr} {apos cpos : Pos} {so : MP.Env → DS → R D} {sr : MP.Env → DS → R (List D)} (ho : PE X o (TDx U X F W so)) (hr : PA X [e] (TLx U X F W sr)) (hn : noStar e = true) (hb : plainBase o = true) (hln : (apos.endLine == cpos.line) = true) :
    PE X (.Call (.Attribute o "append" apos) [e] [] cpos) (TDx U X F W fun ρ st => (so ρ st).bind fun x st1 => if mtyD .append st1 x then (sr ρ st1).bind fun xs st2 => methD .append st2 x xs else .bad) := by
  refine pe_imp (pe_bm (r := rAppend) PySem.F.plainAttrs_list PySem.F.slot_list_append type_list_append mt_append ho hr (plainBase_eq hb) (by rw [star1 hn]; rfl) hln (star1 hn) rfl) fun σ H Q ⟨ρ, st, μ, hE, hS, hP⟩ => RD.bind hE hS hP fun d st1 μ1 H1 v x1 S1 r1 E1 P1 => ?_
  split at P1
  · rename_i hm
    refine ⟨tyL S1 r1 hm, RD.bind E1 S1 P1 fun ds st2 μ2 H2 vs x2 S2 r2 E2 P2 => ?_⟩
    cases d <;> first | exact P2.elim | skip
    rename_i n
    rcases ds with _ | ⟨d', _ | ⟨d2, ds⟩⟩
    · exact P2.elim
    rotate_left
    · exact P2.elim
    unfold methD at P2
    dsimp only at P2
    cases eo : getO st2 n with
    | none => rw [eo] at P2; exact P2.elim
    | some ob =>
      rw [eo] at P2
      cases ob with
      | dic _ => exact P2.elim
      | ins _ _ => exact P2.elim
      | lst ys =>
        dsimp only at P2
        split at P2
        · rename_i hl
          obtain ⟨a, rfl, hn2, ws, ea, rw2⟩ := lstR' S2 (r1.up x2) eo
          obtain ⟨y, rfl, ry⟩ := relL1 r2
          obtain ⟨e1, S3⟩ := setL (xs := ys) S2 hn2 (rw2.append (.cons ry .nil))
          exact ⟨a, ws, y, rfl, rfl, ea, by rw [← rw2.length]; exact hl, P2 μ2 _ _ e1 S3 .non⟩
        · exact P2.elim
  · exact P1.elim
/-- o.pop() -/
theorem k_pop {o : Expr} {apos cpos : Pos} {so : MP.Env → DS → R D} (ho : PE X o (TDx U X F W so)) (hb : plainBase o = true) (hln : (apos.endLine == cpos.line) = true) :
    PE X (.Call (.Attribute o "pop" apos) [] [] cpos) (TDx U X F W fun ρ st => (so ρ st).bind fun x st1 => if mtyD .pop st1 x then (R.ok [] st1).bind fun xs st2 => methD .pop st2 x xs else .bad) := by
  refine pe_imp (pe_bm0 (r := rPop) PySem.F.plainAttrs_list PySem.F.slot_list_pop PySem.F.type_list_pop mt_pop ho (plainBase_eq hb) hln) fun σ H Q ⟨ρ, st, μ, hE, hS, hP⟩ => RD.bind hE hS hP fun d st1 μ1 H1 v x1 S1 r1 E1 P1 => ?_
  split at P1
  · rename_i hm
    refine ⟨tyL S1 r1 hm, ?_⟩
    have P2 : Post X.K U.cls U.xf F (rlD X.K F) W σ μ1 H1 (methD .pop st1 d []) Q := P1
    cases d <;> first | exact P2.elim | skip
    rename_i n
    unfold methD at P2
    dsimp only at P2
    cases eo : getO st1 n with
    | none => rw [eo] at P2; exact P2.elim
    | some ob =>
      rw [eo] at P2
      cases ob with
      | dic _ => exact P2.elim
      | ins _ _ => exact P2.elim
      | lst ys =>
        dsimp only at P2
        split at P2
        · rename_i y hy
          obtain ⟨a, rfl, hn2, ws, ea, rw2⟩ := lstR' S1 r1 eo
          obtain ⟨w', hw, ry⟩ := rw2.get hy
          obtain ⟨e1, S3⟩ := setL (xs := ys) S1 hn2 rw2.dropLast
          exact ⟨a, ws, w', rfl, rfl, ea, by rw [← rw2.length]; exact hw, P2 μ1 _ _ e1 S3 (ry.up e1)⟩
        · exact P2.elim
  · exact P1.elim
/-- o.bit_length() -/
theorem k_bits {o : Expr} {apos cpos : Pos} {so : MP.Env → DS → R D} (ho : PE X o (TDx U X F W so)) (hb : plainBase o = true) (hln : (apos.endLine == cpos.line) = true) :
    PE X (.Call (.Attribute o "bit_length" apos) [] [] cpos) (TDx U X F W fun ρ st => (so ρ st).bind fun x st1 => if mtyD .bitlen st1 x then (R.ok [] st1).bind fun xs st2 => methD .bitlen st2 x xs else .bad) := by
  refine pe_imp (pe_bits ho (plainBase_eq hb) hln) fun σ H Q ⟨ρ, st, μ, hE, hS, hP⟩ => RD.bind hE hS hP fun d st1 μ1 H1 v x1 S1 r1 E1 P1 => ?_
  split at P1
  · have P2 : Post X.K U.cls U.xf F (rlD X.K F) W σ μ1 H1 (methD .bitlen st1 d []) Q := P1
    cases d <;> first | exact P2.elim | skip
    cases r1
    exact ⟨_, rfl, P2 μ1 H1 _ .refl S1 (.int _)⟩
  · exact P1.elim
end
end MP

set_option Elab.async false
set_option linter.all false
set_option maxRecDepth 100000
set_option maxHeartbeats 4000000
namespace MP
open PySem PySem.Spec PyProof.Rows L2 LamX
theorem alive {H : Hp} {P c : Addr} {o u : HO} {ps : Array Value} (hP : H P = some (.tbl ps)) (hc : H c = none) (p : Addr) (h : H p ≠ none) : upd (upd H P o) c u p ≠ none := by
  by_cases e : p = c
  · rw [e] at h; exact absurd hc h
  · rw [upd_ne e]
    by_cases e2 : p = P
    · rw [e2, upd_same]; exact fun z => nomatch z
    · rw [upd_ne e2]; exact h
def tLamG (T : List (Addr × Str)) (TT : (XK → Hp → VK → Prop) → Hp → VK → Prop) (t : XK → TE) : TE := fun σ H Q => Tabs T H ∧ ∀ H1, ExtN H H1 → Tabs T H1 → (∀ p, H p ≠ none → H1 p ≠ none) → TT (fun E H' Q' => t E σ H' Q') H1 Q
/-- the def that calls what it got -/
def GivesG (X : Cx) (Ng : List Str) (x : Str) (sg : Scope) (g : Addr) (cdg : Value) (bg : List Stmt) (a : Str) (q : Str) (TT : (XK → Hp → VK → Prop) → Hp → VK → Prop) : Prop :=
  ∀ (f c' : Addr) (s : Shared) (H : Hp) (Q : VK) (tl : XK → Hp → VK → Prop),
    (∀ (W : WX) (pn : List (Addr × Obj)) (xe : Value → Shared → Prop) (E : XK) (p1 p2 : Pos), Takes ((cxOf C8.CX0 X.prog X.w X.K X.mg X.base Ng x sg g cdg X.A X.stack s H C8.E0).tr pn xe) W → (∀ cls d σ' H', σ'.length = Ng.length → E cls d H' → W cls d σ' H') →
      PE ((cxOf C8.CX0 X.prog X.w X.K X.mg X.base Ng x sg g cdg X.A X.stack s H C8.E0).tr pn xe) (.Call (.Name a p1) [] [] p2) (fun σZ HZ Q => σZ[0]? = some (some (.ref f)) ∧ HZ c' = some (CodeO c' q) ∧ tl E HZ Q)) →
    H c' = some (CodeO c' q) → TT tl H Q →
    ∃ t, PSs (cxOf C8.CX0 X.prog X.w X.K X.mg X.base Ng x sg g cdg X.A X.stack s H C8.E0).nox bg t ∧ t { nx := fun _ H' => Q .non H', rt := Q } (L2.start Ng [.ref f]) H
section
variable {X : Cx} {pins : List (Addr × Obj)} {σ : L2.St} {H : Hp} {s : Shared}
theorem lamMake {T : List (Addr × Str)} {c P : Addr} {params : Arguments} {body : Expr} {scope : Scope} {pos : Pos} {E : Value → Shared → Prop} {Q : Value → Shared → Prop} (I : Inv X pins σ H s) (tab : TabB X.base X.mg c P) (cdE : X.env.code = .ref c)
    (inT : (P, X.env.qual ++ "<lambda>") ∈ T) (onlyT : ∀ p ∈ T, p.1 = P → p.2 = X.env.qual ++ "<lambda>") (tbs : Tabs T H) (noDf : defaultsOf params X.env = ([], [])) (frC : ∀ y ∈ scope.names, y.2 = .free → ∃ c, X.env.cells.lookup y.1 = some c)
    (h : ∀ (f c' : Addr) (pm ctv : Value) (H1 : Hp) (s' : Shared), Inv X pins σ H1 s' → ExtN H H1 → Tabs T H1 → (∀ p, H p ≠ none → H1 p ≠ none) →
      s'.heap.get? f = some (PySem.W.kla_obj "<lambda>" (X.env.qual ++ "<lambda>") params body scope (cloFrom X.env.cells scope.names []) pm c' ctv) → H1 f = none → f ∉ frs X.stack → H1 c' = some (CodeO c' (X.env.qual ++ "<lambda>")) → Q (.ref f) s') :
    wpAny (model X.prog X.w) X.A (PySem.eval (.Lambda params body scope pos) X.env) Q E s := by
  obtain ⟨ps, hP, trp, ha⟩ := tbs _ inT
  refine PySem.W.kla_eval noDf ?_
  have bltP : s.heap.BuiltinsAt X.mg P := tab.bm.keeps I.bk
  have hP' : s.heap.get? P = some { cls := .none, data := .fields ps } := I.hok P _ hP
  have apart : ∀ f, s.heap.objs.size ≤ f → f ∉ frs X.stack := fun f hf z => by
    rcases List.mem_cons.mp (I.stkSub _ z) with e | e
    · have h1 := I.lt
      rw [← e] at h1
      exact Nat.lt_irrefl _ (Nat.lt_of_lt_of_le h1 hf)
    · exact I.nofs hf e
  cases hc : codeAmong pos ps.toList with
  | none =>
    refine PySem.W.kla_makeFunction (mg := X.mg) (c := c) (P := P) (ps := ps) (closure_ok frC) I.ok.glob (I.mod.glob.keeps I.bk) cdE (tab.code.keeps I.bk) hP' trp hc tab.gP bltP fun c' ctv h' tk hx hge hlt hrec htb => ?_
    obtain ⟨c2, oc, vs, t, e2, hoc, hd, hv⟩ := hrec
    cases e2
    have hsz : s.heap.objs.size ≤ h'.objs.size := Nat.le_trans hge (Nat.le_of_lt hlt)
    have nwC : H c' = none := I.hok.fresh hge
    have J1 := inv_table (t' := tk) (more := #[rawInt pos.line, rawInt pos.col, .ref c']) (h' := h'.push (PySem.W.kla_obj "<lambda>" (X.env.qual ++ "<lambda>") params body scope (cloFrom X.env.cells scope.names []) ((X.mg "__name__").getD .none) c' ctv)) I hP
      (fun b o hb e => Heap.get?_push_of_some _ (hx b o hb e)) (Heap.get?_push_of_some _ htb) hge ⟨oc, vs, t, Heap.get?_push_of_some _ hoc, hd, hv⟩
    have ext1 : ExtN H (upd (upd H P (.tbl (ps ++ #[rawInt pos.line, rawInt pos.col, .ref c']))) c' (CodeO c' (X.env.qual ++ "<lambda>"))) := fun b o e n => by
      rw [upd_ne (ne_of_none e nwC), upd_ne (fun z => n ps (Option.some.inj (e.symm.trans (by rw [z]; exact hP))))]
      exact e
    have eL : (ps ++ #[rawInt pos.line, rawInt pos.col, .ref c']).toList = ps.toList ++ [rawInt pos.line, rawInt pos.col, .ref c'] := by simp
    refine h h'.objs.size c' ((X.mg "__name__").getD .none) ctv _ _ J1 ext1 (fun p hp => ?_) (fun p hp => alive hP nwC p hp) (Heap.get?_push_size _ rfl) ?_ (apart _ hsz) upd_same
    · by_cases hb : p.1 = P
      · rw [onlyT p hp hb, hb]
        refine ⟨_, by rw [upd_ne (ne_of_none hP nwC), upd_same], by rw [eL]; exact PySem.TriplesOk_snoc _ _ _ _ trp, fun p' cv hcv => ?_⟩
        rw [eL] at hcv
        rcases among_app _ trp hcv with z | z
        · obtain ⟨c0, e1, e2⟩ := ha p' cv z
          exact ⟨c0, e1, ext1 _ _ e2 codeO_ne⟩
        · exact ⟨c', z, upd_same⟩
      · obtain ⟨ps', a1, a2, a3⟩ := tbs p hp
        refine ⟨ps', by rw [upd_ne (ne_of_none a1 nwC), upd_ne hb]; exact a1, a2, fun p' cv hcv => ?_⟩
        obtain ⟨c0, e1, e2⟩ := a3 p' cv hcv
        exact ⟨c0, e1, ext1 _ _ e2 codeO_ne⟩
    · have n1 : h'.objs.size ≠ c' := Nat.ne_of_gt hlt
      have n2 : h'.objs.size ≠ P := Nat.ne_of_gt (Nat.lt_of_lt_of_le (Heap.lt_size hP') hsz)
      rw [upd_ne n1, upd_ne n2]
      exact I.hok.fresh hsz
  | some cv =>
    obtain ⟨c', e, cdO⟩ := ha pos cv hc
    subst e
    refine PySem.W.kla_makeFunctionHit (mg := X.mg) (c := c) (P := P) (ps := ps) (closure_ok frC) I.ok.glob (I.mod.glob.keeps I.bk) cdE (tab.code.keeps I.bk) hP' trp hc bltP fun ctv h' tk hx hsz => ?_
    have J1 : Inv X pins σ H { s with heap := h'.push (PySem.W.kla_obj "<lambda>" (X.env.qual ++ "<lambda>") params body scope (cloFrom X.env.cells scope.names []) ((X.mg "__name__").getD .none) c' ctv), toks := tk } := I.kept fun b o e => Heap.get?_push_of_some _ (hx b o e)
    exact h h'.objs.size c' ((X.mg "__name__").getD .none) ctv H _ J1 (ExtN.refl H) tbs (fun _ z => z) (Heap.get?_push_size _ rfl) (I.hok.fresh hsz) (apart _ hsz) cdO
end
section
variable {X : Cx} {pins : List (Addr × Obj)} {σ : L2.St} {H HZ : Hp} {s s1 : Shared}
theorem pe_actG {CXg : CXT} {Eg : XK} {Ng : List Str} {qg : Str} {sg : Scope} {g f c' : Addr} {cdg pm ctv : Value} {params : Arguments} {body : Expr} {scope : Scope} {k i : Nat} {a : Str} {pn : List (Addr × Obj)} {xe : Value → Shared → Prop} {W : WX} {E : XK} {tb : TE} {p1 p2 : Pos}
    (I : Inv X pins σ H s) (L : LamS X.env.scope scope) (hf : s.heap.get? f = some (PySem.W.kla_obj "<lambda>" (X.env.qual ++ "<lambda>") params body scope (cloFrom X.env.cells scope.names []) pm c' ctv)) (hfn : H f = none) (hfr : f ∉ frs X.stack)
    (bnd0 : bindArgs (PySem.W.kla_fn "<lambda>" (X.env.qual ++ "<lambda>") params body scope (cloFrom X.env.cells scope.names []) pm (.ref c') ctv) ⟨[], []⟩ = pure [])
    (tk : Takes ((cxOf CXg X.prog X.w X.K X.mg X.base Ng qg sg g cdg X.A X.stack s H Eg).tr pn xe) W) (hW : ∀ cls d σ' H', σ'.length = Ng.length → E cls d H' → W cls d σ' H') (hr : Room (k + 1) (X.A.deeper (envOfC qg sg s.heap.objs.size g cdg)))
    (gX : X.A.guards = some []) (hbody : ∀ (A : Around) (outer : List PySem.Env) (s : Shared) (H : Hp), A.guards = some [] → Room k (A.deeper (lamEnv X scope s.heap.objs.size f c')) → PE (lamCx X A outer s H E scope f c') body tb)
    (hN : Ng[i]? = some a) (hv : Vis sg a) (hd : (a == ("__debug__" : Str)) = false := by decide) (cdB : (a == ("__classdict__" : Str)) = false := by decide) :
    PE ((cxOf CXg X.prog X.w X.K X.mg X.base Ng qg sg g cdg X.A X.stack s H Eg).tr pn xe) (.Call (.Name a p1) [] [] p2)
      (fun σZ HZ Q => σZ[i]? = some (some (.ref f)) ∧ HZ c' = some (CodeO c' (X.env.qual ++ "<lambda>")) ∧ tb σ HZ Q) := by
  refine ⟨fun pinsZ sZ σZ HZ Q IZ h => ?_⟩
  obtain ⟨hs, hc, trp⟩ := h
  refine wpAny_Call_Name_kw (thn ((pe_var (pos := p1) (i := i) hN hv hd cdB).run pinsZ sZ σZ HZ (fun v H1 => v = .ref f ∧ H1 = HZ) IZ ⟨.ref f, hs, rfl, rfl⟩) fun u s1 ⟨v, H1, J1, r1, q1⟩ => ?_)
  obtain ⟨ev, eH⟩ := q1
  subst ev
  rw [eH] at J1
  obtain rfl : u = Value.ref f := r1
  have of1 : s1.heap.get? f = some (PySem.W.kla_obj "<lambda>" (X.env.qual ++ "<lambda>") params body scope (cloFrom X.env.cells scope.names []) pm c' ctv) := J1.base.keep f _ hf hfn hfr (fun z => nomatch (show f ∈ ([] : List Addr) from z))
  refine PySem.W.callWith_F0 ⟨_, _, _, _, of1⟩ ?_
  have un : Un (frs X.stack) [] H HZ s.heap s1.heap := J1.base
  obtain ⟨⟨oc, vs, t, hoc, hdc, hvc⟩, _, _⟩ := J1.hok c' _ hc
  have rc : codeAny (model X.prog X.w) (X.A.deeper (envOfC qg sg s.heap.objs.size g cdg)) (.call (.ref f) ⟨[], []⟩) (CR (L2.CX X.prog X.w) (envOfC qg sg s.heap.objs.size g cdg :: X.stack) X.prog X.w HZ s1 Q E) s1 := by
    refine PySem.W.kla_callFunE hr.depth of1 rfl L.co L.gen rfl ⟨c', oc, vs, t, rfl, hoc, hdc, hvc⟩ ?_
    rw [bnd0]
    refine wpAny_pure (wpAny_newFunctionEnv (fun y hy => (L.own y hy).2) (fun y hy => absurd hy (by simp)) (fun h₁ hns hsb => ⟨J1.nolimit.fresh _ hsb, ?_⟩) L.kind)
    show codeAny _ _ (.expr body (lamEnv X scope s1.heap.objs.size f c')) _ _
    have kp : ∀ b o, s1.heap.get? b = some o → h₁.get? b = some o := fun b o e => hsb.extBut b o (Nat.ne_of_lt (Heap.lt_size e)) (Heap.get?_push_of_some _ e)
    have J : Inv (lamCx X (X.A.deeper (envOfC qg sg s.heap.objs.size g cdg)) (envOfC qg sg s.heap.objs.size g cdg :: X.stack) s1 HZ E scope f c') [] σ HZ { s1 with heap := h₁, toks := s1.toks + ([] : List (Str × Value)).length } :=
      lam_start2 I L J1.env0 hr.hd un hns kp
    refine PySem.W.kla_codeExpr (wpAny_mono ((hbody (X.A.deeper (envOfC qg sg s.heap.objs.size g cdg)) _ s1 HZ gX (hr.deeper _)).run [] _ _ HZ Q J trp) (fun v s' hq => ?_) fun e s' hq => hq)
    obtain ⟨w', H', J', rv, q⟩ := hq
    exact ⟨w', H', J'.os, J'.bare, J'.base, J'.hok, rv, q⟩
  have hx : Passes (L2.CX X.prog X.w) ((cxOf CXg X.prog X.w X.K X.mg X.base Ng qg sg g cdg X.A X.stack s H Eg).tr pn xe) E := fun _ σ1 _ _ er s1 I9 c9 => tk er s1 (XE.of_call I9 (fun cls d H' h => hW cls d σ1 H' I9.len h) c9)
  refine wpAny_call (codeAny_mono rc fun r s' hq => ?_)
  cases r with
  | error e => exact hx pinsZ σZ HZ s1 e s' J1 hq
  | ok fl =>
    cases fl with
    | ret u => exact J1.after hq
    | next => exact False.elim hq
    | brk => exact False.elim hq
    | cont => exact False.elim hq
end
section
variable {X : Cx}
theorem pe_lamG {T : List (Addr × Str)} {TT : (XK → Hp → VK → Prop) → Hp → VK → Prop} {x a : Str} {g c P : Addr} {k : Nat} {pg : Arguments} {bg : List Stmt} {sg : Scope} {dV kV doc pm cdv ct oc : Value} {an od : Option Addr} {osl : Array (Option Value)} {Ng : List Str}
    {params : Arguments} {body : Expr} {scope : Scope} {t : XK → TE} {p lpos pos : Pos} (hg : Gl X x) (gl : X.mg x = some (.ref g)) (hk : PySem.W.keepIn X.K (.ref g) = true)
    (lk : X.K.lookup g = some ⟨oc, od, .func (PySem.W.fnOf x x pg bg sg dV kV doc pm an cdv ct), osl⟩) (hcg : PySem.W.codeIn X.K cdv x = true) (hb : L2.Binds X.K (PySem.W.fnOf x x pg bg sg dV kV doc pm an cdv ct) [a] []) (Sg : FnScope Ng [a] sg) (hNg : Ng[0]? = some a) (hva : Vis sg a)
    (hG : GivesG X Ng x sg g cdv bg a (X.env.qual ++ "<lambda>") TT)
    (tab : TabB X.base X.mg c P) (cdE : X.env.code = .ref c) (hmT : (P, X.env.qual ++ "<lambda>") ∈ T) (onlyT : ∀ p ∈ T, p.1 = P → p.2 = X.env.qual ++ "<lambda>") (hr : Room (k + 2) X.A) (gX : X.A.guards = some []) (L : LamS X.env.scope scope) (noDf : defaultsOf params X.env = ([], []))
    (bnd0 : ∀ (q : Str) (cl : List (Str × Addr)) (pm cv ctv : Value), bindArgs (PySem.W.kla_fn "<lambda>" q params body scope cl pm cv ctv) ⟨[], []⟩ = pure [])
    (hbody : ∀ (A : Around) (outer : List PySem.Env) (s : Shared) (H : Hp) (E : XK) (f c' : Addr), A.guards = some [] → Room k (A.deeper (lamEnv X scope s.heap.objs.size f c')) → PE (lamCx X A outer s H E scope f c') body (t E))
    (hdb : (x == ("__debug__" : Str)) = false := by decide) (hd : (a == ("__debug__" : Str)) = false := by decide) (cdB : (a == ("__classdict__" : Str)) = false := by decide) :
    PE X (.Call (.Name x p) [.Lambda params body scope lpos] [] pos) (tLamG T TT t) := by
  refine ⟨fun pins s σ H Q I h => ?_⟩
  obtain ⟨tbs, h⟩ := h
  refine wpAny_Call_Name_kw (ld_glob I hg gl ?_ hdb)
  refine PySem.W.callWith_K (h₀ := X.base) I.ok.mod.kin hk ?_ (by rfl) (by rfl)
  show wpAny _ _ (spliced ((false, PySem.eval (.Lambda params body scope lpos) X.env) :: backTo pos (starEach [] X.env))) _ _ s
  refine Calls.spliced_cons (lamMake I tab cdE hmT onlyT tbs noDf (L.has I.ok) fun f c' pm' ctv H1 s' J1 eN T1 lv hf hfn hfr cdO => ?_)
  refine Calls.spliced_nil ⟨J1.kIn, ?_⟩
  have rc : codeAny (model X.prog X.w) X.A (.call (.ref g) ⟨[.ref f], []⟩) (CR C8.CX0 X.stack X.prog X.w H1 s' Q C8.E0) s' := by
    refine run_ofS (N := Ng) (ps := [a]) (us := [.ref f]) (vs := [.ref f]) lk hcg Sg hr J1.env0 (hb s' [.ref f] J1.kIn rfl) (.cons rfl .nil) rfl fun hr' => ?_
    obtain ⟨t', ht', hq'⟩ := hG f c' s' H1 Q (fun E H' Q' => t E σ H' Q') (fun W pn xe E p1 p2 tk hW => pe_actG (i := 0) J1 L hf hfn hfr (bnd0 _ _ _ _ _) tk hW hr' gX (fun A outer s H hg2 hr2 => hbody A outer s H E f c' hg2 hr2) hNg hva hd cdB) cdO (h H1 eN T1 lv)
    exact ⟨t', ht'.nox, hq'⟩
  refine wpAny_call (codeAny_mono rc fun r s2 hq => ?_)
  cases r with
  | error e => exact (show False from hq).elim
  | ok fl =>
    cases fl with
    | ret u => exact J1.after hq
    | next => exact False.elim hq
    | brk => exact False.elim hq
    | cont => exact False.elim hq
end
end MP

set_option Elab.async false
set_option linter.all false
set_option maxRecDepth 100000
set_option maxHeartbeats 4000000
namespace MP
open PySem PySem.Spec PyProof.Rows L2 LamX
/-! ### try: return ("told", call()) / except C as n: return ("great", n.fld) -/
/-- what such a def makes of what it gets -/
def TT2 (C : Addr) (fld : Str) : (XK → Hp → VK → Prop) → Hp → VK → Prop := fun tl H Q =>
  tl (fun cls d H' => cls = .ref C ∧ ∃ dd fs v, d = some dd ∧ H' dd = some (.xd fs) ∧ fs.lookup fld = some v ∧ ([V.str "great", v].length ≤ sizeLine ∧ ∀ p, H' p = none → Q (.ref p) (upd H' p (.tup [.str "great", v])))) H
    fun v H' => [V.str "told", v].length ≤ sizeLine ∧ ∀ p, H' p = none → Q (.ref p) (upd H' p (.tup [.str "told", v]))
structure ToldX (K : PySem.W.Frag) (mg : Str → Option Value) (C : Addr) (fld : Str) (x : Str) (g : Addr) (a e n : Str) (pg : Arguments) (bg : List Stmt) (sg : Scope) (dV kV doc pm cdv ct : Value) (an : Option Addr) : Prop where
  mgx : mg x = some (.ref g)
  kx : PySem.W.keepIn K (.ref g) = true
  lk : ∃ oc od osl, K.lookup g = some ⟨oc, od, .func (PySem.W.fnOf x x pg bg sg dV kV doc pm an cdv ct), osl⟩
  cd : PySem.W.codeIn K cdv x = true
  bd : L2.Binds K (PySem.W.fnOf x x pg bg sg dV kV doc pm an cdv ct) [a] []
  sc : FnScope [a, n] [a] sg
  va : Vis sg a
  ln : sg.names.lookup n = some .local
  ge : sg.names.lookup e = some .globalImplicit
  mge : mg e = some (.ref C)
  oka : okNm a = true
  oke : okNm e = true
  okn : okNm n = true
  okx : okNm x = true
  xf : XfC K C
  nofld : PySem.W.findIn K (.ref C) fld = some none
  exm : PySem.W.exmOne K (.ref C) (.ref C) = some true
  body : ∃ j1 j2 k1 k2 q1 q2 q3 q4 q5 q6 q7 q8 q9 q10 q11 q12 q13, bg = [.Try [.Return (some (.Tuple [.Constant (.str "told") j1 q1, .Call (.Name a q2) [] [] q3] k1 q4)) q5]
    [.ExceptHandler (some (.Name e q6)) (some n) [.Return (some (.Tuple [.Constant (.str "great") j2 q7, .Attribute (.Name n q8) fld q9] k2 q10)) q11] q12] [] [] q13]
theorem told_givesG {X : Cx} {C : Addr} {fld x : Str} {g : Addr} {a e n q : Str} {pg : Arguments} {bg : List Stmt} {sg : Scope} {dV kV doc pm cdv ct : Value} {an : Option Addr} (T : ToldX X.K X.mg C fld x g a e n pg bg sg dV kV doc pm cdv ct an) :
    GivesG X [a, n] x sg g cdv bg a q (TT2 C fld) := by
  intro f c' s H Q tl act hc h
  obtain ⟨j1, j2, k1, k2, q1, q2, q3, q4, q5, q6, q7, q8, q9, q10, q11, q12, q13, rfl⟩ := T.body
  have hgl : Gl (cxOf C8.CX0 X.prog X.w X.K X.mg X.base [a, n] x sg g cdv X.A X.stack s H C8.E0).nox e := T.ge
  refine ⟨_, pss_one (ps_try_as (X := (cxOf C8.CX0 X.prog X.w X.K X.mg X.base [a, n] x sg g cdv X.A X.stack s H C8.E0).nox) (c := .ref C) (i := 1) (n := n)
      (tb := fun W D σ H => ∃ Ech : XK, (∀ cls d σ' H', σ'.length = 2 → Ech cls d H' → W cls d σ' H') ∧ σ[0]? = some (some (.ref f)) ∧ H c' = some (CodeO c' q) ∧ tl Ech H fun v H' => [V.str "told", v].length ≤ sizeLine ∧ ∀ p, H' p = none → D.rt (.ref p) (upd H' p (.tup [.str "told", v])))
      rfl rfl T.sc.nd rfl T.ln ⟨hgl, (okNm_eq T.oke).1, .inl T.mge⟩ takesF (fun W pn xe tk _ => ?_)
      (fun b oe cls d pn hz hf => pss_one (ps_ret (pe_tup (pa_cons pe_str (pa_cons (pe_xf T.xf T.nofld hz hf (pe_var (i := 1) rfl (.inl T.ln) (okNm_eq T.okn).1 (okNm_eq T.okn).2)) pa_nil)))))), ?_⟩
  · refine ⟨fun pins s' σ H' D I h' => ?_⟩
    obtain ⟨Ech, hW, h1, h2, h3⟩ := h'
    have hp := act W pn xe Ech q2 q3 tk hW
    have hq : PSs ((cxOf C8.CX0 X.prog X.w X.K X.mg X.base [a, n] x sg g cdv X.A X.stack s H C8.E0).tr pn xe) [.Return (some (.Tuple [.Constant (.str "told") j1 q1, .Call (.Name a q2) [] [] q3] k1 q4)) q5] _ :=
      pss_one (ps_ret (pe_tup (pa_cons pe_str (pa_cons hp pa_nil))))
    exact hq.run pins s' σ H' D I ⟨h1, h2, h3⟩
  · refine ⟨_, fun cls d σ' H' hl hx => ?_, rfl, hc, h⟩
    obtain ⟨rfl, dd, fs, v, rfl, hdd, hlk, hv⟩ := hx
    refine ⟨true, T.exm, fun _ b hb => ?_, fun z => by cases z⟩
    refine ⟨.ref b, ?_, rfl, rfl, dd, fs, v, rfl, hdd, hlk, hv⟩
    rw [List.getElem?_set_self (by omega)]
/-- what the maker of such lambdas must have -/
structure LamOk (U : Wd) (n : Nat) (X : Cx) : Prop where
  room : Room (3 * n + 5) X.A
  tab : ∃ c P, TabB X.base X.mg c P ∧ X.env.code = .ref c ∧ (P, X.env.qual ++ "<lambda>") ∈ U.cls.T ∧ ∀ p ∈ U.cls.T, p.1 = P → p.2 = X.env.qual ++ "<lambda>"
/-- .. and the defs that get them -/
structure LamT (U : Wd) (n : Nat) (X : Cx) : Prop where
  ok : LamOk U n X
  td : ∀ f nm, U.tn f = some nm → ∃ (fld : Str) (g : Addr) (a e nn : Str) (pg : Arguments) (bg : List Stmt) (sg : Scope) (dV kV doc pm cdv ct : Value) (an : Option Addr), ToldX X.K X.mg (U.cls 0) fld nm g a e nn pg bg sg dV kV doc pm cdv ct an ∧ (U.xf 0)[0]? = some fld
section
variable {U : Wd} {n : Nat} {W : WX} {X : Cx} {F : List Addr}
theorem ext_tab {μ : List Addr} {H H1 : Hp} (e : ExtN H H1) (lv : ∀ p, H p ≠ none → H1 p ≠ none) : Ext μ μ H H1 := ⟨⟨[], by simp, fun _ z => nomatch z⟩, fun p o h _ nt => e p o h nt, lv⟩
def toldS (se : MP.Env → DS → R D) : MP.Env → DS → R D := fun ρ st => match se ρ st with
  | .ok d st1 => .ok (.tup [.str "told", d]) st1
  | .exc 0 [d] st1 => .ok (.tup [.str "great", d]) st1
  | _ => .bad
/-- x(lambda: e), e the text of the lambda's body -/
theorem k_told (c : Ctx U n W X) (L : LamOk U n X) {C : Addr} {fld x : Str} {g : Addr} {a e nn : Str} {pg : Arguments} {bg : List Stmt} {sg : Scope} {dV kV doc pm cdv ct : Value} {an : Option Addr} (T : ToldX X.K X.mg C fld x g a e nn pg bg sg dV kV doc pm cdv ct an)
    (hC : C = U.cls 0) (hf : (U.xf 0)[0]? = some fld) {params : Arguments} {body : Expr} {scope : Scope} {p lpos pos : Pos} {se : MP.Env → DS → R D} (hg : Gl X x) (hS : LamS X.env.scope scope) (hdef : defaultsOf params X.env = ([], []))
    (hbind : ∀ (q : Str) (cl : List (Str × Addr)) (pm cv ctv : Value), bindArgs (PySem.W.kla_fn "<lambda>" q params body scope cl pm cv ctv) ⟨[], []⟩ = pure [])
    (hbody : ∀ (Y : Cx) (E : XK), Ctx U n (fun cls d _ H' => E cls d H') Y → Y.N = X.N → Y.env.scope = scope → Y.K = X.K → ∀ F, PE Y body (TDx U Y F (fun cls d _ H' => E cls d H') se)) :
    PE X (.Call (.Name x p) [.Lambda params body scope lpos] [] pos) (TDx U X F W (toldS se)) := by
  obtain ⟨cc, P, tab, cdE, inT, onlyT⟩ := L.tab
  obtain ⟨oc, od, osl, lk⟩ := T.lk
  refine pe_imp (pe_lamG (k := 3 * n + 3) (T := U.cls.T) (TT := TT2 C fld) (t := fun E σ H Q => ∃ F, TDx U X F (fun cls d _ H' => E cls d H') se σ H Q) hg T.mgx T.kx lk T.cd T.bd T.sc rfl T.va (told_givesG T) tab cdE inT onlyT L.room c.good.gd hS hdef hbind (fun A out s H E f c' hg2 hr2 => ?_) (okNm_eq T.okx).1 (okNm_eq T.oka).1 (okNm_eq T.oka).2) fun σ H Q ⟨ρ, st, μ, hE, hSt, hP⟩ => ?_
  · have cY : Ctx U n (fun cls d _ H' => E cls d H') (lamCx X A out s H E scope f c') := by
      refine ⟨⟨hg2, ?_⟩, rfl, c.nd, takes_of rfl rfl rfl (E₁ := fun e' s'' => L2.CX X.prog X.w out H s E e' s'') rfl, hr2, c.fns, c.gls⟩
      have := hr2.un
      show (A.deeper _).units + 70 < cLine
      omega
    have hb := hbody _ E cY rfl rfl rfl
    exact ⟨fun pins s' σ H' Q I ⟨F, q⟩ => (hb F).run pins s' σ H' Q I q⟩
  · refine ⟨hSt.tb, fun H1 eN T1 lv => ?_⟩
    have x1 : Ext μ μ H H1 := ext_tab eN lv
    have S1 : StRel X.K U.cls F μ H1 st := by
      refine hSt.keep x1 (fun b hb => ?_) T1
      cases q : H b with
      | none => exact absurd q (hSt.ne hb)
      | some o => exact eN b o q fun ps z => hSt.notTab hb o q (.inl ⟨ps, z⟩)
    have hP : Post X.K U.cls U.xf F (rlD X.K F) W σ μ H (toldS se ρ st) Q := hP
    have hP1 := hP.shift x1
    unfold toldS at hP1
    show ∃ F, TDx U X F _ se σ H1 _
    refine ⟨F, ρ, st, μ, hE.mono x1, S1, ?_⟩
    cases es : se ρ st with
    | ok d st1 =>
      rw [es] at hP1
      intro μ2 H2 v x2 S2 r2
      refine ⟨by show 2 ≤ sizeLine; decide, fun p hp => ?_⟩
      exact hP1 μ2 _ _ (x2.trans (ext_new hp)) (S2.new hp) (new_tup S2 hp (.cons (.str _) (.cons r2 .nil)))
    | exc k fs st1 =>
      rw [es] at hP1
      match k, fs, hP1 with
      | 0, [d], hP1 =>
        intro μ2 H2 dd l x2 S2 hdd hx
        obtain ⟨v, hl, rv⟩ := hx 0 fld d hf rfl
        refine ⟨by rw [hC], dd, l, v, rfl, hdd, hl, by show 2 ≤ sizeLine; decide, fun p hp => ?_⟩
        exact hP1 μ2 _ _ (x2.trans (ext_new hp)) (S2.new hp) (new_tup S2 hp (.cons (.str _) (.cons rv .nil)))
      | 0, [], hP1 => exact hP1.elim
      | 0, _ :: _ :: _, hP1 => exact hP1.elim
      | k + 1, _, hP1 => exact hP1.elim
    | bad => rw [es] at hP1; exact hP1.elim
end
end MP

set_option Elab.async false
set_option linter.all false
set_option maxRecDepth 100000
set_option maxHeartbeats 4000000
namespace MP
open PySem L2 PyProof.Rows
/-! ### the checker: a text is what the small syntax says -/
section
variable (U : Sg) (N : List Str)
/-- the expressions that a walk evaluates ahead -/
def asIter (sc : Scope) (ik : IK) (tge iter : Expr) : Option (List Expr) := match ik with
  | .seq => if noStar iter then some [iter] else none
  | .rng => match asCall iter with
    | some (g, xs, [], _) => if decide (asName g = some ("range" : Str)) && glB sc "range" && xs.all noStar && (xs.length == 1 || xs.length == 2) then some xs else none
    | _ => none
  | .enum => match asCall iter with
    | some (g, xs, [], _) => if decide (asName g = some ("enumerate" : Str)) && glB sc "enumerate" && xs.all noStar && xs.length == 1 && (asTup tge).isSome then some xs else none
    | _ => none
  | _ => none
def asLam : Expr → Option (Arguments × Expr × Scope) | .Lambda a b s _ => some (a, b, s) | _ => none
theorem asLam_eq {e b : Expr} {a : Arguments} {s : Scope} (h : asLam e = some (a, b, s)) : ∃ p, e = .Lambda a b s p := by cases e <;> first | (cases h; done) | skip; cases h; exact ⟨_, rfl⟩
def noArgs : Arguments → Bool | ⟨[], [], none, [], [], none, []⟩ => true | _ => false
theorem noArgs_eq {a : Arguments} (h : noArgs a = true) : a = ⟨[], [], none, [], [], none, []⟩ := by
  unfold noArgs at h
  split at h
  · rfl
  · cases h
def asGen : List Comprehension → Option (Expr × Expr × List Expr)
  | [⟨t, i, ifs, 0⟩] => some (t, i, ifs)
  | _ => none
theorem asGen_eq {gs : List Comprehension} {t i : Expr} {ifs : List Expr} (h : asGen gs = some (t, i, ifs)) : gs = [⟨t, i, ifs, 0⟩] := by
  unfold asGen at h
  split at h
  · cases h; rfl
  · cases h
def bitsB (U : Sg) : BI → Bool
  | .gcd => U.gc
  | .isqrt => U.iq
  | _ => true
mutual
def cE (lm : Bool) (sc : Scope) : E → Expr → Bool
  | .var i, pe => match asName pe with | some x => decide (N[i]? = some x) && visB sc x && okNm x | none => false
  | .lit d, pe => match asConst pe with | some c => constB d c | none => false
  | .con k d, pe => match asName pe with | some x => glB sc x && okNm x && (match U.cn k with | some (y, e) => decide (x = y) && eqDD d e | none => false) | none => false
  | .bin op a b, pe => match asBin pe with | some (x, o, y) => opB op o && cE lm sc a x && cE lm sc b y | none => false
  | .binO op a b, pe => match asBin pe with | some (x, o, y) => opB op o && cE lm sc a x && cE lm sc b y | none => false
  | .neg a, pe => match asUn pe with | some (.USub, x) => cE lm sc a x | _ => false
  | .not a, pe => match asUn pe with | some (.Not, x) => cE lm sc a x | _ => false
  | .and a b, pe => match asBool pe with
    | some (.And, [x, y], _) => cE lm sc a x && cE lm sc b y
    | some (.And, x :: y :: z :: r, p) => cE lm sc a x && cE lm sc b (.BoolOp .And (y :: z :: r) p)
    | _ => false
  | .or a b, pe => match asBool pe with
    | some (.Or, [x, y], _) => cE lm sc a x && cE lm sc b y
    | some (.Or, x :: y :: z :: r, p) => cE lm sc a x && cE lm sc b (.BoolOp .Or (y :: z :: r) p)
    | _ => false
  | .cmp op a b, pe => match asCmp pe with | some (x, [o], [y]) => cmpB op o && cE lm sc a x && cE lm sc b y && !behindInMarks o y | _ => false
  | .chain o1 o2 a b c, pe => match asCmp pe with | some (x, [p1, p2], [y, z]) => cmpB o1 p1 && cmpB o2 p2 && cE lm sc a x && cE lm sc b y && cE lm sc c z && !lastMarks [p1, p2] [y, z] | _ => false
  | .isN ng a, pe => match asCmp pe with | some (x, [o], [y]) => decide (asConst y = some .none) && (match ng, o with | false, .Is => true | true, .IsNot => true | _, _ => false) && cE lm sc a x | _ => false
  | .ife c a b, pe => match asIf pe with | some (x, y, z) => cT lm sc c x && cE lm sc a y && cE lm sc b z | none => false
  | .tup es, pe => match asTup pe with | some xs => xs.all noStar && cL lm sc es xs | none => false
  | .lst m es, pe => match asList pe with | some xs => xs.all noStar && cL lm sc es xs | none => false
  | .ix a i, pe => match asSub pe with | some (x, y) => plainIx y && cE lm sc a x && cE lm sc i y | none => false
  | .dix a i, pe => match asSub pe with | some (x, y) => plainIx y && cE lm sc a x && cE lm sc i y | none => false
  | .din ng a b, pe => match asCmp pe with | some (x, [o], [y]) => (match ng, o with | false, .In => true | true, .NotIn => true | _, _ => false) && cE lm sc a x && cE lm sc b y && !behindInMarks o y | _ => false
  | .sl m a lo hi, pe => match asSub pe with
    | some (x, y) => (match asSlice y with | some (l, h, none) => cE lm sc a x && cO lm sc lo l && cO lm sc hi h | _ => false)
    | none => false
  | .rev m a, pe => match asSub pe with
    | some (x, y) => (match asSlice y with | some (none, none, some z) => isMinusOne z && cE lm sc a x | _ => false)
    | none => false
  | .revT a, pe => match asSub pe with
    | some (x, y) => (match asSlice y with | some (none, none, some z) => isMinusOne z && cE lm sc a x | _ => false)
    | none => false
  | .call f es, pe => match asCall pe with
    | some (g, x :: xs, [], _) => (match asName g, U.Pg f with
        | some nm, some fd => fd.gl && decide (nm = fd.nm) && glB sc nm && okNm nm && (x :: xs).all noStar && cL lm sc es (x :: xs) && decide (es.length = fd.np)
        | _, _ => false)
    | _ => false
  | .bi b es, pe => match asCall pe with
    | some (g, x :: xs, [], _) => (match asName g with
        | some nm => decide (nm = biN b) && glB sc nm && (x :: xs).all noStar && cL lm sc es (x :: xs) && bitsB U b
        | _ => false)
    | _ => false
  | .newl m a, pe => match asCall pe with
    | some (g, [x], [], _) => (match asName g with
        | some nm => decide (nm = ("list" : Str)) && glB sc nm && noStar x && cE lm sc a x
        | _ => false)
    | _ => false
  | .meth .append o es, pe => match asCall pe with
    | some (g, [x], [], p) => (match asAttr g with
      | some (y, m, ap) => decide (m = ("append" : Str)) && noStar x && plainBase y && (ap.endLine == p.line) && cE lm sc o y && cL lm sc es [x]
      | _ => false)
    | _ => false
  | .meth .pop o [], pe => match asCall pe with
    | some (g, [], [], p) => (match asAttr g with
      | some (y, m, ap) => decide (m = ("pop" : Str)) && plainBase y && (ap.endLine == p.line) && cE lm sc o y
      | _ => false)
    | _ => false
  | .meth .bitlen o [], pe => match asCall pe with
    | some (g, [], [], p) => (match asAttr g with
      | some (y, m, ap) => decide (m = ("bit_length" : Str)) && plainBase y && (ap.endLine == p.line) && cE lm sc o y
      | _ => false)
    | _ => false
  | .emp m, pe => match asDict pe with | some ([], []) => true | _ => false
  | .dic m es, pe => match asDict pe with | some (k :: ks, vs) => decide ((k :: ks).length ≤ 15) && decide ((k :: ks).length = vs.length) && (k :: ks).all (·.isSome) && cP lm sc es (k :: ks) vs | _ => false
  | .lc m elt tg ik src ifs own, pe => match asLC pe with
    | some (pelt, gs, scope) => (match asGen gs with
      | some (tge, iter, pifs) => (match asIter sc ik tge iter with
        | some xs => (tnS tg).all (fun j => decide (j ∈ own)) && blkC N sc scope (ownN N own) && notSet iter && cTN N (relS scope sc) (fun x => scope.names.lookup x == some .cell) tg tge &&
            cL lm sc src xs && cE false (relS scope sc) elt pelt && cI false (relS scope sc) ifs pifs
        | none => false)
      | none => false)
    | none => false
  | .bad, _ => true
  | .told f e, pe => lm && (match asCall pe with
    | some (g, [a], [], _) => (match asName g, asLam a, U.tn f with
      | some nm, some (params, body, scope), some nm' => decide (nm = nm') && glB sc nm && LamX.lamSB sc scope && noArgs params && cE false scope e body
      | _, _, _ => false)
    | _ => false)
  | _, _ => false
def cT (lm : Bool) (sc : Scope) : E → Expr → Bool
  | .not a, pe => match asUn pe with | some (.Not, x) => cT lm sc a x | _ => false
  | .and a b, pe => match asBool pe with
    | some (.And, [x, y], _) => cT lm sc a x && cT lm sc b y
    | some (.And, x :: y :: z :: r, p) => cT lm sc a x && cT lm sc b (.BoolOp .And (y :: z :: r) p)
    | _ => false
  | .or a b, pe => match asBool pe with
    | some (.Or, [x, y], _) => cT lm sc a x && cT lm sc b y
    | some (.Or, x :: y :: z :: r, p) => cT lm sc a x && cT lm sc b (.BoolOp .Or (y :: z :: r) p)
    | _ => false
  | .cmp op a b, pe => match asCmp pe with | some (x, [o], [y]) => cmpB op o && cE lm sc a x && cE lm sc b y && !behindInMarks o y | _ => false
  | .isN ng a, pe => match asCmp pe with | some (x, [o], [y]) => decide (asConst y = some .none) && (match ng, o with | false, .Is => true | true, .IsNot => true | _, _ => false) && cE lm sc a x | _ => false
  | .din ng a b, pe => match asCmp pe with | some (x, [o], [y]) => (match ng, o with | false, .In => true | true, .NotIn => true | _, _ => false) && cE lm sc a x && cE lm sc b y && !behindInMarks o y | _ => false
  | .chain o1 o2 a b c, pe => match asCmp pe with | some (x, [p1, p2], [y, z]) => cmpB o1 p1 && cmpB o2 p2 && cE lm sc a x && cE lm sc b y && cE lm sc c z && !lastMarks [p1, p2] [y, z] | _ => false
  | .tv a, pe => plainT pe && cE lm sc a pe
  | _, _ => false
def cL (lm : Bool) (sc : Scope) : List E → List Expr → Bool
  | [], [] => true
  | e :: es, x :: xs => cE lm sc e x && cL lm sc es xs
  | _, _ => false
def cO (lm : Bool) (sc : Scope) : List E → Option Expr → Bool
  | [], none => true
  | [e], some x => cE lm sc e x
  | _, _ => false
def cP (lm : Bool) (sc : Scope) : List E → List (Option Expr) → List Expr → Bool
  | [], [], [] => true
  | a :: b :: es, some x :: ks, y :: vs => cE lm sc a x && cE lm sc b y && cP lm sc es ks vs
  | _, _, _ => false
def cI (lm : Bool) (sc : Scope) : List E → List Expr → Bool
  | [], [] => true
  | [e], [x] => cT lm sc e x
  | _, _ => false
end
end
/-! ### what is checked does as it is computed -/
section
variable {U : Wd} {n : Nat}
theorem evalL_len (C : Nat → List D → DS → R D) : ∀ (es : List E) (ρ : MP.Env) (st : DS) (ds : List D) (st1 : DS), evalL C es ρ st = .ok ds st1 → ds.length = es.length
  | [], _, _, _, _, h => by
    unfold evalL at h; cases h; rfl
  | e :: es, ρ, st, ds, st1, h => by
    unfold evalL at h
    obtain ⟨a, s1, e1, e2⟩ := R.bind_ok h
    obtain ⟨xs, s2, e3, e4⟩ := R.bind_ok e2
    cases e4
    simp [evalL_len C es ρ s1 xs _ e3]
theorem evalL_seq (C : Nat → List D → DS → R D) : ∀ (es : List E), evalL C es = seqR (es.map (eval C))
  | [] => by funext ρ st; unfold evalL; rfl
  | e :: es => by
    funext ρ st
    unfold evalL
    rw [evalL_seq C es]
    rfl
theorem cL_len {N : List Str} {lm : Bool} {sc : Scope} : ∀ {es : List E} {xs : List Expr}, cL U.toSg N lm sc es xs = true → es.length = xs.length
  | [], [], _ => rfl
  | [], _ :: _, h => by simp [cL] at h
  | _ :: _, [], h => by simp [cL] at h
  | e :: es, x :: xs, h => by
    simp only [cL, Bool.and_eq_true] at h
    simp [cL_len h.2]
/-- as constants stand in the module -/
theorem k_con {W : WX} {X : Cx} {F : List Addr} (c : Ctx U n W X) {k : Nat} {d e : D} {x : Str} {p : Pos} (hg : Gl X x) (hd : (x == ("__debug__" : Str)) = false) (hk : U.cn k = some (x, e)) (he : d = e) :
    PE X (.Name x p) (TDx U X F W fun _ st => .ok d st) := by
  subst he
  obtain ⟨⟨u, hm, hr⟩, hrel⟩ := c.gls.cn k x d hk
  refine ⟨fun pins s σ H Q I ⟨ρ, st, μ, hE, hS, hP⟩ => ?_⟩
  exact ld_glob I hg hm ⟨U.cd k, H, I, hr, hP μ H _ .refl hS (hrel F μ H)⟩ hd
theorem pe_cong {W : WX} {X : Cx} {F : List Addr} {e : Expr} {s t : MP.Env → DS → R D} (h : ∀ ρ st, s ρ st = t ρ st) (p : PE X e (TDx U X F W t)) : PE X e (TDx U X F W s) := by
  have z : s = t := funext fun ρ => funext fun st => h ρ st
  rw [z]; exact p
theorem pt_cong {W : WX} {X : Cx} {F : List Addr} {e : Expr} {s t : MP.Env → DS → R Bool} (h : ∀ ρ st, s ρ st = t ρ st) (p : PT X e (TBx U X F W t)) : PT X e (TBx U X F W s) := by
  have z : s = t := funext fun ρ => funext fun st => h ρ st
  rw [z]; exact p
theorem pa_cong {W : WX} {X : Cx} {F : List Addr} {e : List Expr} {s t : MP.Env → DS → R (List D)} (h : ∀ ρ st, s ρ st = t ρ st) (p : PA X e (TLx U X F W t)) : PA X e (TLx U X F W s) := by
  have z : s = t := funext fun ρ => funext fun st => h ρ st
  rw [z]; exact p
/-! ### tests -/
theorem k_notT {W : WX} {X : Cx} {F : List Addr} {a : Expr} {p : Pos} {sa : MP.Env → DS → R Bool} (ha : PT X a (TBx U X F W sa)) : PT X (.UnaryOp .Not a p) (TBx U X F W fun ρ st => (sa ρ st).bind fun k st1 => .ok (!k) st1) :=
  pt_imp (pt_not ha) fun σ H Q ⟨ρ, st, μ, hE, hS, hP⟩ => RD.bind hE hS hP fun k st1 μ1 H1 v x1 S1 r1 E1 P1 => by
    have r1 : k = v := r1
    subst r1
    exact P1 μ1 H1 _ .refl S1 rfl
theorem and_imp {W : WX} {X : Cx} {F : List Addr} {sa sb : MP.Env → DS → R Bool} (σ : L2.St) (H : Hp) (Q : Bool → Hp → Prop) (h : TBx U X F W (fun ρ st => (sa ρ st).bind fun k st1 => if k then sb ρ st1 else .ok false st1) σ H Q) : tAnd (TBx U X F W sa) (TBx U X F W sb) σ H Q := by
  obtain ⟨ρ, st, μ, hE, hS, hP⟩ := h
  refine RD.bind hE hS hP fun k st1 μ1 H1 v x1 S1 r1 E1 P1 => ?_
  have r1 : k = v := r1
  subst r1
  cases k with
  | true => exact ⟨ρ, st1, μ1, E1, S1, P1⟩
  | false => exact P1 μ1 H1 _ .refl S1 rfl
theorem or_imp {W : WX} {X : Cx} {F : List Addr} {sa sb : MP.Env → DS → R Bool} (σ : L2.St) (H : Hp) (Q : Bool → Hp → Prop) (h : TBx U X F W (fun ρ st => (sa ρ st).bind fun k st1 => if k then .ok true st1 else sb ρ st1) σ H Q) : tOr (TBx U X F W sa) (TBx U X F W sb) σ H Q := by
  obtain ⟨ρ, st, μ, hE, hS, hP⟩ := h
  refine RD.bind hE hS hP fun k st1 μ1 H1 v x1 S1 r1 E1 P1 => ?_
  have r1 : k = v := r1
  subst r1
  cases k with
  | false => exact ⟨ρ, st1, μ1, E1, S1, P1⟩
  | true => exact P1 μ1 H1 _ .refl S1 rfl
theorem k_andT {W : WX} {X : Cx} {F : List Addr} {a b : Expr} {p : Pos} {sa sb : MP.Env → DS → R Bool} (ha : PT X a (TBx U X F W sa)) (hb : PT X b (TBx U X F W sb)) :
    PT X (.BoolOp .And [a, b] p) (TBx U X F W fun ρ st => (sa ρ st).bind fun k st1 => if k then sb ρ st1 else .ok false st1) := pt_imp (pw_and ha (pw_and1 hb)).pt and_imp
theorem k_orT {W : WX} {X : Cx} {F : List Addr} {a b : Expr} {p : Pos} {sa sb : MP.Env → DS → R Bool} (ha : PT X a (TBx U X F W sa)) (hb : PT X b (TBx U X F W sb)) :
    PT X (.BoolOp .Or [a, b] p) (TBx U X F W fun ρ st => (sa ρ st).bind fun k st1 => if k then .ok true st1 else sb ρ st1) := pt_imp (pw_or ha (pw_or1 hb)).pt or_imp
theorem k_andT3 {W : WX} {X : Cx} {F : List Addr} {a b : Expr} {r : List Expr} {p : Pos} {sa sb : MP.Env → DS → R Bool} (ha : PT X a (TBx U X F W sa)) (hb : PT X (.BoolOp .And (b :: r) p) (TBx U X F W sb)) :
    PT X (.BoolOp .And (a :: b :: r) p) (TBx U X F W fun ρ st => (sa ρ st).bind fun k st1 => if k then sb ρ st1 else .ok false st1) := pt_imp (pw_and ha (pw_of hb)).pt and_imp
theorem k_orT3 {W : WX} {X : Cx} {F : List Addr} {a b : Expr} {r : List Expr} {p : Pos} {sa sb : MP.Env → DS → R Bool} (ha : PT X a (TBx U X F W sa)) (hb : PT X (.BoolOp .Or (b :: r) p) (TBx U X F W sb)) :
    PT X (.BoolOp .Or (a :: b :: r) p) (TBx U X F W fun ρ st => (sa ρ st).bind fun k st1 => if k then .ok true st1 else sb ρ st1) := pt_imp (pw_or ha (pw_of hb)).pt or_imp
theorem k_tv {W : WX} {X : Cx} {F : List Addr} {a : Expr} {sa : MP.Env → DS → R D} (hp : plainT a = true) (ha : PE X a (TDx U X F W sa)) : PT X a (TBx U X F W fun ρ st => (sa ρ st).bind fun x st1 => R.of (truD st1 x) st1) := by
  refine ⟨fun pins s σ H Q I ⟨ρ, st, μ, hE, hS, hP⟩ => ?_⟩
  have q : TDx U X F W sa σ H fun x H1 => ∃ k, TruV X.K x H1 k ∧ Q k H1 := RD.bind hE hS hP fun d st1 μ1 H1 v x1 S1 r1 E1 P1 => by
    obtain ⟨k, e, P2⟩ := Post.of P1
    exact ⟨k, tru_rel S1 r1 e, P2 μ1 H1 _ .refl S1 rfl⟩
  refine isTrue_plain (thn (ha.run pins s σ H _ I q) fun v s1 ⟨x, H1, I1, r1, k, e1, q1⟩ => ?_) (plainT_eq hp _)
  exact thn (tru_ok pins s1 σ H1 x v (fun c H2 => Q c H2) I1 r1 ⟨k, e1, q1⟩) fun c s2 ⟨H2, I2, q2⟩ => ⟨H2, I2, q2⟩
end
end MP

set_option Elab.async false
set_option linter.all false
set_option maxRecDepth 100000
set_option maxHeartbeats 8000000
namespace MP
open PySem L2 PyProof.Rows
section
variable {U : Wd} {n : Nat}
theorem glB_eq' {X : Cx} {x : Str} (h : glB X.env.scope x = true) : Gl X x := glB_eq h
theorem asConst_none {e : Expr} (h : decide (asConst e = some Const.none) = true) : ∃ k p, e = .Constant .none k p := asConst_eq (of_decide_eq_true h)
theorem bits_eq {b : BI} {X : Cx} (g : Gls U X.K X.mg) (h : bitsB U.toSg b = true) : biM X.mg b := by
  cases b <;> first | exact True.intro | exact g.gcOk h | exact g.iqOk h
theorem asIter_seq {sc : Scope} {t i : Expr} {xs : List Expr} (h : asIter sc .seq t i = some xs) : xs = [i] := by
  simp only [asIter] at h
  split at h
  · cases h; rfl
  · cases h
theorem asIter_rng {sc : Scope} {t i : Expr} {xs : List Expr} (h : asIter sc .rng t i = some xs) : ∃ p pos, i = .Call (.Name "range" p) xs [] pos ∧ glB sc "range" = true ∧ xs.all noStar = true ∧ (xs.length = 1 ∨ xs.length = 2) := by
  simp only [asIter] at h
  split at h
  · rename_i g ys pos hx
    obtain rfl := asCall_eq hx
    split at h
    · rename_i hc
      cases h
      simp only [Bool.and_eq_true, Bool.or_eq_true, decide_eq_true_eq, beq_iff_eq] at hc
      obtain ⟨p, rfl⟩ := asName_eq hc.1.1.1
      exact ⟨p, pos, rfl, hc.1.1.2, hc.1.2, hc.2⟩
    · cases h
  · cases h
theorem asIter_enum {sc : Scope} {t i : Expr} {xs : List Expr} (h : asIter sc .enum t i = some xs) : ∃ p pos, i = .Call (.Name "enumerate" p) xs [] pos ∧ glB sc "enumerate" = true ∧ xs.all noStar = true ∧ xs.length = 1 ∧ ∃ es k p2, t = .Tuple es k p2 := by
  simp only [asIter] at h
  split at h
  · rename_i g ys pos hx
    obtain rfl := asCall_eq hx
    split at h
    · rename_i hc
      cases h
      simp only [Bool.and_eq_true, decide_eq_true_eq, beq_iff_eq] at hc
      obtain ⟨p, rfl⟩ := asName_eq hc.1.1.1.1
      obtain ⟨es, he⟩ := Option.isSome_iff_exists.mp hc.2
      exact ⟨p, pos, rfl, hc.1.1.1.2, hc.1.1.2, hc.1.2, es, asTup_eq he⟩
    · cases h
  · cases h
theorem asIter_star {sc : Scope} {ik : IK} {t i : Expr} {xs : List Expr} (h : asIter sc ik t i = some xs) : xs.all noStar = true := by
  cases ik with
  | seq =>
    simp only [asIter] at h
    split at h
    · rename_i hn
      cases h
      simp [hn]
    · cases h
  | rng => obtain ⟨p, pos, _, _, hn, _⟩ := asIter_rng h; exact hn
  | enum => obtain ⟨p, pos, _, _, hn, _⟩ := asIter_enum h; exact hn
  | enumT => cases h
  | zip => cases h
  | keys => cases h
  | items => cases h
  | vals => cases h
  | rev => cases h
/-- what a walk asks, from the arguments' meaning -/
theorem k_iter {W : WX} {X : Cx} {F : List Addr} (c : Ctx U n W X) {ik : IK} {tge iter : Expr} {xs : List Expr} {es : List E} (h : asIter X.env.scope ik tge iter = some xs) (hl : es.length = xs.length) (hr : PA X xs (TLx U X F W (evalL (callN U.Pg n) es))) (h1 : ∀ e e', xs = [e] → es = [e'] → PE X e (TDx U X F W (eval (callN U.Pg n) e'))) :
    PI X tge iter (ITx U X F W fun ρ st => (evalL (callN U.Pg n) es ρ st).bind fun xs st1 => R.of (itD ik st1 xs) st1) := by
  have len : ∀ ρ st ds st1, evalL (callN U.Pg n) es ρ st = .ok ds st1 → ds.length = xs.length := fun ρ st ds st1 e => by rw [evalL_len _ es ρ st ds st1 e, hl]
  cases ik with
  | seq =>
    obtain rfl := asIter_seq h
    obtain ⟨e', rfl⟩ := List.length_eq_one_iff.mp hl
    have z : (fun ρ st => (evalL (callN U.Pg n) [e'] ρ st).bind fun xs st1 => R.of (itD .seq st1 xs) st1) = fun ρ st => (eval (callN U.Pg n) e' ρ st).bind fun x st1 => R.of (itD .seq st1 [x]) st1 := by
      funext ρ st
      rw [evalL]
      cases eval (callN U.Pg n) e' ρ st with
      | ok a st1 => show (((evalL (callN U.Pg n) [] ρ st1).bind fun xs st2 => R.ok (a :: xs) st2).bind fun xs st1 => R.of (itD .seq st1 xs) st1) = _; rw [evalL]; rfl
      | exc a b c => rfl
      | bad => rfl
    rw [z]
    exact k_seq (h1 _ _ rfl rfl)
  | rng =>
    obtain ⟨p, pos, rfl, hg, hn, hxl⟩ := asIter_rng h
    rcases hxl with q | q
    · obtain ⟨e, rfl⟩ := List.length_eq_one_iff.mp q
      simp only [List.all_cons, List.all_nil, Bool.and_true] at hn
      exact k_rng1 c (glB_eq hg) hn hr len
    · rcases xs with _ | ⟨e, _ | ⟨e2, _ | ⟨e3, r⟩⟩⟩ <;> first | (simp at q; done) | skip
      simp only [List.all_cons, List.all_nil, Bool.and_true, Bool.and_eq_true] at hn
      exact k_rng2 c (glB_eq hg) hn.1 hn.2 hr len
  | enum =>
    obtain ⟨p, pos, rfl, hg, hn, hxl, es2, k, p2, rfl⟩ := asIter_enum h
    obtain ⟨e, rfl⟩ := List.length_eq_one_iff.mp hxl
    simp only [List.all_cons, List.all_nil, Bool.and_true] at hn
    exact k_enum c (glB_eq hg) hn hr len
  | enumT => cases h
  | zip => cases h
  | keys => cases h
  | items => cases h
  | vals => cases h
  | rev => cases h
theorem evalTs_one (C : Nat → List D → DS → R D) (e : E) (ρ : MP.Env) (st : DS) : evalTs C [e] ρ st = (evalT C e ρ st).bind fun k st1 => if k then R.ok true st1 else .ok false st1 := by
  rw [evalTs]
  congr 1
theorem lc_eq {C : Nat → List D → DS → R D} {m : Bool} {elt : E} {tg : TN} {ik : IK} {src ifs : List E} {own : List Nat} {ρ : MP.Env} {st : DS} :
    eval C (.lc m elt tg ik src ifs own) ρ st = lcS m tg own (fun ρ st => (evalL C src ρ st).bind fun xs st1 => R.of (itD ik st1 xs) st1) (evalTs C ifs) (eval C elt) ρ st := by
  rw [eval]
  unfold lcS lcF
  dsimp only
  cases evalL C src ρ st with
  | ok xs st1 =>
    simp only [R.bind]
    cases itD ik st1 xs with
    | none => rfl
    | some items => rfl
  | exc a b c => rfl
  | bad => rfl
theorem po_cong {W : WX} {X : Cx} {F : List Addr} {e : Option Expr} {s t : MP.Env → DS → R (Option Int)} (h : ∀ ρ st, s ρ st = t ρ st) (p : PO X e (TOx U X F W t)) : PO X e (TOx U X F W s) := by
  have z : s = t := funext fun ρ => funext fun st => h ρ st
  rw [z]; exact p
theorem pts_cong {X : Cx} {es : List Expr} {s t : MP.Env → DS → R Bool} (h : ∀ ρ st, s ρ st = t ρ st) (p : PTs X es (anyB U X t)) : PTs X es (anyB U X s) := by
  have z : s = t := funext fun ρ => funext fun st => h ρ st
  rw [z]; exact p
mutual
theorem sE : ∀ (e : E) {W : WX} {X : Cx} {lm : Bool} (F : List Addr) (c : Ctx U n W X) (hl : lm = true → LamT U n X) (pe : Expr), cE U.toSg X.N lm X.env.scope e pe = true → PE X pe (TDx U X F W (eval (callN U.Pg n) e))
  | .var i, W, X, lm, F, c, hl, pe, h => by
    simp only [cE] at h
    split at h
    · rename_i x hx
      obtain ⟨p, rfl⟩ := asName_eq hx
      simp only [Bool.and_eq_true, decide_eq_true_eq] at h
      obtain ⟨h1, h2⟩ := okNm_eq h.2
      exact pe_cong (fun ρ st => by rw [eval] <;> rfl) (k_var h.1.1 (visB_eq h.1.2) h1 h2)
    · cases h
  | .lit d, W, X, lm, F, c, hl, pe, h => by
    simp only [cE] at h
    split at h
    · rename_i x hx
      obtain ⟨k, p, rfl⟩ := asConst_eq hx
      exact pe_cong (fun ρ st => by rw [eval] <;> rfl) (k_lit h)
    · cases h
  | .con k d, W, X, lm, F, c, hl, pe, h => by
    simp only [cE] at h
    split at h
    · rename_i x hx
      obtain ⟨p, rfl⟩ := asName_eq hx
      simp only [Bool.and_eq_true] at h
      obtain ⟨⟨h1, h2⟩, h3⟩ := h
      split at h3
      · rename_i y e hk
        simp only [Bool.and_eq_true, decide_eq_true_eq] at h3
        obtain ⟨rfl, h4⟩ := h3
        exact pe_cong (fun ρ st => by rw [eval] <;> rfl) (k_con c (glB_eq h1) (okNm_eq h2).1 hk (eqDD_eq _ _ h4))
      · cases h3
    · cases h
  | .bin op a b, W, X, lm, F, c, hl, pe, h => by
    simp only [cE] at h
    split at h
    · rename_i x o y hx
      obtain ⟨p, rfl⟩ := asBin_eq hx
      simp only [Bool.and_eq_true] at h
      rw [opB_eq h.1.1]
      exact pe_cong (fun ρ st => by rw [eval] <;> rfl) (k_bin (sE a F c hl x h.1.2) (sE b F c hl y h.2))
    · cases h
  | .binO op a b, W, X, lm, F, c, hl, pe, h => by
    simp only [cE] at h
    split at h
    · rename_i x o y hx
      obtain ⟨p, rfl⟩ := asBin_eq hx
      simp only [Bool.and_eq_true] at h
      rw [opB_eq h.1.1]
      exact pe_cong (fun ρ st => by rw [eval] <;> rfl) (k_binO (sE a F c hl x h.1.2) (sE b F c hl y h.2))
    · cases h
  | .neg a, W, X, lm, F, c, hl, pe, h => by
    simp only [cE] at h
    split at h
    · rename_i x hx
      obtain ⟨p, rfl⟩ := asUn_eq hx
      exact pe_cong (fun ρ st => by rw [eval] <;> rfl) (k_neg (sE a F c hl x h))
    · cases h
  | .not a, W, X, lm, F, c, hl, pe, h => by
    simp only [cE] at h
    split at h
    · rename_i x hx
      obtain ⟨p, rfl⟩ := asUn_eq hx
      exact pe_cong (fun ρ st => by rw [eval] <;> rfl) (k_not (sE a F c hl x h))
    · cases h
  | .and a b, W, X, lm, F, c, hl, pe, h => by
    simp only [cE] at h
    split at h
    · rename_i x y p hx
      obtain rfl := asBool_eq hx
      simp only [Bool.and_eq_true] at h
      exact pe_cong (fun ρ st => by rw [eval] <;> rfl) (k_and (sE a F c hl x h.1) (pe_one (sE b F c hl y h.2)))
    · rename_i x y z r p hx
      obtain rfl := asBool_eq hx
      simp only [Bool.and_eq_true] at h
      exact pe_cong (fun ρ st => by rw [eval] <;> rfl) (k_and (sE a F c hl x h.1) (sE b F c hl _ h.2))
    · cases h
  | .or a b, W, X, lm, F, c, hl, pe, h => by
    simp only [cE] at h
    split at h
    · rename_i x y p hx
      obtain rfl := asBool_eq hx
      simp only [Bool.and_eq_true] at h
      exact pe_cong (fun ρ st => by rw [eval] <;> rfl) (k_or (sE a F c hl x h.1) (pe_one (sE b F c hl y h.2)))
    · rename_i x y z r p hx
      obtain rfl := asBool_eq hx
      simp only [Bool.and_eq_true] at h
      exact pe_cong (fun ρ st => by rw [eval] <;> rfl) (k_or (sE a F c hl x h.1) (sE b F c hl _ h.2))
    · cases h
  | .cmp op a b, W, X, lm, F, c, hl, pe, h => by
    simp only [cE] at h
    split at h
    · rename_i x o y hx
      obtain ⟨p, rfl⟩ := asCmp_eq hx
      simp only [Bool.and_eq_true, Bool.not_eq_true'] at h
      obtain ⟨⟨⟨h1, h2⟩, h3⟩, h4⟩ := h
      obtain rfl := cmpB_eq h1
      exact pe_cong (fun ρ st => by rw [eval] <;> rfl) (k_cmp c.good (sE a F c hl x h2) (sE b F c hl y h3) h4)
    · cases h
  | .chain o1 o2 a b d, W, X, lm, F, c, hl, pe, h => by
    simp only [cE] at h
    split at h
    · rename_i x p1 p2 y z hx
      obtain ⟨p, rfl⟩ := asCmp_eq hx
      simp only [Bool.and_eq_true, Bool.not_eq_true'] at h
      obtain ⟨⟨⟨⟨⟨h1, h2⟩, h3⟩, h4⟩, h5⟩, h6⟩ := h
      obtain rfl := cmpB_eq h1
      obtain rfl := cmpB_eq h2
      exact pe_cong (fun ρ st => by rw [eval] <;> rfl) (k_chain c.good (sE a F c hl x h3) (sE b F c hl y h4) (sE d F c hl z h5) h6)
    · cases h
  | .isN ng a, W, X, lm, F, c, hl, pe, h => by
    simp only [cE] at h
    split at h
    · rename_i x o y hx
      obtain ⟨p, rfl⟩ := asCmp_eq hx
      simp only [Bool.and_eq_true] at h
      obtain ⟨⟨h1, h2⟩, h3⟩ := h
      obtain ⟨k, p2, rfl⟩ := asConst_none h1
      exact pe_cong (fun ρ st => by rw [eval] <;> rfl) (k_isN (sE a F c hl x h3) h2)
    · cases h
  | .ife d a b, W, X, lm, F, c, hl, pe, h => by
    simp only [cE] at h
    split at h
    · rename_i x y z hx
      obtain ⟨p, rfl⟩ := asIf_eq hx
      simp only [Bool.and_eq_true] at h
      exact pe_cong (fun ρ st => by rw [eval] <;> rfl) (k_ife (sT d F c hl x h.1.1) (sE a F c hl y h.1.2) (sE b F c hl z h.2))
    · cases h
  | .tup es, W, X, lm, F, c, hl, pe, h => by
    simp only [cE] at h
    split at h
    · rename_i xs hx
      obtain ⟨k, p, rfl⟩ := asTup_eq hx
      simp only [Bool.and_eq_true] at h
      exact pe_cong (fun ρ st => by rw [eval] <;> rfl) (k_tup (sL es F c hl xs h.1 h.2))
    · cases h
  | .lst m es, W, X, lm, F, c, hl, pe, h => by
    simp only [cE] at h
    split at h
    · rename_i xs hx
      obtain ⟨p, rfl⟩ := asList_eq hx
      simp only [Bool.and_eq_true] at h
      exact pe_cong (fun ρ st => by rw [eval] <;> rfl) (k_lst (m := m) (sL es F c hl xs h.1 h.2))
    · cases h
  | .ix a i, W, X, lm, F, c, hl, pe, h => by
    simp only [cE] at h
    split at h
    · rename_i x y hx
      obtain ⟨p, rfl⟩ := asSub_eq hx
      simp only [Bool.and_eq_true] at h
      exact pe_cong (fun ρ st => by rw [eval] <;> rfl) (k_ix h.1.1 (sE a F c hl x h.1.2) (sE i F c hl y h.2))
    · cases h
  | .dix a i, W, X, lm, F, c, hl, pe, h => by
    simp only [cE] at h
    split at h
    · rename_i x y hx
      obtain ⟨p, rfl⟩ := asSub_eq hx
      simp only [Bool.and_eq_true] at h
      exact pe_cong (fun ρ st => by rw [eval] <;> rfl) (k_dix c.good h.1.1 (sE a F c hl x h.1.2) (sE i F c hl y h.2))
    · cases h
  | .din ng a b, W, X, lm, F, c, hl, pe, h => by
    simp only [cE] at h
    split at h
    · rename_i x o y hx
      obtain ⟨p, rfl⟩ := asCmp_eq hx
      simp only [Bool.and_eq_true, Bool.not_eq_true'] at h
      obtain ⟨⟨⟨h1, h2⟩, h3⟩, h4⟩ := h
      exact pe_cong (fun ρ st => by rw [eval] <;> rfl) (k_din c.good (sE a F c hl x h2) (sE b F c hl y h3) h1 h4)
    · cases h
  | .sl m a lo hi, W, X, lm, F, c, hl, pe, h => by
    simp only [cE] at h
    split at h
    · rename_i x y hx
      obtain ⟨p, rfl⟩ := asSub_eq hx
      split at h
      · rename_i l r hy
        obtain ⟨p2, rfl⟩ := asSlice_eq hy
        simp only [Bool.and_eq_true] at h
        exact pe_cong (fun ρ st => by rw [eval] <;> rfl) (k_sl (m := m) (sE a F c hl x h.1.1) (sO lo F c hl l h.1.2) (sO hi F c hl r h.2))
      · cases h
    · cases h
  | .rev m a, W, X, lm, F, c, hl, pe, h => by
    simp only [cE] at h
    split at h
    · rename_i x y hx
      obtain ⟨p, rfl⟩ := asSub_eq hx
      split at h
      · rename_i z hy
        obtain ⟨p2, rfl⟩ := asSlice_eq hy
        simp only [Bool.and_eq_true] at h
        obtain ⟨k, p3, p4, rfl⟩ := isMinusOne_eq h.1
        exact pe_cong (fun ρ st => by rw [eval] <;> rfl) (k_rev (m := m) (sE a F c hl x h.2))
      · cases h
    · cases h
  | .revT a, W, X, lm, F, c, hl, pe, h => by
    simp only [cE] at h
    split at h
    · rename_i x y hx
      obtain ⟨p, rfl⟩ := asSub_eq hx
      split at h
      · rename_i z hy
        obtain ⟨p2, rfl⟩ := asSlice_eq hy
        simp only [Bool.and_eq_true] at h
        obtain ⟨k, p3, p4, rfl⟩ := isMinusOne_eq h.1
        exact pe_cong (fun ρ st => by rw [eval] <;> rfl) (k_revT (sE a F c hl x h.2))
      · cases h
    · cases h
  | .call f es, W, X, lm, F, c, hl, pe, h => by
    simp only [cE] at h
    split at h
    · rename_i g x xs p hx
      obtain rfl := asCall_eq hx
      split at h
      · rename_i nm fd hnm hf
        obtain ⟨p2, rfl⟩ := asName_eq hnm
        simp only [Bool.and_eq_true, decide_eq_true_eq] at h
        obtain ⟨⟨⟨⟨⟨⟨h1, h2⟩, h3⟩, h4⟩, h5⟩, h6⟩, h7⟩ := h
        subst h2
        exact pe_cong (fun ρ st => by rw [eval] <;> rfl) (k_call c hf h1 (glB_eq h3) (okNm_eq h4).1 (by simpa using h5) (sL es F c hl _ (by simpa using h5) h6) fun ρ st ds st1 e => by rw [evalL_len _ es ρ st ds st1 e, h7])
      · cases h
    · cases h
  | .bi b es, W, X, lm, F, c, hl, pe, h => by
    simp only [cE] at h
    split at h
    · rename_i g x xs p hx
      obtain rfl := asCall_eq hx
      split at h
      · rename_i nm hnm
        obtain ⟨p2, rfl⟩ := asName_eq hnm
        simp only [Bool.and_eq_true, decide_eq_true_eq] at h
        obtain ⟨⟨⟨⟨h1, h2⟩, h3⟩, h4⟩, h5⟩ := h
        subst h1
        exact pe_cong (fun ρ st => by rw [eval] <;> rfl) (k_bi c (glB_eq h2) (bits_eq c.gls h5) (by simpa using h3) (sL es F c hl _ (by simpa using h3) h4))
      · cases h
    · cases h
  | .newl m a, W, X, lm, F, c, hl, pe, h => by
    simp only [cE] at h
    split at h
    · rename_i g x p hx
      obtain rfl := asCall_eq hx
      split at h
      · rename_i nm hnm
        obtain ⟨p2, rfl⟩ := asName_eq hnm
        simp only [Bool.and_eq_true, decide_eq_true_eq] at h
        obtain ⟨⟨⟨h1, h2⟩, h3⟩, h4⟩ := h
        subst h1
        exact pe_cong (fun ρ st => by rw [eval] <;> rfl) (k_newl (m := m) c (glB_eq h2) h3 (sE a F c hl x h4))
      · cases h
    · cases h
  | .meth .append o es, W, X, lm, F, c, hl, pe, h => by
    simp only [cE] at h
    split at h
    · rename_i g x p hx
      obtain rfl := asCall_eq hx
      split at h
      · rename_i y m ap hy
        obtain rfl := asAttr_eq hy
        simp only [Bool.and_eq_true, decide_eq_true_eq] at h
        obtain ⟨⟨⟨⟨⟨h1, h2⟩, h3⟩, h4⟩, h5⟩, h6⟩ := h
        subst h1
        exact pe_cong (fun ρ st => by rw [eval] <;> rfl) (k_append (sE o F c hl y h5) (sL es F c hl [x] (by simp [h2]) h6) h2 h3 h4)
      · cases h
    · cases h
  | .meth .pop o [], W, X, lm, F, c, hl, pe, h => by
    simp only [cE] at h
    split at h
    · rename_i g p hx
      obtain rfl := asCall_eq hx
      split at h
      · rename_i y m ap hy
        obtain rfl := asAttr_eq hy
        simp only [Bool.and_eq_true, decide_eq_true_eq] at h
        obtain ⟨⟨⟨h1, h2⟩, h3⟩, h4⟩ := h
        subst h1
        exact pe_cong (fun ρ st => by rw [eval]; simp only [evalL] <;> rfl) (k_pop (sE o F c hl y h4) h2 h3)
      · cases h
    · cases h
  | .meth .bitlen o [], W, X, lm, F, c, hl, pe, h => by
    simp only [cE] at h
    split at h
    · rename_i g p hx
      obtain rfl := asCall_eq hx
      split at h
      · rename_i y m ap hy
        obtain rfl := asAttr_eq hy
        simp only [Bool.and_eq_true, decide_eq_true_eq] at h
        obtain ⟨⟨⟨h1, h2⟩, h3⟩, h4⟩ := h
        subst h1
        exact pe_cong (fun ρ st => by rw [eval]; simp only [evalL] <;> rfl) (k_bits (sE o F c hl y h4) h2 h3)
      · cases h
    · cases h
  | .emp m, W, X, lm, F, c, hl, pe, h => by
    simp only [cE] at h
    split at h
    · rename_i hx
      obtain ⟨p, rfl⟩ := asDict_eq hx
      exact pe_cong (fun ρ st => by rw [eval] <;> rfl) (k_emp (m := m))
    · cases h
  | .dic m es, W, X, lm, F, c, hl, pe, h => by
    simp only [cE] at h
    split at h
    · rename_i k ks vs hx
      obtain ⟨p, rfl⟩ := asDict_eq hx
      simp only [Bool.and_eq_true, decide_eq_true_eq] at h
      obtain ⟨⟨⟨h1, h2⟩, h3⟩, h4⟩ := h
      exact pe_cong (fun ρ st => by rw [eval, evalL_seq]; rfl) (k_dic (m := m) (fs := es.map (eval (callN U.Pg n))) (sP es F c hl p _ _ h4) h3 h2 (by simp) h1)
    · cases h
  | .lc m elt tg ik src ifs own, W, X, lm, F, c, hl, pe, h => by
    simp only [cE] at h
    split at h
    · rename_i pelt gs scope hx
      obtain ⟨pos, rfl⟩ := asLC_eq hx
      split at h
      · rename_i tge iter pifs hg
        obtain rfl := asGen_eq hg
        split at h
        · rename_i xs hi
          simp only [Bool.and_eq_true] at h
          obtain ⟨⟨⟨⟨⟨⟨h1, h2⟩, h3⟩, h4⟩, h5⟩, h6⟩, h7⟩ := h
          have hr : PA X xs (TLx U X F W (evalL (callN U.Pg n) src)) := sL src F c hl xs (asIter_star hi) h5
          exact pe_cong (fun ρ st => lc_eq) (k_lc c h1 h2 h3 h4 (k_iter c hi (cL_len h5) hr (sE1 src F c hl xs h5)) (fun Y s H C cl fp hY => by subst hY; exact sI ifs (lm := false) c.inBlk (fun z => nomatch z) pifs h7) fun Y s H C cl fp hY => by subst hY; exact pe_any fun F' => sE elt F' (X := X.blk s H scope (compEnvC scope cl C X.env) fp) (lm := false) c.inBlk (fun z => nomatch z) pelt h6)
        · cases h
      · cases h
    · cases h
  | .told f e, W, X, lm, F, c, hl, pe, h => by
    simp only [cE] at h
    rw [Bool.and_eq_true] at h
    obtain ⟨hlm, h⟩ := h
    have LT := hl hlm
    split at h
    · rename_i g a p hx
      obtain rfl := asCall_eq hx
      split at h
      · rename_i nm params body scope nm' hnm ha hk
        obtain ⟨p2, rfl⟩ := asName_eq hnm
        obtain ⟨lp, rfl⟩ := asLam_eq ha
        simp only [Bool.and_eq_true, decide_eq_true_eq] at h
        obtain ⟨⟨⟨⟨h1, h2⟩, h3⟩, h4⟩, h5⟩ := h
        subst h1
        obtain rfl := noArgs_eq h4
        obtain ⟨fld, g, a', e', nn, pg, bg, sg, dV, kV, doc, pm, cdv, ct, an, TX, hf⟩ := LT.td f _ hk
        refine pe_cong (fun ρ st => by rw [eval] <;> rfl) (k_told (se := eval (callN U.Pg n) e) c LT.ok TX rfl hf (glB_eq h2) (LamX.lamS_by h3) rfl (fun _ _ _ _ _ => rfl) fun Y E cY hN hsc _ F' => ?_)
        exact sE e F' cY (lm := false) (fun z => nomatch z) body (by rw [hN, hsc]; exact h5)
      · cases h
    · cases h
  | .bad, W, X, lm, F, c, hl, pe, h => by
    simp only [cE] at h
    exact pe_cong (fun ρ st => by rw [eval]) k_bad
  | .tupS _ _ _, W, X, lm, F, c, hl, pe, h => by simp [cE] at h
  | .newd _ _, W, X, lm, F, c, hl, pe, h => by simp [cE] at h
  | .imeth _ _ _ _, W, X, lm, F, c, hl, pe, h => by simp [cE] at h
  | .mk _ _ _, W, X, lm, F, c, hl, pe, h => by simp [cE] at h
  | .fld _ _ _, W, X, lm, F, c, hl, pe, h => by simp [cE] at h
  | .tv _, W, X, lm, F, c, hl, pe, h => by simp [cE] at h
  | .isa _ _, W, X, lm, F, c, hl, pe, h => by simp [cE] at h
  | .meth .extend _ _, W, X, lm, F, c, hl, pe, h => by simp [cE] at h
  | .meth .dget _ _, W, X, lm, F, c, hl, pe, h => by simp [cE] at h
  | .meth .dget2 _ _, W, X, lm, F, c, hl, pe, h => by simp [cE] at h
  | .meth .join _ _, W, X, lm, F, c, hl, pe, h => by simp [cE] at h
  | .meth .dupdate _ _, W, X, lm, F, c, hl, pe, h => by simp [cE] at h
  | .meth .pop _ (_ :: _), W, X, lm, F, c, hl, pe, h => by simp [cE] at h
  | .meth .bitlen _ (_ :: _), W, X, lm, F, c, hl, pe, h => by simp [cE] at h
theorem sT : ∀ (e : E) {W : WX} {X : Cx} {lm : Bool} (F : List Addr) (c : Ctx U n W X) (hl : lm = true → LamT U n X) (pe : Expr), cT U.toSg X.N lm X.env.scope e pe = true → PT X pe (TBx U X F W (evalT (callN U.Pg n) e))
  | .not a, W, X, lm, F, c, hl, pe, h => by
    simp only [cT] at h
    split at h
    · rename_i x hx
      obtain ⟨p, rfl⟩ := asUn_eq hx
      exact pt_cong (fun ρ st => by rw [evalT] <;> rfl) (k_notT (sT a F c hl x h))
    · cases h
  | .and a b, W, X, lm, F, c, hl, pe, h => by
    simp only [cT] at h
    split at h
    · rename_i x y p hx
      obtain rfl := asBool_eq hx
      simp only [Bool.and_eq_true] at h
      exact pt_cong (fun ρ st => by rw [evalT] <;> rfl) (k_andT (sT a F c hl x h.1) (sT b F c hl y h.2))
    · rename_i x y z r p hx
      obtain rfl := asBool_eq hx
      simp only [Bool.and_eq_true] at h
      exact pt_cong (fun ρ st => by rw [evalT] <;> rfl) (k_andT3 (sT a F c hl x h.1) (sT b F c hl _ h.2))
    · cases h
  | .or a b, W, X, lm, F, c, hl, pe, h => by
    simp only [cT] at h
    split at h
    · rename_i x y p hx
      obtain rfl := asBool_eq hx
      simp only [Bool.and_eq_true] at h
      exact pt_cong (fun ρ st => by rw [evalT] <;> rfl) (k_orT (sT a F c hl x h.1) (sT b F c hl y h.2))
    · rename_i x y z r p hx
      obtain rfl := asBool_eq hx
      simp only [Bool.and_eq_true] at h
      exact pt_cong (fun ρ st => by rw [evalT] <;> rfl) (k_orT3 (sT a F c hl x h.1) (sT b F c hl _ h.2))
    · cases h
  | .cmp op a b, W, X, lm, F, c, hl, pe, h => by
    simp only [cT] at h
    split at h
    · rename_i x o y hx
      obtain ⟨p, rfl⟩ := asCmp_eq hx
      simp only [Bool.and_eq_true, Bool.not_eq_true'] at h
      obtain ⟨⟨⟨h1, h2⟩, h3⟩, h4⟩ := h
      obtain rfl := cmpB_eq h1
      exact pt_cong (fun ρ st => by rw [evalT] <;> rfl) (k_cmpT c.good (sE a F c hl x h2) (sE b F c hl y h3) h4)
    · cases h
  | .chain o1 o2 a b d, W, X, lm, F, c, hl, pe, h => by
    simp only [cT] at h
    split at h
    · rename_i x p1 p2 y z hx
      obtain ⟨p, rfl⟩ := asCmp_eq hx
      simp only [Bool.and_eq_true, Bool.not_eq_true'] at h
      obtain ⟨⟨⟨⟨⟨h1, h2⟩, h3⟩, h4⟩, h5⟩, h6⟩ := h
      obtain rfl := cmpB_eq h1
      obtain rfl := cmpB_eq h2
      exact pt_cong (fun ρ st => by rw [evalT] <;> rfl) (k_chainT c.good (sE a F c hl x h3) (sE b F c hl y h4) (sE d F c hl z h5) h6)
    · cases h
  | .isN ng a, W, X, lm, F, c, hl, pe, h => by
    simp only [cT] at h
    split at h
    · rename_i x o y hx
      obtain ⟨p, rfl⟩ := asCmp_eq hx
      simp only [Bool.and_eq_true] at h
      obtain ⟨⟨h1, h2⟩, h3⟩ := h
      obtain ⟨k, p2, rfl⟩ := asConst_none h1
      exact pt_cong (fun ρ st => by rw [evalT] <;> rfl) (k_isNT (sE a F c hl x h3) h2)
    · cases h
  | .din ng a b, W, X, lm, F, c, hl, pe, h => by
    simp only [cT] at h
    split at h
    · rename_i x o y hx
      obtain ⟨p, rfl⟩ := asCmp_eq hx
      simp only [Bool.and_eq_true, Bool.not_eq_true'] at h
      obtain ⟨⟨⟨h1, h2⟩, h3⟩, h4⟩ := h
      exact pt_cong (fun ρ st => by rw [evalT] <;> rfl) (k_dinT c.good (sE a F c hl x h2) (sE b F c hl y h3) h1 h4)
    · cases h
  | .tv a, W, X, lm, F, c, hl, pe, h => by
    simp only [cT] at h
    simp only [Bool.and_eq_true] at h
    exact pt_cong (fun ρ st => by rw [evalT] <;> rfl) (k_tv h.1 (sE a F c hl pe h.2))
  | .var _, W, X, lm, F, c, hl, pe, h => by simp [cT] at h
  | .lit _, W, X, lm, F, c, hl, pe, h => by simp [cT] at h
  | .con _ _, W, X, lm, F, c, hl, pe, h => by simp [cT] at h
  | .bin _ _ _, W, X, lm, F, c, hl, pe, h => by simp [cT] at h
  | .binO _ _ _, W, X, lm, F, c, hl, pe, h => by simp [cT] at h
  | .neg _, W, X, lm, F, c, hl, pe, h => by simp [cT] at h
  | .ife _ _ _, W, X, lm, F, c, hl, pe, h => by simp [cT] at h
  | .tup _, W, X, lm, F, c, hl, pe, h => by simp [cT] at h
  | .tupS _ _ _, W, X, lm, F, c, hl, pe, h => by simp [cT] at h
  | .lst _ _, W, X, lm, F, c, hl, pe, h => by simp [cT] at h
  | .dic _ _, W, X, lm, F, c, hl, pe, h => by simp [cT] at h
  | .ix _ _, W, X, lm, F, c, hl, pe, h => by simp [cT] at h
  | .dix _ _, W, X, lm, F, c, hl, pe, h => by simp [cT] at h
  | .sl _ _ _ _, W, X, lm, F, c, hl, pe, h => by simp [cT] at h
  | .rev _ _, W, X, lm, F, c, hl, pe, h => by simp [cT] at h
  | .revT _, W, X, lm, F, c, hl, pe, h => by simp [cT] at h
  | .call _ _, W, X, lm, F, c, hl, pe, h => by simp [cT] at h
  | .bi _ _, W, X, lm, F, c, hl, pe, h => by simp [cT] at h
  | .newl _ _, W, X, lm, F, c, hl, pe, h => by simp [cT] at h
  | .newd _ _, W, X, lm, F, c, hl, pe, h => by simp [cT] at h
  | .meth _ _ _, W, X, lm, F, c, hl, pe, h => by simp [cT] at h
  | .imeth _ _ _ _, W, X, lm, F, c, hl, pe, h => by simp [cT] at h
  | .mk _ _ _, W, X, lm, F, c, hl, pe, h => by simp [cT] at h
  | .fld _ _ _, W, X, lm, F, c, hl, pe, h => by simp [cT] at h
  | .lc _ _ _ _ _ _ _, W, X, lm, F, c, hl, pe, h => by simp [cT] at h
  | .bad, W, X, lm, F, c, hl, pe, h => by simp [cT] at h
  | .isa _ _, W, X, lm, F, c, hl, pe, h => by simp [cT] at h
  | .told _ _, W, X, lm, F, c, hl, pe, h => by simp [cT] at h
  | .emp _, W, X, lm, F, c, hl, pe, h => by simp [cT] at h
theorem sL : ∀ (es : List E) {W : WX} {X : Cx} {lm : Bool} (F : List Addr) (c : Ctx U n W X) (hl : lm = true → LamT U n X) (pe : List Expr), pe.all noStar = true → cL U.toSg X.N lm X.env.scope es pe = true → PA X pe (TLx U X F W (evalL (callN U.Pg n) es))
  | [], W, X, lm, F, c, hl, [], _, _ => pa_cong (fun ρ st => by rw [evalL]) k_nil
  | e :: es, W, X, lm, F, c, hl, x :: xs, hn, h => by
    simp only [cL, Bool.and_eq_true] at h
    simp only [List.all_cons, Bool.and_eq_true] at hn
    exact pa_cong (fun ρ st => by rw [evalL] <;> rfl) (k_cons hn.1 (sE e F c hl x h.1) (sL es F c hl xs hn.2 h.2))
  | [], W, X, lm, F, c, hl, _ :: _, _, h => by simp [cL] at h
  | _ :: _, W, X, lm, F, c, hl, [], _, h => by simp [cL] at h
theorem sE1 : ∀ (es : List E) {W : WX} {X : Cx} {lm : Bool} (F : List Addr) (c : Ctx U n W X) (hl : lm = true → LamT U n X) (pe : List Expr), cL U.toSg X.N lm X.env.scope es pe = true → ∀ e e', pe = [e] → es = [e'] → PE X e (TDx U X F W (eval (callN U.Pg n) e'))
  | [], W, X, lm, F, c, hl, _, _, e, e', _, he => by cases he
  | a :: r, W, X, lm, F, c, hl, pe, h, e, e', hp, he => by
    subst hp
    simp only [cL, Bool.and_eq_true] at h
    have z : a = e' := by injection he
    rw [← z]
    exact sE a F c hl e h.1
theorem sO : ∀ (es : List E) {W : WX} {X : Cx} {lm : Bool} (F : List Addr) (c : Ctx U n W X) (hl : lm = true → LamT U n X) (pe : Option Expr), cO U.toSg X.N lm X.env.scope es pe = true → PO X pe (TOx U X F W (evalO (callN U.Pg n) es))
  | [], W, X, lm, F, c, hl, none, _ => po_cong (fun ρ st => by rw [evalO]) k_onone
  | [e], W, X, lm, F, c, hl, some x, h => by
    simp only [cO] at h
    exact po_cong (fun ρ st => by rw [evalO] <;> rfl) (k_osome (sE e F c hl x h))
  | [], W, X, lm, F, c, hl, some _, h => by simp [cO] at h
  | [_], W, X, lm, F, c, hl, none, h => by simp [cO] at h
  | _ :: _ :: _, W, X, lm, F, c, hl, _, h => by simp [cO] at h
theorem sP : ∀ (es : List E) {W : WX} {X : Cx} {lm : Bool} (F : List Addr) (c : Ctx U n W X) (hl : lm = true → LamT U n X) (p : Pos) (ks : List (Option Expr)) (vs : List Expr), cP U.toSg X.N lm X.env.scope es ks vs = true → PPs X p ks vs (trsOf U X W (es.map (eval (callN U.Pg n))))
  | [], W, X, lm, F, c, hl, p, [], [], _ => pps_nil
  | a :: b :: es, W, X, lm, F, c, hl, p, some x :: ks, y :: vs, h => by
    simp only [cP, Bool.and_eq_true] at h
    exact pps_cons (pe_anyW fun F' => sE a F' c hl x h.1.1) (pe_anyW fun F' => sE b F' c hl y h.1.2) (sP es F c hl p ks vs h.2)
  | [], W, X, lm, F, c, hl, p, _ :: _, _, h => by simp [cP] at h
  | [], W, X, lm, F, c, hl, p, [], _ :: _, h => by simp [cP] at h
  | [_], W, X, lm, F, c, hl, p, _, _, h => by simp [cP] at h
  | _ :: _ :: _, W, X, lm, F, c, hl, p, [], _, h => by simp [cP] at h
  | _ :: _ :: _, W, X, lm, F, c, hl, p, none :: _, _, h => by simp [cP] at h
  | _ :: _ :: _, W, X, lm, F, c, hl, p, some _ :: _, [], h => by simp [cP] at h
theorem sI : ∀ (es : List E) {X : Cx} {lm : Bool} (c : Ctx U n WF X) (hl : lm = true → LamT U n X) (pe : List Expr), cI U.toSg X.N lm X.env.scope es pe = true → PTs X pe (anyB U X (evalTs (callN U.Pg n) es))
  | [], X, lm, c, hl, [], _ => pts_cong (fun ρ st => by rw [evalTs]) pts_any0
  | [e], X, lm, c, hl, [x], h => by
    simp only [cI] at h
    exact pts_cong (fun ρ st => evalTs_one _ e ρ st) (pts_any1 fun F => sT e F c hl x h)
  | [], X, lm, c, hl, _ :: _, h => by simp [cI] at h
  | [_], X, lm, c, hl, [], h => by simp [cI] at h
  | [_], X, lm, c, hl, _ :: _ :: _, h => by simp [cI] at h
  | _ :: _ :: _, X, lm, c, hl, _, h => by simp [cI] at h
end
end
end MP

set_option Elab.async false
set_option linter.all false
set_option maxRecDepth 100000
set_option maxHeartbeats 4000000
namespace MP
open PySem L2 PyProof.Rows
/-! ### what a statement's meaning asks -/
section
variable (K : PySem.W.Frag) (cls : Cl) (xf : Nat → List Str) (F : List Addr)
def PostS (W : WX) (μ : List Addr) (H : Hp) (r : RS) (D : Ends) : Prop := match r with
  | .nx ρ st => ∀ μ' H' σ', Ext μ μ' H H' → StRel K cls F μ' H' st → EnvRel K F μ' H' ρ σ' → D.nx σ' H'
  | .brk ρ st => ∀ μ' H' σ', Ext μ μ' H H' → StRel K cls F μ' H' st → EnvRel K F μ' H' ρ σ' → D.bk σ' H'
  | .cont ρ st => ∀ μ' H' σ', Ext μ μ' H H' → StRel K cls F μ' H' st → EnvRel K F μ' H' ρ σ' → D.ct σ' H'
  | .ret d st => ∀ μ' H' v, Ext μ μ' H H' → StRel K cls F μ' H' st → Rel K F μ' H' d v → D.rt v H'
  | .exc c fs ρ st => ∀ μ' H' σ' dd l, Ext μ μ' H H' → StRel K cls F μ' H' st → EnvRel K F μ' H' ρ σ' → H' dd = some (.xd l) → XRel K xf F μ' H' c fs l → W (.ref (cls c)) (some dd) σ' H'
  | .bad => False
end
def TSx (U : Wd) (X : Cx) (F : List Addr) (W : WX) (sem : MP.Env → DS → RS) : TS := fun D σ H => ∃ ρ st μ, EnvRel X.K F μ H ρ σ ∧ StRel X.K U.cls F μ H st ∧ PostS X.K U.cls U.xf F W μ H (sem ρ st) D
section
variable {K : PySem.W.Frag} {cls : Cl} {xf : Nat → List Str} {F : List Addr} {W : WX} {μ : List Addr} {H : Hp} {σ : L2.St} {ρ : MP.Env} {st : DS}
theorem PostS.shift {r : RS} {D : Ends} {μ1 : List Addr} {H1 : Hp} (e : Ext μ μ1 H H1) (h : PostS K cls xf F W μ H r D) : PostS K cls xf F W μ1 H1 r D := by
  cases r with
  | nx ρ st => exact fun μ' H' σ' e' => h μ' H' σ' (e.trans e')
  | brk ρ st => exact fun μ' H' σ' e' => h μ' H' σ' (e.trans e')
  | cont ρ st => exact fun μ' H' σ' e' => h μ' H' σ' (e.trans e')
  | ret d st => exact fun μ' H' v e' => h μ' H' v (e.trans e')
  | exc c fs ρ st => exact fun μ' H' σ' dd l e' => h μ' H' σ' dd l (e.trans e')
  | bad => exact h
theorem PostS.ends {r : RS} {D D' : Ends} (h : PostS K cls xf F W μ H r D) (h1 : ∀ σ H, D.nx σ H → D'.nx σ H) (h2 : ∀ v H, D.rt v H → D'.rt v H) (h3 : ∀ σ H, D.bk σ H → D'.bk σ H) (h4 : ∀ σ H, D.ct σ H → D'.ct σ H) : PostS K cls xf F W μ H r D' := by
  cases r with
  | nx ρ st => exact fun μ' H' σ' a b c => h1 _ _ (h μ' H' σ' a b c)
  | brk ρ st => exact fun μ' H' σ' a b c => h3 _ _ (h μ' H' σ' a b c)
  | cont ρ st => exact fun μ' H' σ' a b c => h4 _ _ (h μ' H' σ' a b c)
  | ret d st => exact fun μ' H' v a b c => h2 _ _ (h μ' H' v a b c)
  | exc c fs ρ st => exact h
  | bad => exact h
/-- an expression within a statement -/
theorem RD.to {α β : Type} {Ra : List Addr → Hp → α → β → Prop} {sa : MP.Env → DS → R α} {k : α → DS → RS} {D : Ends} {Q' : β → Hp → Prop} (hE : EnvRel K F μ H ρ σ) (hS : StRel K cls F μ H st) (hP : PostS K cls xf F W μ H ((sa ρ st).to ρ k) D)
    (h : ∀ a st1 μ1 H1 v, sa ρ st = .ok a st1 → Ext μ μ1 H H1 → StRel K cls F μ1 H1 st1 → Ra μ1 H1 a v → EnvRel K F μ1 H1 ρ σ → PostS K cls xf F W μ1 H1 (k a st1) D → Q' v H1) : RD K cls xf F Ra W sa σ H Q' := by
  refine ⟨ρ, st, μ, hE, hS, ?_⟩
  cases e : sa ρ st with
  | ok a st1 =>
    rw [e] at hP
    exact fun μ1 H1 v x s r => h a st1 μ1 H1 v e x s r (hE.mono x) (hP.shift x)
  | exc c fs st1 =>
    rw [e] at hP
    exact fun μ1 H1 dd l x s hd hx => hP μ1 H1 σ dd l x s (hE.mono x) hd hx
  | bad => rw [e] at hP; exact hP.elim
end
section
variable {U : Wd} {n : Nat} {W : WX} {X : Cx} {F : List Addr}
theorem ps_imp {X : Cx} {e : Stmt} {t t' : TS} (h : PS X e t) (i : ∀ D σ H, t' D σ H → t D σ H) : PS X e t' := ⟨fun pins s σ H D I q => h.run pins s σ H D I (i D σ H q)⟩
theorem pss_imp {X : Cx} {e : List Stmt} {t t' : TS} (h : PSs X e t) (i : ∀ D σ H, t' D σ H → t D σ H) : PSs X e t' := ⟨fun pins s σ H D I q => h.run pins s σ H D I (i D σ H q)⟩
theorem w_nil : PSs X [] (TSx U X F W fun ρ st => .nx ρ st) := pss_imp pss_nil fun D σ H ⟨ρ, st, μ, hE, hS, hP⟩ => hP μ H σ .refl hS hE
theorem w_cons {s : Stmt} {r : List Stmt} {a b : MP.Env → DS → RS} (h1 : PS X s (TSx U X F W a)) (h2 : PSs X r (TSx U X F W b)) :
    PSs X (s :: r) (TSx U X F W fun ρ st => match a ρ st with | .nx ρ' st' => b ρ' st' | x => x) := by
  refine pss_imp (pss_cons h1 h2) fun D σ H ⟨ρ, st, μ, hE, hS, hP⟩ => ⟨ρ, st, μ, hE, hS, ?_⟩
  cases e : a ρ st with
  | nx ρ' st' =>
    simp only [e] at hP
    exact fun μ' H' σ' x S E => ⟨ρ', st', μ', E, S, PostS.shift x hP⟩
  | brk ρ' st' => simp only [e] at hP; exact hP
  | cont ρ' st' => simp only [e] at hP; exact hP
  | ret d st' => simp only [e] at hP; exact hP
  | exc c fs ρ' st' => simp only [e] at hP; exact hP
  | bad => simp only [e] at hP; exact hP.elim
def notComp : Expr → Bool | .ListComp _ _ _ _ => false | .SetComp _ _ _ _ => false | .DictComp _ _ _ _ _ => false | _ => true
theorem notComp_eq {e : Expr} (h : notComp e = true) (t : Option Expr) (l : Nat) (env : PySem.Env) : swapsWith e t l env = pure false := by
  cases e <;> first | rfl | cases h
theorem w_expr {e : Expr} {p : Pos} {sa : MP.Env → DS → R D} (hn : notComp e = true) (he : PE X e (TDx U X F W sa)) : PS X (.Expr e p) (TSx U X F W fun ρ st => (sa ρ st).to ρ fun _ st1 => .nx ρ st1) :=
  ps_imp (ps_expr he (notComp_eq hn _ _ _)) fun D σ H ⟨ρ, st, μ, hE, hS, hP⟩ => RD.to hE hS hP fun d st1 μ1 H1 v _ x1 S1 r1 E1 P1 => P1 μ1 H1 σ .refl S1 E1
theorem w_doc {x : Str} {j : Nat} {p p' : Pos} : PS X (.Expr (.Constant (.str x) j p) p') (TSx U X F W fun ρ st => .nx ρ st) := ps_imp ps_doc fun D σ H ⟨ρ, st, μ, hE, hS, hP⟩ => hP μ H σ .refl hS hE
theorem w_pass {p : Pos} : PS X (.Pass p) (TSx U X F W fun ρ st => .nx ρ st) := ps_imp ps_pass fun D σ H ⟨ρ, st, μ, hE, hS, hP⟩ => hP μ H σ .refl hS hE
theorem w_brk {p : Pos} : PS X (.Break p) (TSx U X F W fun ρ st => .brk ρ st) := ps_imp ps_break fun D σ H ⟨ρ, st, μ, hE, hS, hP⟩ => hP μ H σ .refl hS hE
theorem w_cont {p : Pos} : PS X (.Continue p) (TSx U X F W fun ρ st => .cont ρ st) := ps_imp ps_continue fun D σ H ⟨ρ, st, μ, hE, hS, hP⟩ => hP μ H σ .refl hS hE
theorem w_bad {s : Stmt} : PS X s (TSx U X F W fun ρ st => .bad) := ps_imp ps_never fun D σ H ⟨ρ, st, μ, hE, hS, hP⟩ => hP
theorem w_ret {e : Expr} {p : Pos} {sa : MP.Env → DS → R D} (he : PE X e (TDx U X F W sa)) : PS X (.Return (some e) p) (TSx U X F W fun ρ st => (sa ρ st).to ρ fun d st1 => .ret d st1) :=
  ps_imp (ps_ret he) fun D σ H ⟨ρ, st, μ, hE, hS, hP⟩ => RD.to hE hS hP fun d st1 μ1 H1 v _ x1 S1 r1 E1 P1 => P1 μ1 H1 v .refl S1 r1
theorem w_retN {p : Pos} : PS X (.Return none p) (TSx U X F W fun _ st => .ret .non st) := ps_imp ps_retN fun D σ H ⟨ρ, st, μ, hE, hS, hP⟩ => hP μ H .non .refl hS .non
theorem w_ife {e : Expr} {a b : List Stmt} {p : Pos} {sc : MP.Env → DS → R Bool} {sa sb : MP.Env → DS → RS} (hc : PT X e (TBx U X F W sc)) (ha : PSs X a (TSx U X F W sa)) (hb : PSs X b (TSx U X F W sb)) :
    PS X (.If e a b p) (TSx U X F W fun ρ st => (sc ρ st).to ρ fun k st1 => if k then sa ρ st1 else sb ρ st1) :=
  ps_imp (ps_if hc ha hb) fun D σ H ⟨ρ, st, μ, hE, hS, hP⟩ => RD.to hE hS hP fun k st1 μ1 H1 v _ x1 S1 r1 E1 P1 => by
    have r1 : k = v := r1
    subst r1
    cases k with
    | true => exact ⟨ρ, st1, μ1, E1, S1, P1⟩
    | false => exact ⟨ρ, st1, μ1, E1, S1, P1⟩
theorem w_while {e : Expr} {b : List Stmt} {p : Pos} {m : Nat} {sc : MP.Env → DS → R Bool} {sb : MP.Env → DS → RS} (hp : PassesOwn (model X.prog X.w) X.A X.env X.xe) (hc : PT X e (TBx U X F W sc)) (hb : PSs X b (TSx U X F W sb)) :
    PS X (.While e b [] p) (TSx U X F W fun ρ st => whileL sc sb m ρ st) := by
  refine ps_imp (ps_while hp hc hb) fun D σ H ⟨ρ, st, μ, hE, hS, hP⟩ => ?_
  refine ⟨fun k σ H => ∃ ρ st μ, EnvRel X.K F μ H ρ σ ∧ StRel X.K U.cls F μ H st ∧ PostS X.K U.cls U.xf F W μ H (whileL sc sb k ρ st) D, ⟨m, ρ, st, μ, hE, hS, hP⟩, ?_⟩
  rintro k σ H ⟨ρ, st, μ, hE, hS, hP⟩
  cases k with
  | zero => exact hP.elim
  | succ k =>
    refine RD.to hE hS (show PostS X.K U.cls U.xf F W μ H ((sc ρ st).to ρ fun c st1 => if c then (match sb ρ st1 with
      | .nx ρ' st' => whileL sc sb k ρ' st' | .cont ρ' st' => whileL sc sb k ρ' st' | .brk ρ' st' => .nx ρ' st' | r => r) else .nx ρ st1) D from hP) fun c st1 μ1 H1 v _ x1 S1 r1 E1 P1 => ?_
    have r1 : c = v := r1
    subst r1
    cases c with
    | false => exact P1 μ1 H1 σ .refl S1 E1
    | true =>
      rw [if_pos rfl] at P1 ⊢
      refine ⟨fun σ' H' => ∃ ρ st μ, EnvRel X.K F μ H' ρ σ' ∧ StRel X.K U.cls F μ H' st ∧ PostS X.K U.cls U.xf F W μ H' (whileL sc sb k ρ st) D, fun σ' H' q => ⟨k, Nat.lt_succ_self k, q⟩, ρ, st1, μ1, E1, S1, ?_⟩
      cases es : sb ρ st1 with
      | nx ρ' st' => simp only [es] at P1; exact fun μ' H' σ' x S E => ⟨ρ', st', μ', E, S, PostS.shift x P1⟩
      | cont ρ' st' => simp only [es] at P1; exact fun μ' H' σ' x S E => ⟨ρ', st', μ', E, S, PostS.shift x P1⟩
      | brk ρ' st' => simp only [es] at P1; exact P1
      | ret d st' => simp only [es] at P1; exact P1
      | exc c fs ρ' st' => simp only [es] at P1; exact P1
      | bad => simp only [es] at P1; exact P1.elim
theorem w_for {tge iter : Expr} {b : List Stmt} {p : Pos} {tg : TN} {si : MP.Env → DS → R (List D)} {sb : MP.Env → DS → RS} (hp : PassesOwn (model X.prog X.w) X.A X.env X.xe) (hc : X.calm = true) (hns : notSet iter = true) (hi : PI X tge iter (ITx U X F W si)) (hg : PG X tge (gTN X.K tg)) (hb : PSs X b (TSx U X F W sb)) :
    PS X (.For tge iter b [] p) (TSx U X F W fun ρ st => (si ρ st).to ρ fun items st1 => forL (fun x ρ' st' => match tnD tg x ρ' with | some ρ2 => sb ρ2 st' | none => .bad) items ρ st1) := by
  refine ps_imp (ps_for hp hc hi hg hb (notSet_eq hns)) fun D σ H ⟨ρ, st, μ, hE, hS, hP⟩ => RD.to hE hS hP fun items st1 μ1 H1 J _ x1 S1 hJ E1 P1 => ?_
  have hJ : SeqIt X.K F J μ1 H1 items := hJ
  generalize hbd : (fun x ρ' st' => match tnD tg x ρ' with | some ρ2 => sb ρ2 st' | none => RS.bad) = bd at P1
  let Inn : Nat → L2.St → Hp → Prop := fun i σ H => ∃ (μ' : List Addr) (ρ : MP.Env) (st : DS), i ≤ items.length ∧ Ext μ1 μ' H1 H ∧ EnvRel X.K F μ' H ρ σ ∧ StRel X.K U.cls F μ' H st ∧ PostS X.K U.cls U.xf F W μ' H (forL bd (items.drop i) ρ st) D
  refine ⟨fun i k σ H => k = items.length - i ∧ Inn i σ H, ⟨items.length, by simp, μ1, ρ, st1, Nat.zero_le _, .refl, E1, S1, by simpa using P1⟩, ?_⟩
  rintro i k σ H ⟨rfl, μ', ρ, st, hi', e, E, S, P⟩
  by_cases hlt : i < items.length
  · refine .inr ⟨hJ.go i μ' H e hlt, Inn (i + 1), fun σ' H' q => ⟨items.length - (i + 1), by omega, rfl, q⟩, fun x H' y => ?_⟩
    obtain ⟨d, ed, rd, hh⟩ := hJ.yld i F μ' H x H' e (fun d v r => r.up e) (fun p hp => S.fresh hp) hlt y
    have e2 : Ext μ' μ' H H' := by
      rcases hh with rfl | ⟨T, xs, hT, rfl⟩
      · exact .refl
      · exact ext_new hT
    have S2 : StRel X.K U.cls F μ' H' st := by
      rcases hh with rfl | ⟨T, xs, hT, rfl⟩
      · exact S
      · exact S.new hT
    have hdrop : items.drop i = d :: items.drop (i + 1) := by
      obtain ⟨h1, h2⟩ := List.getElem?_eq_some_iff.mp ed
      rw [← h2]
      exact List.drop_eq_getElem_cons h1
    rw [hdrop] at P
    have P : PostS X.K U.cls U.xf F W μ' H (match bd d ρ st with | .nx ρ' st' => forL bd (items.drop (i + 1)) ρ' st' | .cont ρ' st' => forL bd (items.drop (i + 1)) ρ' st' | .brk ρ' st' => .nx ρ' st' | r => r) D := P
    rw [← hbd] at P
    cases et : tnD tg d ρ with
    | none => simp only [et] at P; exact P.elim
    | some ρ2 =>
      simp only [et] at P
      refine ⟨F, μ', ρ, d, ρ2, E.mono e2, rd, et, fun σ2 Eσ hl hj => ⟨ρ2, st, μ', Eσ, S2, ?_⟩⟩
      have P := PostS.shift e2 P
      rw [hbd] at P
      cases es : sb ρ2 st with
      | nx ρ' st' => simp only [es] at P; exact fun μ3 H3 σ3 x3 S3 E3 => ⟨μ3, ρ', st', hlt, (e.trans e2).trans x3, E3, S3, PostS.shift x3 P⟩
      | cont ρ' st' => simp only [es] at P; exact fun μ3 H3 σ3 x3 S3 E3 => ⟨μ3, ρ', st', hlt, (e.trans e2).trans x3, E3, S3, PostS.shift x3 P⟩
      | brk ρ' st' => simp only [es] at P; exact P
      | ret d st' => simp only [es] at P; exact P
      | exc c fs ρ' st' => simp only [es] at P; exact P
      | bad => simp only [es] at P; exact P.elim
  · have hi2 : i = items.length := by omega
    subst hi2
    refine .inl ⟨hJ.stop μ' H e, ?_⟩
    rw [List.drop_length] at P
    exact P μ' H σ .refl S E
def augS (i : Nat) (op : BOp) (sa : MP.Env → DS → R D) : MP.Env → DS → RS := fun ρ st => match getV ρ i with
  | some x => (sa ρ st).to ρ fun y st1 => match augD op x y with
    | some z => .nx (setV ρ i (some z)) st1
    | none => .bad
  | none => .bad
theorem w_augF {i : Nat} {x : Str} {e : Expr} {p p' : Pos} {op : BOp} {sa : MP.Env → DS → R D} (f : Int → Int → Int) (hf2 : ∀ x y z, augD op x y = some z → ∃ i j, x = .int i ∧ y = .int j ∧ z = .int (f i j)) (hip : PIp X (toOp op) (ipI f))
    (hN : X.N.Nodup) (hi : X.N[i]? = some x) (hx : L2.Loc X.env.scope x) (hf : X.fn x = true) (he : PE X e (TDx U X F W sa)) : PS X (.AugAssign (.Name x p') (toOp op) e p) (TSx U X F W (augS i op sa)) := by
  refine ps_imp (ps_aug hN hi hx he hip (.inl hf)) fun D σ H ⟨ρ, st, μ, hE, hS, hP⟩ => ?_
  unfold augS at hP
  cases eg : getV ρ i with
  | none => simp only [eg] at hP; exact hP.elim
  | some dx =>
    simp only [eg] at hP
    obtain ⟨v, ev, rv⟩ := hE.at eg
    refine ⟨v, ev, RD.to hE hS hP fun dy st1 μ1 H1 w _ x1 S1 r1 E1 P1 => ?_⟩
    cases ez : augD op dx dy with
    | none => rw [ez] at P1; exact P1.elim
    | some z =>
      rw [ez] at P1
      obtain ⟨a, b, rfl, rfl, rfl⟩ := hf2 _ _ _ ez
      cases rv; cases r1
      exact ⟨a, b, rfl, rfl, P1 μ1 H1 _ .refl S1 (E1.set (.int _))⟩
theorem w_aug {i : Nat} {x : Str} {e : Expr} {p p' : Pos} {op : BOp} {sa : MP.Env → DS → R D} (hop : op = .add ∨ op = .sub) (hN : X.N.Nodup) (hi : X.N[i]? = some x) (hx : L2.Loc X.env.scope x) (hf : X.fn x = true) (he : PE X e (TDx U X F W sa)) :
    PS X (.AugAssign (.Name x p') (toOp op) e p) (TSx U X F W (augS i op sa)) := by
  rcases hop with rfl | rfl
  · refine w_augF (fun i j => i + j) (fun x y z h => ?_) ip_add hN hi hx hf he
    cases x <;> cases y <;> first | (cases h; done) | (cases h; exact ⟨_, _, rfl, rfl, rfl⟩)
  · refine w_augF (fun i j => i - j) (fun x y z h => ?_) ip_sub hN hi hx hf he
    cases x <;> cases y <;> first | (cases h; done) | (cases h; exact ⟨_, _, rfl, rfl, rfl⟩)
end
end MP

set_option Elab.async false
set_option linter.all false
set_option maxRecDepth 100000
set_option maxHeartbeats 4000000
namespace MP
open PySem L2 PyProof.Rows
/-! ### which stores are exchanged -/
def namesS (sc : Scope) (ts : List Expr) : List Str := ts.filterMap fun
  | .Name id pos => if sc.names.lookup id == some .local && pos.line == (ts.head?.map (·.pos.line)).getD 0 then some id else none
  | _ => none
def namesOk (sc : Scope) (ts : List Expr) : Bool := (namesS sc ts).length == ts.length && (namesS sc ts).eraseDups.length == (namesS sc ts).length
def noSwp (sc : Scope) (tg value : Expr) : Bool := match asTup tg, asTup value with
  | some ts, some vs => !(ts.length == 2 || ts.length == 3) || vs.length != ts.length || !(vs.all noStar) || !(namesOk sc ts) || vs.all (foldedForSure 8)
  | some _, none => true
  | none, _ => (match tg with | .Name _ _ => true | .Subscript _ _ _ => true | .Attribute _ _ _ => true | _ => false)
def isSwp (sc : Scope) (ts vs : List Expr) : Bool := (ts.length == 2 || ts.length == 3) && vs.length == ts.length && vs.all noStar && namesOk sc ts && !(vs.all (foldedForSure 8)) && !(vs.all (constantsAlone 8))
theorem any_star : ∀ {vs : List Expr}, (vs.any fun | .Starred .. => true | _ => false) = !(vs.all noStar)
  | [] => rfl
  | v :: vs => by
    rw [List.any_cons, List.all_cons, any_star (vs := vs)]
    cases v <;> simp [noStar]
theorem names_bad {sc : Scope} {ts : List Expr} : ((namesS sc ts).length != ts.length || (namesS sc ts).eraseDups.length != (namesS sc ts).length) = !(namesOk sc ts) := by
  unfold namesOk
  rw [Bool.not_and]
  rfl
theorem swp_none {tg value : Expr} {env : PySem.Env} (hk : env.scope.kind = .function) (h : noSwp env.scope tg value = true) : swappedStores [tg] value env = pure none := by
  have hb : env.blockKind = .function := by unfold Env.blockKind; rw [hk]; rfl
  unfold noSwp at h
  split at h
  · rename_i ts vs h1 h2
    obtain ⟨_, _, rfl⟩ := asTup_eq h1
    obtain ⟨_, _, rfl⟩ := asTup_eq h2
    unfold swappedStores
    simp only [hb]
    split
    · rfl
    · rename_i ha
      split
      · rfl
      · rename_i hst
        split
        · rfl
        · rename_i hnm
          split
          · rfl
          · rename_i hfo
            exfalso
            simp only [Bool.or_eq_true] at h
            rcases h with (((h | h) | h) | h) | h
            · exact ha (by simp only [Bool.or_eq_true]; exact .inl (.inl h))
            · exact ha (by simp only [Bool.or_eq_true]; exact .inl (.inr h))
            · exact hst (any_star.trans h)
            · exact hnm (names_bad.trans h)
            · exact hfo h
  · rename_i ts h1 h2
    obtain ⟨_, _, rfl⟩ := asTup_eq h1
    cases value <;> first | rfl | cases h2
  · split at h <;> first | (cases value <;> rfl) | cases h
theorem swp_some {ts vs : List Expr} {kt k2 : Nat} {pt pt2 : Pos} {env : PySem.Env} (hk : env.scope.kind = .function) (h : isSwp env.scope ts vs = true) : swappedStores [.Tuple ts kt pt] (.Tuple vs k2 pt2) env = pure (some (namesS env.scope ts)) := by
  have hb : env.blockKind = .function := by unfold Env.blockKind; rw [hk]; rfl
  unfold isSwp at h
  simp only [Bool.and_eq_true, Bool.not_eq_true'] at h
  obtain ⟨⟨⟨⟨⟨h1, h2⟩, h3⟩, h4⟩, h5⟩, h6⟩ := h
  have e : (vs.length != ts.length) = false := by simpa [bne] using h2
  unfold swappedStores
  simp only [hb]
  split
  · rename_i ha
    rw [h1, e] at ha
    exact absurd ha (by decide)
  · split
    · rename_i hst
      exact absurd (any_star.symm.trans hst) (by rw [h3]; decide)
    · split
      · rename_i hnm
        exact absurd (names_bad.symm.trans hnm) (by rw [h4]; decide)
      · split
        · rename_i hfo
          rw [h5] at hfo; cases hfo
        · split
          · rename_i hco
            rw [h6] at hco; cases hco
          · rfl
theorem assign_subE {o i : Expr} {pos : Pos} {env : PySem.Env} (h : plainIx i = true) : ∀ v, assign (.Subscript o i pos) env v = (do
      let ov ← holding [v] (PySem.eval o env)
      let iv ← holding [v, ov] (PySem.eval i env)
      standAt pos
      holding [v, ov, iv] (setItem ov iv v)
      release [v, ov, iv] []) := by
  intro v
  cases i <;> first | rfl | cases h
/-! ### targets -/
section
variable (U : Sg) (N : List Str)
mutual
def cTT (lm : Bool) (sc : Scope) : T → Expr → Bool
  | .nm i, pe => match asName pe with | some x => decide (N[i]? = some x) && locB sc x | none => false
  | .sub o i, pe => match asSub pe with | some (x, y) => plainIx y && cE U N lm sc o x && cE U N lm sc i y | none => false
  | .tp ts, pe => match asTup pe with | some xs => xs.all noStar && cTTL lm sc ts xs | none => false
  | .fld _ _ _, _ => false
def cTTL (lm : Bool) (sc : Scope) : List T → List Expr → Bool
  | [], [] => true
  | t :: ts, x :: xs => cTT lm sc t x && cTTL lm sc ts xs
  | _, _ => false
end
end
theorem RelL.setAt {K : PySem.W.Frag} {F μ : List Addr} {H : Hp} : ∀ {ds : List D} {vs : List V} (j : Nat) {d : D} {v : V}, RelL K F μ H ds vs → Rel K F μ H d v → RelL K F μ H (ds.set j d) (vs.set j v)
  | [], _, _, _, _, h, _ => by cases h; exact .nil
  | _ :: _, _, 0, _, _, h, r => by
    cases h with
    | cons h1 h2 => exact .cons r h2
  | _ :: _, _, j + 1, _, _, h, r => by
    cases h with
    | cons h1 h2 => exact .cons h1 (RelL.setAt j h2 r)
section
variable {U : Wd} {n : Nat} {W : WX} {X : Cx} {F : List Addr}
def onlyNx (Q : L2.St → Hp → Prop) : Ends := { nx := Q, rt := fun _ _ => False }
def gTx (U : Wd) (X : Cx) (F : List Addr) (W : WX) (C : Nat → List D → DS → R D) (t : T) : TG := fun v σ H Q => ∃ μ ρ st d, EnvRel X.K F μ H ρ σ ∧ StRel X.K U.cls F μ H st ∧ Rel X.K F μ H d v ∧ PostS X.K U.cls U.xf F W μ H (asgT C t d ρ st) (onlyNx Q)
def gTxL (U : Wd) (X : Cx) (F : List Addr) (W : WX) (C : Nat → List D → DS → R D) (t : List T) : TGs := fun vs σ H Q => ∃ μ ρ st ds, EnvRel X.K F μ H ρ σ ∧ StRel X.K U.cls F μ H st ∧ RelL X.K F μ H ds vs ∧ PostS X.K U.cls U.xf F W μ H (asgTs C t ds ρ st) (onlyNx Q)
def setO2 : TSet := fun o i v H Q => rSetD o i v H Q ∨ rSetL o i v H Q
theorem set_any (hu : X.A.units + 1 < cLine) : PSet X setO2 := fun pins s σ H o i v ov iv u Q I ro ri rv h => h.elim (set_dict hu pins s σ H o i v ov iv u Q I ro ri rv) (set_list pins s σ H o i v ov iv u Q I ro ri rv)
theorem cTTL_len {N : List Str} {lm : Bool} {sc : Scope} : ∀ {ts : List T} {xs : List Expr}, cTTL U.toSg N lm sc ts xs = true → xs.length = ts.length
  | [], [], _ => rfl
  | [], _ :: _, h => by simp [cTTL] at h
  | _ :: _, [], h => by simp [cTTL] at h
  | t :: ts, x :: xs, h => by
    simp only [cTTL, Bool.and_eq_true] at h
    simp [cTTL_len h.2]
theorem keyOf_int {d : D} {i : Int} (h : keyOf d = some (.inl i)) : d = .int i := by
  cases d <;> first | (cases h; rfl) | cases h
mutual
theorem pgT {lm : Bool} (c : Ctx U n W X) (hl : lm = true → LamT U n X) (hfn : ∀ x, X.fn x = true) : ∀ (t : T) (pe : Expr), cTT U.toSg X.N lm X.env.scope t pe = true → PG X pe (gTx U X F W (callN U.Pg n) t)
  | .nm i, pe, h => by
    simp only [cTT] at h
    split at h
    · rename_i x hx
      obtain ⟨p, rfl⟩ := asName_eq hx
      simp only [Bool.and_eq_true, decide_eq_true_eq] at h
      refine pg_imp (pg_name c.nd h.1 (locB_eq h.2) (.inl (hfn x))) fun v σ H Q ⟨μ, ρ, st, d, hE, hS, hr, hP⟩ => ?_
      simp only [asgT] at hP
      exact hP μ H _ .refl hS (hE.set hr)
    · cases h
  | .sub o i, pe, h => by
    simp only [cTT] at h
    split at h
    · rename_i x y hx
      obtain ⟨p, rfl⟩ := asSub_eq hx
      simp only [Bool.and_eq_true] at h
      refine pg_imp (pg_sub (sE o F c hl x h.1.2) (sE i F c hl y h.2) (set_any (by have := c.good.hu; omega)) (assign_subE h.1.1)) fun v σ H Q ⟨μ, ρ, st, d, hE, hS, hr, hP⟩ => ?_
      simp only [asgT] at hP
      refine RD.to hE hS hP fun od st1 μ1 H1 ov _ x1 S1 r1 E1 P1 => RD.to E1 S1 P1 fun xd st2 μ2 H2 iv _ x2 S2 r2 E2 P2 => ?_
      have hr2 := (hr.up x1).up x2
      have r1 : Rel X.K F μ2 H2 od ov := r1.up x2
      obtain ⟨m, rfl⟩ : ∃ m, od = .ref m := by
        cases od <;> first | exact P2.elim | exact ⟨_, rfl⟩
      dsimp only at P2
      cases eo : getO st2 m with
      | none => rw [eo] at P2; exact P2.elim
      | some ob =>
        cases ek : keyOf xd with
        | none =>
          rw [eo, ek] at P2
          cases ob <;> exact P2.elim
        | some k =>
          rw [eo, ek] at P2
          obtain ⟨a, rfl, hn2, ro⟩ := lstR' S2 r1 eo
          cases ob with
          | dic kvs =>
            dsimp only at P2
            split at P2
            · rename_i hl
              obtain ⟨l, ea, rp⟩ := ro
              have e1 : Ext μ2 μ2 H2 (upd H2 a (.dK (putK l k v))) := ext_set (List.mem_of_getElem? hn2)
              refine .inl ⟨a, _, rfl, by rw [rel_key r2 ek]; exact DPut.k ea (by rw [← rp.length]; exact hl), ?_⟩
              exact P2 μ2 _ σ e1 (S2.set hn2 ⟨_, upd_same, RelP.mono e1 _ _ (rp.put ek hr2)⟩) (E2.mono e1)
            · exact P2.elim
          | lst xs =>
            cases k with
            | inr z => exact P2.elim
            | inl j =>
              dsimp only at P2
              cases ej : ixN xs.length j with
              | none => rw [ej] at P2; exact P2.elim
              | some q =>
                rw [ej] at P2
                obtain ⟨l, ea, rl⟩ := ro
                obtain rfl := keyOf_int ek
                cases r2
                obtain ⟨e1, S3⟩ := setL (xs := xs) S2 hn2 (RelL.setAt q rl hr2)
                exact .inr ⟨a, l, j, q, rfl, rfl, ea, by rw [← rl.length]; exact ej, P2 μ2 _ σ e1 S3 (E2.mono e1)⟩
          | ins _ _ => exact P2.elim
    · cases h
  | .tp ts, pe, h => by
    simp only [cTT] at h
    split at h
    · rename_i xs hx
      obtain ⟨k, p, rfl⟩ := asTup_eq hx
      simp only [Bool.and_eq_true] at h
      obtain ⟨l1, l2⟩ := assign_len (env := X.env) h.1
      refine pg_imp (pg_tup (n := xs.length) c.calm (pgTL c hl hfn ts xs h.1 h.2) l1 l2) fun v σ H Q ⟨μ, ρ, st, d, hE, hS, hr, hP⟩ => ?_
      cases d <;> first | (simp only [asgT] at hP; exact hP.elim) | skip
      rename_i ds
      simp only [asgT] at hP
      split at hP
      · rename_i hl
        obtain ⟨a, vs, rfl, sq, r2⟩ := tupD_rel hr
        exact ⟨a, vs, rfl, sq, by rw [← r2.length, hl, cTTL_len h.2], μ, ρ, st, ds, hE, hS, r2, hP⟩
      · exact hP.elim
    · cases h
  | .fld _ _ _, pe, h => by simp [cTT] at h
theorem pgTL {lm : Bool} (c : Ctx U n W X) (hl : lm = true → LamT U n X) (hfn : ∀ x, X.fn x = true) : ∀ (t : List T) (pe : List Expr), pe.all noStar = true → cTTL U.toSg X.N lm X.env.scope t pe = true → PGs X pe (gTxL U X F W (callN U.Pg n) t)
  | [], [], _, _ => pgs_imp pgs_nil fun v σ H Q ⟨μ, ρ, st, ds, hE, hS, hr, hP⟩ => by
    cases ds with
    | nil =>
      cases hr
      simp only [asgTs] at hP
      exact ⟨rfl, hP μ H σ .refl hS hE⟩
    | cons => simp only [asgTs] at hP; exact hP.elim
  | t :: ts, x :: xs, hn, h => by
    simp only [List.all_cons, Bool.and_eq_true] at hn
    simp only [cTTL, Bool.and_eq_true] at h
    refine pgs_imp (pgs_cons (pgT c hl hfn t x h.1) (pgTL c hl hfn ts xs hn.2 h.2) (by rw [assign1 hn.1]; rfl)) fun v σ H Q ⟨μ, ρ, st, ds, hE, hS, hr, hP⟩ => ?_
    cases ds with
    | nil => simp only [asgTs] at hP; exact hP.elim
    | cons d ds =>
      cases hr with
      | cons r1 r2 =>
        simp only [asgTs] at hP
        refine ⟨_, _, rfl, μ, ρ, st, d, hE, hS, r1, ?_⟩
        cases e : asgT (callN U.Pg n) t d ρ st with
        | nx ρ' st' =>
          simp only [e] at hP
          exact fun μ' H' σ' x' S' E' => ⟨μ', ρ', st', ds, E', S', r2.up x', PostS.shift x' hP⟩
        | exc c' fs ρ' st' => simp only [e] at hP; exact hP
        | ret d st' => simp only [e] at hP; exact hP.elim
        | brk ρ' st' => simp only [e] at hP; exact hP.elim
        | cont ρ' st' => simp only [e] at hP; exact hP.elim
        | bad => simp only [e] at hP; exact hP.elim
  | [], _ :: _, _, h => by simp [cTTL] at h
  | _ :: _, [], _, h => by simp [cTTL] at h
end
end
end MP
namespace MP
open PySem L2 PyProof.Rows
theorem R.to_ends {α : Type} (x : R α) (ρ : MP.Env) (f : α → DS → RS) (h : ∀ a st, (∀ d st', f a st ≠ .ret d st') ∧ (∀ d st', f a st ≠ .brk d st') ∧ ∀ d st', f a st ≠ .cont d st') : (∀ d st', x.to ρ f ≠ .ret d st') ∧ (∀ d st', x.to ρ f ≠ .brk d st') ∧ ∀ d st', x.to ρ f ≠ .cont d st' := by
  cases x with
  | ok a st => exact h a st
  | exc c fs st => exact ⟨fun _ _ z => (nomatch z), fun _ _ z => (nomatch z), fun _ _ z => (nomatch z)⟩
  | bad => exact ⟨fun _ _ z => (nomatch z), fun _ _ z => (nomatch z), fun _ _ z => (nomatch z)⟩
def SEnd (r : RS) : Prop := (∀ d st', r ≠ .ret d st') ∧ (∀ d st', r ≠ .brk d st') ∧ ∀ d st', r ≠ .cont d st'
theorem send_nx {ρ : MP.Env} {st : DS} : SEnd (.nx ρ st) := ⟨fun _ _ z => (nomatch z), fun _ _ z => (nomatch z), fun _ _ z => (nomatch z)⟩
theorem send_exc {c : Nat} {fs : List D} {ρ : MP.Env} {st : DS} : SEnd (.exc c fs ρ st) := ⟨fun _ _ z => (nomatch z), fun _ _ z => (nomatch z), fun _ _ z => (nomatch z)⟩
theorem send_bad : SEnd .bad := ⟨fun _ _ z => (nomatch z), fun _ _ z => (nomatch z), fun _ _ z => (nomatch z)⟩
mutual
theorem asgT_ends (C : Nat → List D → DS → R D) : ∀ (t : T) (d : D) (ρ : MP.Env) (st : DS), SEnd (asgT C t d ρ st)
  | .nm i, d, ρ, st => by simp only [asgT]; exact send_nx
  | .sub o i, d, ρ, st => by
    simp only [asgT]
    refine R.to_ends _ _ _ fun od st1 => R.to_ends _ _ _ fun x st2 => ?_
    show SEnd _
    split
    · split
      · split <;> first | exact send_nx | exact send_bad
      · split <;> first | exact send_nx | exact send_bad
      · exact send_bad
    · exact send_bad
  | .fld c o f, d, ρ, st => by
    simp only [asgT]
    refine R.to_ends _ _ _ fun od st1 => ?_
    show SEnd _
    split
    · split
      · split <;> first | exact send_nx | exact send_bad
      · exact send_bad
    · exact send_bad
  | .tp ts, d, ρ, st => by
    cases d <;> first | (simp only [asgT]; exact send_bad) | skip
    simp only [asgT]
    split
    · exact asgTs_ends C ts _ ρ st
    · exact send_bad
theorem asgTs_ends (C : Nat → List D → DS → R D) : ∀ (t : List T) (d : List D) (ρ : MP.Env) (st : DS), SEnd (asgTs C t d ρ st)
  | [], [], ρ, st => by simp only [asgTs]; exact send_nx
  | [], _ :: _, ρ, st => by simp only [asgTs]; exact send_bad
  | _ :: _, [], ρ, st => by simp only [asgTs]; exact send_bad
  | t :: ts, d :: ds, ρ, st => by
    simp only [asgTs]
    split
    · exact asgTs_ends C ts ds _ _
    · exact send_exc
    · exact send_bad
end
end MP

set_option Elab.async false
set_option linter.all false
set_option maxRecDepth 100000
set_option maxHeartbeats 4000000
namespace MP
open PySem L2 PyProof.Rows
def asExprS : Stmt → Option Expr | .Expr e _ => some e | _ => none
def asRet : Stmt → Option (Option Expr) | .Return e _ => some e | _ => none
def asAssign : Stmt → Option (Expr × Expr × Pos) | .Assign [t] e p => some (t, e, p) | _ => none
def asAug : Stmt → Option (Expr × Operator × Expr) | .AugAssign t o e _ => some (t, o, e) | _ => none
def asIfS : Stmt → Option (Expr × List Stmt × List Stmt) | .If c a b _ => some (c, a, b) | _ => none
def asWhile : Stmt → Option (Expr × List Stmt) | .While c a [] _ => some (c, a) | _ => none
def asFor : Stmt → Option (Expr × Expr × List Stmt) | .For t i b [] _ => some (t, i, b) | _ => none
def asRaise : Stmt → Option Expr | .Raise (some e) none _ => some e | _ => none
def isPass : Stmt → Bool | .Pass _ => true | .Expr (.Constant (.str _) _ _) _ => true | _ => false
def isBrk : Stmt → Bool | .Break _ => true | _ => false
def isCont : Stmt → Bool | .Continue _ => true | _ => false
theorem asExprS_eq {s : Stmt} {e : Expr} (h : asExprS s = some e) : ∃ p, s = .Expr e p := by cases s <;> first | (cases h; done) | skip; cases h; exact ⟨_, rfl⟩
theorem asRet_eq {s : Stmt} {e : Option Expr} (h : asRet s = some e) : ∃ p, s = .Return e p := by cases s <;> first | (cases h; done) | skip; cases h; exact ⟨_, rfl⟩
theorem asAssign_eq {s : Stmt} {t e : Expr} {p : Pos} (h : asAssign s = some (t, e, p)) : s = .Assign [t] e p := by
  unfold asAssign at h
  split at h
  · cases h; rfl
  · cases h
theorem asAug_eq {s : Stmt} {t e : Expr} {o : Operator} (h : asAug s = some (t, o, e)) : ∃ p, s = .AugAssign t o e p := by cases s <;> first | (cases h; done) | skip; cases h; exact ⟨_, rfl⟩
theorem asIfS_eq {s : Stmt} {c : Expr} {a b : List Stmt} (h : asIfS s = some (c, a, b)) : ∃ p, s = .If c a b p := by cases s <;> first | (cases h; done) | skip; cases h; exact ⟨_, rfl⟩
theorem asWhile_eq {s : Stmt} {c : Expr} {a : List Stmt} (h : asWhile s = some (c, a)) : ∃ p, s = .While c a [] p := by
  unfold asWhile at h
  split at h
  · cases h; exact ⟨_, rfl⟩
  · cases h
theorem asFor_eq {s : Stmt} {t i : Expr} {a : List Stmt} (h : asFor s = some (t, i, a)) : ∃ p, s = .For t i a [] p := by
  unfold asFor at h
  split at h
  · cases h; exact ⟨_, rfl⟩
  · cases h
theorem asRaise_eq {s : Stmt} {e : Expr} (h : asRaise s = some e) : ∃ p, s = .Raise (some e) none p := by
  unfold asRaise at h
  split at h
  · cases h; exact ⟨_, rfl⟩
  · cases h
/-- a comprehension as a value does not take its target along -/
def swOk (sc : Scope) (tg value : Expr) : Bool := notComp value || (match tg with | .Name x p => !(decide (sc.names.lookup x = some .local)) | _ => true)
theorem swOk_eq {tg value : Expr} {l : Nat} {env : PySem.Env} (h : swOk env.scope tg value = true) : swapsWithSole [tg] value l env = pure false := by
  show swapsWith value (some tg) l env = pure false
  unfold swOk at h
  simp only [Bool.or_eq_true] at h
  rcases h with h | h
  · exact notComp_eq h _ _ _
  · by_cases hn : notComp value = true
    · exact notComp_eq hn _ _ _
    · cases tg with
      | Name x p =>
        have hk : (env.kindOf x == some NameKind.local) = false := by
          simp only [Bool.not_eq_true', decide_eq_false_iff_not] at h
          unfold Env.kindOf
          simpa using h
        cases value <;> first | (exact absurd rfl hn) | skip
        all_goals (unfold swapsWith; dsimp only; rw [hk]; simp)
      | _ => cases value <;> first | (exact absurd rfl hn) | rfl
structure SCtx (U : Wd) (n : Nat) (W : WX) (X : Cx) (lm : Bool) : Prop where
  c : Ctx U n W X
  hl : lm = true → LamT U n X
  kd : X.env.scope.kind = .function
  hfn : ∀ x, X.fn x = true
  ps : PassesOwn (model X.prog X.w) X.A X.env X.xe
  mkx : ∀ (c : Nat) (nm : Str), U.xn c = some nm → Gl X nm → ∀ (F : List Addr) (x : Expr) (xs : List Expr) (p pos : Pos) (sr : MP.Env → DS → R (List D)), (x :: xs).all noStar = true → PA X (x :: xs) (TLx U X F W sr) → (∀ ρ st ds st1, sr ρ st = .ok ds st1 → ds.length = (U.xf c).length) →
    PMk X (.Call (.Name nm p) (x :: xs) [] pos) (fun σ H Q => TLx U X F W sr σ H fun vs H1 => ∀ dd, H1 dd = none → Q (.ref (U.cls c)) (some dd) (upd H1 dd (.xd ((U.xf c).zip vs))))
theorem zip_look {α : Type} : ∀ {ks : List Str} {vs : List α} {i : Nat} {k : Str} {v : α}, ks.Nodup → ks[i]? = some k → vs[i]? = some v → (ks.zip vs).lookup k = some v
  | [], _, _, _, _, _, h, _ => by simp at h
  | _ :: _, [], _, _, _, _, _, h => by simp at h
  | a :: ks, b :: vs, 0, k, v, _, h1, h2 => by
    simp at h1 h2
    subst h1 h2
    simp [List.lookup]
  | a :: ks, b :: vs, i + 1, k, v, nd, h1, h2 => by
    simp at h1 h2
    obtain ⟨n1, n2⟩ := List.nodup_cons.mp nd
    have ne : (k == a) = false := by
      rw [beq_eq_false_iff_ne]
      intro z
      subst z
      exact n1 (List.mem_of_getElem? h1)
    rw [List.zip_cons_cons, List.lookup_cons, ne]
    exact zip_look n2 h1 h2
section
variable {U : Wd} {n : Nat} {W : WX} {X : Cx} {F : List Addr}
theorem w_asg {lm : Bool} (c : SCtx U n W X lm) {t : T} {tge e : Expr} {p : Pos} {sa : MP.Env → DS → R D} (hn : noStar tge = true) (ht : cTT U.toSg X.N lm X.env.scope t tge = true) (hs : noSwp X.env.scope tge e = true) (ho : swOk X.env.scope tge e = true) (he : PE X e (TDx U X F W sa)) :
    PS X (.Assign [tge] e p) (TSx U X F W fun ρ st => (sa ρ st).to ρ fun d st1 => asgT (callN U.Pg n) t d ρ st1) :=
  ps_imp (ps_asg he (pgT c.c c.hl c.hfn t tge ht) (swOk_eq ho) (swp_none c.kd hs) (by rw [assign1 hn]; rfl)) fun D σ H ⟨ρ, st, μ, hE, hS, hP⟩ => RD.to hE hS hP fun d st1 μ1 H1 v _ x1 S1 r1 E1 P1 => by
    refine ⟨μ1, ρ, st1, d, E1, S1, r1, ?_⟩
    have key : ∀ r, (∀ d st, r ≠ RS.ret d st) → (∀ d st, r ≠ RS.brk d st) → (∀ d st, r ≠ RS.cont d st) → PostS X.K U.cls U.xf F W μ1 H1 r D → PostS X.K U.cls U.xf F W μ1 H1 r (onlyNx D.nx) := fun r a1 a2 a3 h => by
      cases r with
      | nx ρ st => exact h
      | brk ρ st => exact absurd rfl (a2 _ _)
      | cont ρ st => exact absurd rfl (a3 _ _)
      | ret d st => exact absurd rfl (a1 _ _)
      | exc c fs ρ st => exact h
      | bad => exact h
    obtain ⟨a1, a2, a3⟩ := asgT_ends (callN U.Pg n) t d ρ st1
    exact key _ a1 a2 a3 P1
theorem setAll2 {i j : Nat} {x y : D} {ρ : MP.Env} : setAll [i, j] [x, y] ρ = setV (setV ρ i (some x)) j (some y) := rfl
theorem w_par2 {lm : Bool} (c : SCtx U n W X lm) {i j : Nat} {x y : Str} {a b : Expr} {px py pt pos : Pos} {kt k2 : Nat} {pt2 : Pos} {sr : MP.Env → DS → R (List D)} (hi : X.N[i]? = some x) (hj : X.N[j]? = some y) (hij : i ≠ j) (hx : X.env.scope.names.lookup x = some .local) (hy : X.env.scope.names.lookup y = some .local)
    (hs : isSwp X.env.scope [.Name x px, .Name y py] [a, b] = true) (hn : namesS X.env.scope [.Name x px, .Name y py] = [x, y]) (hr : PA X [a, b] (TLx U X F W sr)) :
    PS X (.Assign [.Tuple [.Name x px, .Name y py] kt pt] (.Tuple [a, b] k2 pt2) pos) (TSx U X F W fun ρ st => (sr ρ st).to ρ fun xs st1 => if xs.length = [i, j].length then .nx (setAll [i, j] xs ρ) st1 else .bad) :=
  ps_imp (ps_par c.c.calm c.c.nd hi hj hij hx hy hr (by rw [swp_some c.kd hs, hn])) fun D σ H ⟨ρ, st, μ, hE, hS, hP⟩ => RD.to hE hS hP fun ds st1 μ1 H1 vs _ x1 S1 r1 E1 P1 => by
    split at P1
    · rename_i hl
      obtain ⟨d, d', rfl⟩ := len2 hl
      obtain ⟨v, v', rfl, r2, r3⟩ := relL2 r1
      exact ⟨v, v', rfl, P1 μ1 H1 _ .refl S1 ((E1.set r2).set r3)⟩
    · exact P1.elim
theorem len3 {ds : List D} (h : ds.length = 3) : ∃ a b c, ds = [a, b, c] := match ds, h with | [a, b, c], _ => ⟨a, b, c, rfl⟩
theorem relL3 {K : PySem.W.Frag} {μ : List Addr} {H : Hp} {d e f : D} {vs : List V} (r : RelL K F μ H [d, e, f] vs) : ∃ v w u, vs = [v, w, u] ∧ Rel K F μ H d v ∧ Rel K F μ H e w ∧ Rel K F μ H f u := by
  cases r with
  | cons a b => cases b with
    | cons b c => cases c with
      | cons c d => cases d; exact ⟨_, _, _, rfl, a, b, c⟩
theorem w_par3 {lm : Bool} (c : SCtx U n W X lm) {i j l : Nat} {x y z : Str} {a b e : Expr} {px py pz pt pos : Pos} {kt k2 : Nat} {pt2 : Pos} {sr : MP.Env → DS → R (List D)} (hi : X.N[i]? = some x) (hj : X.N[j]? = some y) (hl : X.N[l]? = some z) (hij : i ≠ j) (hil : i ≠ l) (hjl : j ≠ l)
    (hx : X.env.scope.names.lookup x = some .local) (hy : X.env.scope.names.lookup y = some .local) (hz : X.env.scope.names.lookup z = some .local)
    (hs : isSwp X.env.scope [.Name x px, .Name y py, .Name z pz] [a, b, e] = true) (hn : namesS X.env.scope [.Name x px, .Name y py, .Name z pz] = [x, y, z]) (hr : PA X [a, b, e] (TLx U X F W sr)) :
    PS X (.Assign [.Tuple [.Name x px, .Name y py, .Name z pz] kt pt] (.Tuple [a, b, e] k2 pt2) pos) (TSx U X F W fun ρ st => (sr ρ st).to ρ fun xs st1 => if xs.length = [i, j, l].length then .nx (setAll [i, j, l] xs ρ) st1 else .bad) :=
  ps_imp (ps_par3 c.c.calm c.c.nd hi hj hl hij hil hjl hx hy hz hr (by rw [swp_some c.kd hs, hn])) fun D σ H ⟨ρ, st, μ, hE, hS, hP⟩ => RD.to hE hS hP fun ds st1 μ1 H1 vs _ x1 S1 r1 E1 P1 => by
    split at P1
    · rename_i hl
      obtain ⟨d, d', d2, rfl⟩ := len3 hl
      obtain ⟨v, v', v2, rfl, r2, r3, r4⟩ := relL3 r1
      exact ⟨v, v', v2, rfl, P1 μ1 H1 _ .refl S1 (((E1.set r2).set r3).set r4)⟩
    · exact P1.elim
theorem w_raise {lm : Bool} (c : SCtx U n W X lm) {k : Nat} {nm : Str} {x : Expr} {xs : List Expr} {p pos rpos : Pos} {sr : MP.Env → DS → R (List D)} (hk : U.xn k = some nm) (hg : Gl X nm) (hnd : (U.xf k).Nodup) (hn : (x :: xs).all noStar = true) (hr : PA X (x :: xs) (TLx U X F W sr)) (hl : ∀ ρ st ds st1, sr ρ st = .ok ds st1 → ds.length = (U.xf k).length) :
    PS X (.Raise (some (.Call (.Name nm p) (x :: xs) [] pos)) none rpos) (TSx U X F W fun ρ st => (sr ρ st).to ρ fun xs st1 => .exc k xs ρ st1) :=
  ps_imp (ps_raise c.c.calm c.c.tk (c.mkx k nm hk hg F x xs p pos sr hn hr hl)) fun D σ H ⟨ρ, st, μ, hE, hS, hP⟩ => RD.to hE hS hP fun ds st1 μ1 H1 vs eq x1 S1 r1 E1 P1 => fun dd hdd => by
    have e1 : Ext μ1 μ1 H1 (upd H1 dd (.xd ((U.xf k).zip vs))) := ext_new hdd
    refine P1 μ1 _ σ dd _ e1 (S1.new hdd) (E1.mono e1) upd_same fun i f d h1 h2 => ?_
    obtain ⟨v, h3, h4⟩ := RelL.get r1 h2
    refine ⟨v, ?_, h4.up e1⟩
    exact zip_look hnd h1 h3
end
end MP

set_option Elab.async false
set_option linter.all false
set_option maxRecDepth 100000
set_option maxHeartbeats 8000000
namespace MP
open PySem L2 PyProof.Rows
def posN : Expr → Option Pos | .Name _ p => some p | _ => none
def posLC : Expr → Option (Pos × Scope) | .ListComp _ _ s p => some (p, s) | _ => none
section
variable {U : Wd} {n : Nat} {W : WX} {X : Cx} {F : List Addr}
theorem w_slc {lm : Bool} (c : SCtx U n W X lm) {i : Nat} {y : Str} {py : Pos} {m : Bool} {tg : TN} {own : List Nat} {elt tge iter : Expr} {ifs : List Expr} {scope : Scope} {pos spos : Pos} {si : MP.Env → DS → R (List D)} {sc : MP.Env → DS → R Bool} {se : MP.Env → DS → R D}
    (hy : X.N[i]? = some y) (hyl : X.env.scope.names.lookup y = some .local) (hln : (py.line == pos.line) = true) (hno : (scope.names.any fun (n, k) => n == y && (k == .local || k == .cell)) = false)
    (hown : (tnS tg).all (fun j => decide (j ∈ own)) = true) (hb : blkC X.N X.env.scope scope (ownN X.N own) = true) (hns : notSet iter = true) (htg : cTN X.N (relS scope X.env.scope) (fun x => scope.names.lookup x == some .cell) tg tge = true)
    (hi : PI X tge iter (ITx U X F W si)) (ht : ∀ (Y : Cx) (s : Shared) (H : Hp) (C : Addr) (cl : List (Str × Addr)) (fp : List Addr), Y = X.blk s H scope (compEnvC scope cl C X.env) fp → PTs Y ifs (anyB U X sc))
    (he : ∀ (Y : Cx) (s : Shared) (H : Hp) (C : Addr) (cl : List (Str × Addr)) (fp : List Addr), Y = X.blk s H scope (compEnvC scope cl C X.env) fp → PE Y elt (anyD U X se)) :
    PS X (.Assign [.Name y py] (.ListComp elt [⟨tge, iter, ifs, 0⟩] scope pos) spos) (TSx U X F W fun ρ st => (lcS m tg own si sc se ρ st).to ρ fun d st1 => .nx (setV ρ i (some d)) st1) := by
  have hown' : ∀ j ∈ tnS tg, j ∈ own := fun j hj => by simpa using List.all_eq_true.mp hown j hj
  refine ps_imp (ps_setLc (wi := ITx U X F W si) (g := gTN X.K tg) (tt := anyB U X sc) (te := anyD U X se) c.c.calm c.c.nd hy hyl (sw_true c.kd hyl hln hno) hi (blkOk_by hb) (fun s H C cl fp => pgTN (X := X.blk s H scope (compEnvC scope cl C X.env) fp) c.c.calm c.c.nd tg tge htg) (fun s H C cl fp => ht _ s H C cl fp rfl) (fun s H C cl fp => he _ s H C cl fp rfl) (notSet_eq hns)) fun D σ H ⟨ρ, st, μ, hE, hS, hP⟩ => ?_
  rw [ownN_snd]
  refine lc_imp (m := m) (F := F) (W := W) hown' (Q := fun x H1 => gName i x σ H1 D.nx) ⟨ρ, st, μ, hE, hS, ?_⟩
  have hP : PostS X.K U.cls U.xf F W μ H ((lcS m tg own si sc se ρ st).to ρ fun d st1 => .nx (setV ρ i (some d)) st1) D := hP
  cases e : lcS m tg own si sc se ρ st with
  | ok a st1 =>
    rw [e] at hP
    exact fun μ1 H1 v x s r => hP μ1 H1 _ x s ((hE.mono x).set r)
  | exc k fs st1 =>
    rw [e] at hP
    exact fun μ1 H1 dd l x s hd hx => hP μ1 H1 σ dd l x s (hE.mono x) hd hx
  | bad => rw [e] at hP; exact hP.elim
end
/-! ### the checker of statements -/
section
variable (U : Sg) (N : List Str)
def cPar (sc : Scope) (is : List Nat) (ts vs : List Expr) : Bool := match is, ts with
  | [i, j], [.Name x _, .Name y _] => decide (N[i]? = some x) && decide (N[j]? = some y) && decide (i ≠ j) && decide (sc.names.lookup x = some .local) && decide (sc.names.lookup y = some .local) && decide (namesS sc ts = [x, y]) && isSwp sc ts vs
  | [i, j, l], [.Name x _, .Name y _, .Name z _] => decide (N[i]? = some x) && decide (N[j]? = some y) && decide (N[l]? = some z) && decide (i ≠ j) && decide (i ≠ l) && decide (j ≠ l) && decide (sc.names.lookup x = some .local) && decide (sc.names.lookup y = some .local) && decide (sc.names.lookup z = some .local) &&
      decide (namesS sc ts = [x, y, z]) && isSwp sc ts vs
  | _, _ => false
mutual
def cS (lm : Bool) (sc : Scope) : S → Stmt → Bool
  | .expr e, s => match asExprS s with | some v => notComp v && cE U N lm sc e v | none => false
  | .ret e, s => match asRet s with | some (some v) => cE U N lm sc e v | _ => false
  | .retN, s => match asRet s with | some none => true | _ => false
  | .asg t e, s => match asAssign s with | some (tg, v, _) => noStar tg && cTT U N lm sc t tg && noSwp sc tg v && swOk sc tg v && cE U N lm sc e v | none => false
  | .par is es, s => match asAssign s with
    | some (tg, v, _) => (match asTup tg, asTup v with | some ts, some vs => cPar N sc is ts vs && vs.all noStar && cL U N lm sc es vs | _, _ => false)
    | none => false
  | .slc i e, s => match asAssign s with
    | some (tg, v, _) => (match asName tg, posN tg, posLC v with
      | some y, some py, some (pos, scope) => decide (N[i]? = some y) && decide (sc.names.lookup y = some .local) && (py.line == pos.line) && !(scope.names.any fun (n, k) => n == y && (k == .local || k == .cell)) && cE U N lm sc e v && (match e with | .lc _ _ _ _ _ _ _ => true | _ => false)
      | _, _, _ => false)
    | none => false
  | .aug i op e, s => match asAug s with | some (tg, o, v) => (match asName tg with | some x => decide (N[i]? = some x) && locB sc x && opB op o && (match op with | .add => true | .sub => true | _ => false) && cE U N lm sc e v | none => false) | none => false
  | .ife c a b, s => match asIfS s with | some (x, p, q) => cT U N lm sc c x && cSs lm sc a p && cSs lm sc b q | none => false
  | .whl c b, s => match asWhile s with | some (x, p) => cT U N lm sc c x && cSs lm sc b p | none => false
  | .forr tg ik src b, s => match asFor s with
    | some (tge, iter, p) => (match asIter sc ik tge iter with
      | some xs => cTN N sc (fun _ => true) tg tge && notSet iter && cL U N lm sc src xs && cSs lm sc b p
      | none => false)
    | none => false
  | .pass, s => isPass s
  | .brk, s => isBrk s
  | .cont, s => isCont s
  | .raise k es, s => match asRaise s with
    | some v => (match asCall v with
      | some (g, x :: xs, [], _) => (match asName g, U.xn k with
        | some nm, some nm' => decide (nm = nm') && glB sc nm && decide ((U.xf k).Nodup) && (x :: xs).all noStar && decide (es.length = (U.xf k).length) && cL U N lm sc es (x :: xs)
        | _, _ => false)
      | _ => false)
    | none => false
  | .bad, _ => true
def cSs (lm : Bool) (sc : Scope) : List S → List Stmt → Bool
  | [], [] => true
  | s :: r, x :: xs => cS lm sc s x && cSs lm sc r xs
  | _, _ => false
end
end
section
variable {U : Wd} {n : Nat} {W : WX} {X : Cx} {F : List Addr}
theorem ps_cong {s : Stmt} {a b : MP.Env → DS → RS} (h : ∀ ρ st, a ρ st = b ρ st) (p : PS X s (TSx U X F W b)) : PS X s (TSx U X F W a) := by
  have z : a = b := funext fun ρ => funext fun st => h ρ st
  rw [z]; exact p
theorem pss_cong {s : List Stmt} {a b : MP.Env → DS → RS} (h : ∀ ρ st, a ρ st = b ρ st) (p : PSs X s (TSx U X F W b)) : PSs X s (TSx U X F W a) := by
  have z : a = b := funext fun ρ => funext fun st => h ρ st
  rw [z]; exact p
theorem isPass_eq {s : Stmt} (h : isPass s = true) : PS X s (TSx U X F W fun ρ st => .nx ρ st) := by
  unfold isPass at h
  split at h
  · exact w_pass
  · exact w_doc
  · cases h
theorem isBrk_eq {s : Stmt} (h : isBrk s = true) : PS X s (TSx U X F W fun ρ st => .brk ρ st) := by
  unfold isBrk at h
  split at h
  · exact w_brk
  · cases h
theorem isCont_eq {s : Stmt} (h : isCont s = true) : PS X s (TSx U X F W fun ρ st => .cont ρ st) := by
  unfold isCont at h
  split at h
  · exact w_cont
  · cases h
theorem for_eq {C : Nat → List D → DS → R D} {tg : TN} {ik : IK} {src : List E} {b : List S} {ρ : MP.Env} {st : DS} :
    exec C (.forr tg ik src b) ρ st = ((evalL C src ρ st).bind fun xs st1 => R.of (itD ik st1 xs) st1).to ρ fun items st1 => forL (fun x ρ' st' => match tnD tg x ρ' with | some ρ2 => execs C b ρ2 st' | none => .bad) items ρ st1 := by
  rw [exec]
  cases evalL C src ρ st with
  | ok xs st1 =>
    simp only [R.bind, R.to]
    cases itD ik st1 xs with
    | none => rfl
    | some items => rfl
  | exc a b c => rfl
  | bad => rfl
theorem sS_slc {lm : Bool} (c : SCtx U n W X lm) {i : Nat} {m : Bool} {elt : E} {tg : TN} {ik : IK} {src ifs : List E} {own : List Nat} {s : Stmt} (h : cS U.toSg X.N lm X.env.scope (.slc i (.lc m elt tg ik src ifs own)) s = true) : PS X s (TSx U X F W (exec (callN U.Pg n) (.slc i (.lc m elt tg ik src ifs own)))) := by
  simp only [cS] at h
  split at h
  · rename_i tge v p hs
    obtain rfl := asAssign_eq hs
    split at h
    · rename_i y py pos scope h1 h2 h3
      obtain ⟨p', rfl⟩ := asName_eq h1
      cases h2
      cases v <;> first | (cases h3; done) | skip
      cases h3
      simp only [Bool.and_eq_true, decide_eq_true_eq, Bool.not_eq_true', Bool.and_true] at h
      obtain ⟨⟨⟨⟨a1, a2⟩, a3⟩, a4⟩, a5⟩ := h
      simp only [cE] at a5
      split at a5
      · rename_i pelt gs scope2 hx
        cases hx
        split at a5
        · rename_i tge iter pifs hg
          obtain rfl := asGen_eq hg
          split at a5
          · rename_i xs hi
            simp only [Bool.and_eq_true] at a5
            obtain ⟨⟨⟨⟨⟨⟨h1, h2⟩, h3⟩, h4⟩, h5⟩, h6⟩, h7⟩ := a5
            have hr : PA X xs (TLx U X F W (evalL (callN U.Pg n) src)) := sL src F c.c c.hl xs (asIter_star hi) h5
            refine ps_cong (fun ρ st => by rw [exec]; rw [lc_eq]) (w_slc c a1 a2 a3 a4 h1 h2 h3 h4 (k_iter c.c hi (cL_len h5) hr (sE1 src F c.c c.hl xs h5)) (fun Y s H C cl fp hY => by subst hY; exact sI ifs (lm := false) c.c.inBlk (fun z => nomatch z) pifs h7) fun Y s H C cl fp hY => ?_)
            subst hY
            exact pe_any fun F' => sE elt F' (X := X.blk s H _ (compEnvC _ cl C X.env) fp) (lm := false) c.c.inBlk (fun z => nomatch z) _ h6
          · cases a5
        · cases a5
      · cases a5
    · cases h
  · cases h
theorem sS_par {lm : Bool} (c : SCtx U n W X lm) {is : List Nat} {es : List E} {s : Stmt} (h : cS U.toSg X.N lm X.env.scope (.par is es) s = true) : PS X s (TSx U X F W (exec (callN U.Pg n) (.par is es))) := by
  simp only [cS] at h
  split at h
  · rename_i tge v p hs
    obtain rfl := asAssign_eq hs
    split at h
    · rename_i ts vs h1 h2
      obtain ⟨k, p', rfl⟩ := asTup_eq h1
      obtain ⟨k2, p2, rfl⟩ := asTup_eq h2
      simp only [Bool.and_eq_true] at h
      obtain ⟨⟨h3, h4⟩, h5⟩ := h
      have hr : PA X vs (TLx U X F W (evalL (callN U.Pg n) es)) := sL es F c.c c.hl vs h4 h5
      unfold cPar at h3
      split at h3
      · rename_i i j x px y py
        simp only [Bool.and_eq_true, decide_eq_true_eq] at h3
        obtain ⟨⟨⟨⟨⟨⟨a1, a2⟩, a3⟩, a4⟩, a5⟩, a6⟩, a7⟩ := h3
        have hv : vs.length = 2 := by
          have z := a7
          unfold isSwp at z
          simp only [Bool.and_eq_true] at z
          simpa using z.1.1.1.1.2
        obtain ⟨a, b, rfl⟩ : ∃ a b, vs = [a, b] := match vs, hv with | [a, b], _ => ⟨a, b, rfl⟩
        exact ps_cong (fun ρ st => by rw [exec]) (w_par2 c a1 a2 a3 a4 a5 a7 a6 hr)
      · rename_i i j l x px y py z pz
        simp only [Bool.and_eq_true, decide_eq_true_eq] at h3
        obtain ⟨⟨⟨⟨⟨⟨⟨⟨⟨⟨a1, a2⟩, a3⟩, a4⟩, a5⟩, a6⟩, a7⟩, a8⟩, a9⟩, a10⟩, a11⟩ := h3
        have hv : vs.length = 3 := by
          have z := a11
          unfold isSwp at z
          simp only [Bool.and_eq_true] at z
          simpa using z.1.1.1.1.2
        obtain ⟨a, b, e, rfl⟩ : ∃ a b e, vs = [a, b, e] := match vs, hv with | [a, b, e], _ => ⟨a, b, e, rfl⟩
        exact ps_cong (fun ρ st => by rw [exec]) (w_par3 c a1 a2 a3 a4 a5 a6 a7 a8 a9 a11 a10 hr)
      · cases h3
    · cases h
  · cases h
mutual
theorem sS {lm : Bool} (c : SCtx U n W X lm) : ∀ (e : S) (s : Stmt), cS U.toSg X.N lm X.env.scope e s = true → PS X s (TSx U X F W (exec (callN U.Pg n) e))
  | .expr e, s, h => by
    simp only [cS] at h
    split at h
    · rename_i v hs
      obtain ⟨p, rfl⟩ := asExprS_eq hs
      simp only [Bool.and_eq_true] at h
      exact ps_cong (fun ρ st => by rw [exec]) (w_expr h.1 (sE e F c.c c.hl v h.2))
    · cases h
  | .ret e, s, h => by
    simp only [cS] at h
    split at h
    · rename_i v hs
      obtain ⟨p, rfl⟩ := asRet_eq hs
      exact ps_cong (fun ρ st => by rw [exec]) (w_ret (sE e F c.c c.hl v h))
    · cases h
  | .retN, s, h => by
    simp only [cS] at h
    split at h
    · rename_i hs
      obtain ⟨p, rfl⟩ := asRet_eq hs
      exact ps_cong (fun ρ st => by rw [exec]) w_retN
    · cases h
  | .asg t e, s, h => by
    simp only [cS] at h
    split at h
    · rename_i tg v p hs
      obtain rfl := asAssign_eq hs
      simp only [Bool.and_eq_true] at h
      obtain ⟨⟨⟨⟨h1, h2⟩, h3⟩, h4⟩, h5⟩ := h
      exact ps_cong (fun ρ st => by rw [exec]) (w_asg c h1 h2 h3 h4 (sE e F c.c c.hl v h5))
    · cases h
  | .par is es, s, h => sS_par c h
  | .slc i e, s, h => by
    cases e with
    | lc m elt tg ik src ifs own => exact sS_slc c h
    | _ =>
      simp only [cS] at h
      split at h
      · split at h
        · simp at h
        · cases h
      · cases h
  | .aug i op e, s, h => by
    simp only [cS] at h
    split at h
    · rename_i tg o v hs
      obtain ⟨p, rfl⟩ := asAug_eq hs
      split at h
      · rename_i x hx
        obtain ⟨p', rfl⟩ := asName_eq hx
        simp only [Bool.and_eq_true, decide_eq_true_eq] at h
        obtain ⟨⟨⟨⟨h1, h2⟩, h3⟩, h4⟩, h5⟩ := h
        obtain rfl := opB_eq h3
        have hop : op = .add ∨ op = .sub := by
          cases op <;> first | exact .inl rfl | exact .inr rfl | cases h4
        exact ps_cong (fun ρ st => by rw [exec] <;> rfl) (w_aug hop c.c.nd h1 (locB_eq h2) (c.hfn x) (sE e F c.c c.hl v h5))
      · cases h
    · cases h
  | .ife e a b, s, h => by
    simp only [cS] at h
    split at h
    · rename_i x p q hs
      obtain ⟨pos, rfl⟩ := asIfS_eq hs
      simp only [Bool.and_eq_true] at h
      exact ps_cong (fun ρ st => by rw [exec]) (w_ife (sT e F c.c c.hl x h.1.1) (sSs c a p h.1.2) (sSs c b q h.2))
    · cases h
  | .whl e b, s, h => by
    simp only [cS] at h
    split at h
    · rename_i x p hs
      obtain ⟨pos, rfl⟩ := asWhile_eq hs
      simp only [Bool.and_eq_true] at h
      exact ps_cong (fun ρ st => by rw [exec]) (w_while (m := fuel) c.ps (sT e F c.c c.hl x h.1) (sSs c b p h.2))
    · cases h
  | .forr tg ik src b, s, h => by
    simp only [cS] at h
    split at h
    · rename_i tge iter p hs
      obtain ⟨pos, rfl⟩ := asFor_eq hs
      split at h
      · rename_i xs hi
        simp only [Bool.and_eq_true] at h
        obtain ⟨⟨⟨h1, h2⟩, h3⟩, h4⟩ := h
        have hr : PA X xs (TLx U X F W (evalL (callN U.Pg n) src)) := sL src F c.c c.hl xs (asIter_star hi) h3
        have hfn : X.fn = fun _ => true := funext c.hfn
        exact ps_cong (fun ρ st => for_eq) (w_for c.ps c.c.calm h2 (k_iter c.c hi (cL_len h3) hr (sE1 src F c.c c.hl xs h3)) (pgTN c.c.calm c.c.nd tg tge (by rw [hfn]; exact h1)) (sSs c b p h4))
      · cases h
    · cases h
  | .pass, s, h => by
    simp only [cS] at h
    exact ps_cong (fun ρ st => by rw [exec]) (isPass_eq h)
  | .brk, s, h => by
    simp only [cS] at h
    exact ps_cong (fun ρ st => by rw [exec]) (isBrk_eq h)
  | .cont, s, h => by
    simp only [cS] at h
    exact ps_cong (fun ρ st => by rw [exec]) (isCont_eq h)
  | .raise k es, s, h => by
    simp only [cS] at h
    split at h
    · rename_i v hs
      obtain ⟨pos, rfl⟩ := asRaise_eq hs
      split at h
      · rename_i g x xs p hx
        obtain rfl := asCall_eq hx
        split at h
        · rename_i nm nm' hnm hk
          obtain ⟨p2, rfl⟩ := asName_eq hnm
          simp only [Bool.and_eq_true, decide_eq_true_eq] at h
          obtain ⟨⟨⟨⟨⟨h1, h2⟩, h3⟩, h4⟩, h5⟩, h6⟩ := h
          subst h1
          exact ps_cong (fun ρ st => by rw [exec]) (w_raise c hk (glB_eq h2) h3 (by simpa using h4) (sL es F c.c c.hl _ (by simpa using h4) h6) fun ρ st ds st1 e => by rw [evalL_len _ es ρ st ds st1 e, h5])
        · cases h
      · cases h
    · cases h
  | .bad, s, h => ps_cong (fun ρ st => by rw [exec]) w_bad
theorem sSs {lm : Bool} (c : SCtx U n W X lm) : ∀ (e : List S) (s : List Stmt), cSs U.toSg X.N lm X.env.scope e s = true → PSs X s (TSx U X F W (execs (callN U.Pg n) e))
  | [], [], h => pss_cong (fun ρ st => by rw [execs]) w_nil
  | e :: r, x :: xs, h => by
    simp only [cSs, Bool.and_eq_true] at h
    exact pss_cong (fun ρ st => by rw [execs] <;> rfl) (w_cons (sS c e x h.1) (sSs c r xs h.2))
  | [], _ :: _, h => by simp [cSs] at h
  | _ :: _, [], h => by simp [cSs] at h
end
end
end MP

set_option Elab.async false
set_option linter.all false
set_option maxRecDepth 100000
set_option maxHeartbeats 4000000
namespace MP
open PySem L2 PyProof.Rows
/-! ### a def that is given no objects -/
section
variable {K : PySem.W.Frag} {F μ μ1 : List Addr} {H H1 : Hp}
mutual
theorem Rel.isoIn : ∀ (d : D) (v : V), noRef d = true → Rel K F μ H d v → Rel K (F ++ μ) [] H d v
  | .non, _, _, h => by cases h; exact .non
  | .bl _, _, _, h => by cases h; exact .bl _
  | .int _, _, _, h => by cases h; exact .int _
  | .str _, _, _, h => by cases h; exact .str _
  | .tup ds, _, n, h => by
    cases h with
    | tup h1 h2 h3 => exact .tup h1 (by simp) (RelL.isoIn ds _ (by simpa only [noRef] using n) h3)
    | tupK h1 h3 => exact .tupK h1 (RelL.isoIn ds _ (by simpa only [noRef] using n) h3)
  | .lst ds, _, n, h => by
    cases h with
    | lst h1 h2 h4 h3 => exact .lst h1 (by simp) (fun z => (List.mem_append.mp z).elim h4 h2) (RelL.isoIn ds _ (by simpa only [noRef] using n) h3)
  | .scr ds, _, n, h => by
    cases h with
    | scr h1 h2 h3 => exact .scr h1 (by simp) (RelL.isoIn ds _ (by simpa only [noRef] using n) h3)
    | scrK h1 h3 => exact .scrK h1 (RelL.isoIn ds _ (by simpa only [noRef] using n) h3)
  | .dic kvs, _, n, h => by
    cases h with
    | dic h1 h2 h4 h3 => exact .dic h1 (by simp) (fun z => (List.mem_append.mp z).elim h4 h2) (RelP.isoIn kvs _ (by simpa only [noRef] using n) h3)
  | .ref _, _, n, h => by simp [noRef] at n
theorem RelL.isoIn : ∀ (ds : List D) (vs : List V), noRefL ds = true → RelL K F μ H ds vs → RelL K (F ++ μ) [] H ds vs
  | [], _, _, h => by cases h; exact .nil
  | d :: ds, _, n, h => by
    simp only [noRefL, Bool.and_eq_true] at n
    cases h with
    | cons h1 h2 => exact .cons (Rel.isoIn d _ n.1 h1) (RelL.isoIn ds _ n.2 h2)
theorem RelP.isoIn : ∀ (ds : List (D × D)) (vs : List (Key × V)), noRefP ds = true → RelP K F μ H ds vs → RelP K (F ++ μ) [] H ds vs
  | [], _, _, h => by cases h; exact .nil
  | (k, d) :: ds, _, n, h => by
    simp only [noRefP, Bool.and_eq_true] at n
    cases h with
    | cons h0 h1 h2 => exact .cons h0 (Rel.isoIn d _ n.1.2 h1) (RelP.isoIn ds _ n.2 h2)
end
/-- what is in μ is a list, a dict, an instance -/
def MuOk (μ : List Addr) (H : Hp) : Prop := ∀ a ∈ μ, (∃ l, H a = some (.lst l)) ∨ (∃ l, H a = some (.dK l)) ∨ ∃ C d l, H a = some (.ins C d l)
mutual
theorem Rel.isoOut (m : MuOk μ H1) : ∀ (d : D) (v : V), noRef d = true → Rel K (F ++ μ) μ1 H1 d v → Rel K F μ H1 d v
  | .non, _, _, h => by cases h; exact .non
  | .bl _, _, _, h => by cases h; exact .bl _
  | .int _, _, _, h => by cases h; exact .int _
  | .str _, _, _, h => by cases h; exact .str _
  | .tup ds, _, n, h => by
    cases h with
    | tup h1 h2 h3 =>
      refine .tup h1 (fun z => ?_) (RelL.isoOut m ds _ (by simpa only [noRef] using n) h3)
      rcases m _ z with ⟨l, e⟩ | ⟨l, e⟩ | ⟨C, d, l, e⟩ <;> (rw [h1] at e; cases e)
    | tupK h1 h3 => exact .tupK h1 (RelL.isoOut m ds _ (by simpa only [noRef] using n) h3)
  | .lst ds, _, n, h => by
    cases h with
    | lst h1 h2 h4 h3 => exact .lst h1 (fun z => h4 (List.mem_append_right _ z)) (fun z => h4 (List.mem_append_left _ z)) (RelL.isoOut m ds _ (by simpa only [noRef] using n) h3)
  | .scr ds, _, n, h => by
    cases h with
    | scr h1 h2 h3 =>
      refine .scr h1 (fun z => ?_) (RelL.isoOut m ds _ (by simpa only [noRef] using n) h3)
      rcases m _ z with ⟨l, e⟩ | ⟨l, e⟩ | ⟨C, d, l, e⟩ <;> (rw [h1] at e; cases e)
    | scrK h1 h3 => exact .scrK h1 (RelL.isoOut m ds _ (by simpa only [noRef] using n) h3)
  | .dic kvs, _, n, h => by
    cases h with
    | dic h1 h2 h4 h3 => exact .dic h1 (fun z => h4 (List.mem_append_right _ z)) (fun z => h4 (List.mem_append_left _ z)) (RelP.isoOut m kvs _ (by simpa only [noRef] using n) h3)
  | .ref _, _, n, h => by simp [noRef] at n
theorem RelL.isoOut (m : MuOk μ H1) : ∀ (ds : List D) (vs : List V), noRefL ds = true → RelL K (F ++ μ) μ1 H1 ds vs → RelL K F μ H1 ds vs
  | [], _, _, h => by cases h; exact .nil
  | d :: ds, _, n, h => by
    simp only [noRefL, Bool.and_eq_true] at n
    cases h with
    | cons h1 h2 => exact .cons (Rel.isoOut m d _ n.1 h1) (RelL.isoOut m ds _ n.2 h2)
theorem RelP.isoOut (m : MuOk μ H1) : ∀ (ds : List (D × D)) (vs : List (Key × V)), noRefP ds = true → RelP K (F ++ μ) μ1 H1 ds vs → RelP K F μ H1 ds vs
  | [], _, _, h => by cases h; exact .nil
  | (k, d) :: ds, _, n, h => by
    simp only [noRefP, Bool.and_eq_true] at n
    cases h with
    | cons h0 h1 h2 => exact .cons h0 (Rel.isoOut m d _ n.1.2 h1) (RelP.isoOut m ds _ n.2 h2)
end
end
theorem noRefL_get : ∀ {ds : List D} {i : Nat} {d : D}, noRefL ds = true → ds[i]? = some d → noRef d = true
  | [], _, _, _, h => by simp at h
  | a :: ds, 0, d, n, h => by
    simp only [noRefL, Bool.and_eq_true] at n
    simp at h; subst h; exact n.1
  | a :: ds, i + 1, d, n, h => by
    simp only [noRefL, Bool.and_eq_true] at n
    exact noRefL_get (i := i) n.2 (by simpa using h)
section
variable {K : PySem.W.Frag} {cls : Cl} {xf : Nat → List Str} {F μ : List Addr} {H : Hp} {st : DS}
theorem StRel.muOk (S : StRel K cls F μ H st) : MuOk μ H := fun a ha => by
  obtain ⟨n, hn, e⟩ := List.getElem_of_mem ha
  obtain ⟨ob, _, r⟩ := S.obj n a (by rw [List.getElem?_eq_getElem hn, e])
  cases ob with
  | lst ds => obtain ⟨vs, p, q⟩ := r; exact .inl ⟨vs, p⟩
  | dic ds => obtain ⟨vs, p, q⟩ := r; exact .inr (.inl ⟨vs, p⟩)
  | ins c fs => obtain ⟨dx, vs, p, q⟩ := r; exact .inr (.inr ⟨_, dx, vs, p⟩)
theorem StRel.iso (S : StRel K cls F μ H st) : StRel K cls (F ++ μ) [] H [] :=
  ⟨rfl, List.nodup_nil, fun n a h => by simp at h, fun a h => by simp at h, fun a h => (List.mem_append.mp h).elim (S.fl a) S.ne, S.tb⟩
/-- back from a def that was given no objects -/
theorem iso_back (S : StRel K cls F μ H st) {μ1 : List Addr} {H1 : Hp} {st1 : DS} (e : Ext [] μ1 H H1) (S1 : StRel K cls (F ++ μ) μ1 H1 st1) : Ext μ μ H H1 ∧ StRel K cls F μ H1 st ∧ MuOk μ H1 := by
  have eq : ∀ a ∈ μ, H1 a = H a := fun a ha => by
    cases q : H a with
    | none => exact absurd q (S.ne ha)
    | some o => exact e.keep a o q (by simp) fun ps z => S.notTab ha o q (.inl ⟨ps, z⟩)
  have x : Ext μ μ H H1 := ⟨⟨[], by simp, fun _ z => nomatch z⟩, fun p o h hn nt => e.keep p o h (by simp) nt, e.live⟩
  refine ⟨x, S.keep x eq S1.tb, fun a ha => ?_⟩
  rw [eq a ha]
  exact S.muOk a ha
theorem isoF_ok {W : WX} {σ : L2.St} {Q : VK} {f : FDef} {g : List D → DS → R D} {ds : List D} {vs : List V} (S : StRel K cls F μ H st) (r : RelL K F μ H ds vs) (h : Post K cls xf F (rlD K F) W σ μ H (isoF f g ds st) Q) :
    ∃ F' μ' st', StRel K cls F' μ' H st' ∧ RelL K F' μ' H ds vs ∧ Post K cls xf F' (rlD K F') W σ μ' H (g ds st') Q := by
  unfold isoF at h
  split at h
  · split at h
    · rename_i hn
      refine ⟨F ++ μ, [], [], S.iso, RelL.isoIn ds vs hn r, ?_⟩
      cases e : g ds [] with
      | ok d st1 =>
        rw [e] at h
        dsimp only at h
        split at h
        · rename_i hd
          intro μ1 H1 v x1 S1 r1
          obtain ⟨x, S2, m⟩ := iso_back S x1 S1
          exact h μ H1 v x S2 (Rel.isoOut m d v hd r1)
        · exact h.elim
      | exc c fs st1 =>
        rw [e] at h
        dsimp only at h
        split at h
        · rename_i hd
          intro μ1 H1 dd l x1 S1 hx hr
          obtain ⟨x, S2, m⟩ := iso_back S x1 S1
          refine h μ H1 dd l x S2 hx fun i f d h1 h2 => ?_
          obtain ⟨v, h3, h4⟩ := hr i f d h1 h2
          exact ⟨v, h3, Rel.isoOut m d v (noRefL_get hd h2) h4⟩
        · exact h.elim
      | bad => rw [e] at h; exact h.elim
    · exact h.elim
  · exact ⟨F, μ, st, S, r, h⟩
end
/-! ### a def's body -/
section
variable {U : Wd} {n : Nat} {X : Cx} {F : List Addr}
theorem getV_map : ∀ {ds : List D} {k : Nat} {i : Nat} {d : D}, getV (ds.map some ++ List.replicate k none) i = some d → ds[i]? = some d
  | [], 0, i, d, h => by simp [getV] at h
  | [], k + 1, 0, d, h => by simp [getV, List.replicate] at h
  | [], k + 1, i + 1, d, h => by
    have h' : getV (([] : List D).map some ++ List.replicate k none) i = some d := by simpa [getV, List.replicate] using h
    have := getV_map h'
    simpa using this
  | a :: ds, k, 0, d, h => by
    have h' : (some a : Option D) = some d := h
    simpa using h'
  | a :: ds, k, i + 1, d, h => by
    have h' : getV (ds.map some ++ List.replicate k none) i = some d := h
    simpa using getV_map h'
theorem env_start {K : PySem.W.Frag} {F μ : List Addr} {H : Hp} {N : List Str} {ds : List D} {vs : List V} (r : RelL K F μ H ds vs) : EnvRel K F μ H (ds.map some ++ List.replicate (N.length - ds.length) none) (L2.start N vs) := by
  refine ⟨?_, fun i d h => ?_⟩
  · unfold L2.start
    simp [r.length]
  · have h1 := getV_map h
    obtain ⟨v, h2, h3⟩ := r.get h1
    refine ⟨v, ?_, h3⟩
    unfold L2.start
    have hl : i < vs.length := (List.getElem?_eq_some_iff.mp h2).1
    rw [List.getElem?_append_left (by simpa using hl), List.getElem?_map, h2]
    rfl
/-- the end of a body -/
theorem end_ok {K : PySem.W.Frag} {cls : Cl} {xf : Nat → List Str} {E : XK} {μ : List Addr} {H : Hp} {σ : L2.St} {Q : VK} {r : RS} (h : Post K cls xf F (rlD K F) (fun c d _ H' => E c d H') σ μ H r.end Q) : PostS K cls xf F (fun c d _ H' => E c d H') μ H r { nx := fun _ H' => Q .non H', rt := Q } := by
  cases r with
  | nx ρ st => exact fun μ' H' σ' x S e => h μ' H' .non x S .non
  | ret d st => exact h
  | brk ρ st => exact h.elim
  | cont ρ st => exact h.elim
  | exc c fs ρ st => exact fun μ' H' σ' dd l x S e => h μ' H' dd l x S
  | bad => exact h.elim
end
/-- what the classes of errors must have, at every place -/
def MkX (U : Wd) (n : Nat) (P : Program) (w : World) (K : PySem.W.Frag) (mg : Str → Option Value) (base : Heap) : Prop := ∀ (W : WX) (X : Cx), X.K = K → X.mg = mg → X.prog = P → X.w = w → X.base = base → Ctx U n W X → ∀ (c : Nat) (nm : Str), U.xn c = some nm → Gl X nm → ∀ (F : List Addr) (x : Expr) (xs : List Expr) (p pos : Pos) (sr : MP.Env → DS → R (List D)), (x :: xs).all noStar = true → PA X (x :: xs) (TLx U X F W sr) → (∀ ρ st ds st1, sr ρ st = .ok ds st1 → ds.length = (U.xf c).length) →
    PMk X (.Call (.Name nm p) (x :: xs) [] pos) (fun σ H Q => TLx U X F W sr σ H fun vs H1 => ∀ dd, H1 dd = none → Q (.ref (U.cls c)) (some dd) (upd H1 dd (.xd ((U.xf c).zip vs))))
/-- a def as the program has it -/
structure DefOk (U : Wd) (K : PySem.W.Frag) (f : Nat) (fd : FDef) (x qual : Str) (st : Stmt) : Prop where
  fn : Fun K x qual st (U.fa f) (U.fdat f)
  sc : FnScope fd.N (U.ps f) (defScope st)
  chk : cSs U.toSg fd.N fd.lam (defScope st) fd.body (defBody st) = true
  np : (U.ps f).length = fd.np
  bd : Binds K (U.fdat f) (U.ps f) []
theorem FnG.mono {P : Program} {w : World} {K : PySem.W.Frag} {mg : Str → Option Value} {base : Heap} {j k : Nat} {f : Addr} {fd : FuncData} {ps : List Str} {sp : Sp} (G : FnG P w K mg base j f fd ps sp) (h : j ≤ k) : FnG P w K mg base k f fd ps sp :=
  ⟨G.len, fun A out s H args us vs Q E hr => G.run A out s H args us vs Q E (hr.mono h)⟩
/-- what a def that makes lambdas must have -/
def LamD (U : Wd) (n : Nat) (P : Program) (w : World) (K : PySem.W.Frag) (mg : Str → Option Value) (base : Heap) (f : Nat) (fd : FDef) (qual : Str) (st : Stmt) : Prop :=
  ∀ (cdv : Value) (A : Around) (out : List PySem.Env) (s : Shared) (H : Hp) (E : XK) (X : Cx), X = cxOf (L2.CX P w) P w K mg base fd.N qual (defScope st) (U.fa f) cdv A out s H E → (U.fdat f).code = cdv → Room (3 * n + 5) X.A → fd.lam = true → LamT U n X
theorem def_step {U : Wd} {n : Nat} {P : Program} {w : World} {K : PySem.W.Frag} {mg : Str → Option Value} {base : Heap} (fns : Fns U P w K mg base n) (gls : Gls U K mg) (mk : MkX U n P w K mg base) {f : Nat} {fd : FDef} {x qual : Str} {st : Stmt}
    (lam : LamD U n P w K mg base f fd qual st) (hf : U.Pg f = some fd) (D : DefOk U K f fd x qual st) : FnG P w K mg base (3 * (n + 1) + 3) (U.fa f) (U.fdat f) (U.ps f) (prom K U (callN U.Pg (n + 1)) f) := by
  refine FnG.of (k := 3 * n + 5) D.fn D.sc (fun vs H Q E ⟨F, μ, st, ds, S, r, hl, h⟩ => by rw [← r.length, hl]) fun cdv A out s H vs Q E hr hg hcd ⟨F, μ, st', ds, S, r, hl, h⟩ => ?_
  have h : Post K U.cls U.xf F (rlD K F) (fun c d _ H' => E c d H') [] μ H (match U.Pg f with | some fd => isoF fd (runF (callN U.Pg n) fd) ds st' | none => .bad) Q := h
  rw [hf] at h
  dsimp only at h
  obtain ⟨F, μ, st', S, r, h⟩ := isoF_ok S r h
  unfold runF at h
  split at h
  · generalize hX : cxOf (L2.CX P w) P w K mg base fd.N qual (defScope st) (U.fa f) cdv A out s H E = X
    have tk : Takes X (fun c d _ H' => E c d H') := by
      subst hX
      exact takes_of rfl rfl rfl (E₁ := fun e' s'' => L2.CX P w out H s E e' s'') rfl
    have ps : PassesOwn (model X.prog X.w) X.A X.env X.xe := by
      subst hX
      exact passes_of (K := fun e s'' => L2.CX P w out H s E e s'') (E₁ := fun e' s'' => L2.CX P w out H s E e' s'') rfl
    have c : Ctx U n (fun c d _ H' => E c d H') X := by
      subst hX
      exact ⟨⟨hg, by have := hr.un; show (A.deeper _).units + 70 < cLine; omega⟩, rfl, D.sc.nd, tk, hr.mono (by omega), fns, gls⟩
    have sc : SCtx U n (fun c d _ H' => E c d H') X fd.lam := by
      refine ⟨c, ?_, ?_, ?_, ps, ?_⟩
      · subst hX
        exact fun e => lam cdv A out s H E _ rfl hcd hr e
      · subst hX; exact D.sc.kind
      · subst hX; exact fun _ => rfl
      · subst hX; exact mk _ _ rfl rfl rfl rfl rfl c
    refine ⟨TSx U X F (fun c d _ H' => E c d H') (execs (callN U.Pg n) fd.body), ?_, ?_⟩
    · exact sSs sc fd.body (defBody st) (by subst hX; exact D.chk)
    · subst hX
      exact ⟨_, st', μ, env_start r, S, end_ok h⟩
  · exact h.elim
/-- all defs, as deep as one likes -/
theorem defs_all {U : Wd} {P : Program} {w : World} {K : PySem.W.Frag} {mg : Str → Option Value} {base : Heap} (gls : Gls U K mg) (mk : ∀ n, MkX U n P w K mg base) (D : ∀ f fd, U.Pg f = some fd → ∃ x qual st, DefOk U K f fd x qual st ∧ ∀ n, LamD U n P w K mg base f fd qual st) : ∀ n, Fns U P w K mg base n
  | 0 => ⟨fun f fd hf => by
    obtain ⟨x, qual, st, d, ld⟩ := D f fd hf
    refine ⟨d.bd, fun vs H Q E ⟨F, μ, st, ds, S, r, hl, h⟩ => by rw [← r.length, hl], fun A out s H args us vs Q E _ _ _ _ _ ⟨F, μ, st, ds, S, r, hl, h⟩ => h.elim⟩⟩
  | n + 1 => ⟨fun f fd hf => by
    obtain ⟨x, qual, st, d, ld⟩ := D f fd hf
    exact ⟨d.bd, def_step (defs_all gls mk D n) gls (mk n) (ld n) hf d⟩⟩
end MP

set_option Elab.async false
set_option linter.all false
set_option maxRecDepth 100000
set_option maxHeartbeats 4000000
namespace MP
open PySem PySem.Spec PyProof.Rows L2 LamX
/-- the script, as the law gets it -/
def ScrIn (K : PySem.W.Frag) (H : Hp) (a : Addr) (ns : List Int) : Prop := (∃ o, H a = some (.frz o (.lst (ns.map V.int)))) ∨ ∀ H', SqL K H' a (ns.map V.int)
theorem noX {P : Program} {w : World} {H : Hp} {s : Shared} {e : Value} {s' : Shared} (h : L2.CX P w [] H s (fun _ _ _ => False) e s') : False := by
  obtain ⟨_, _, _, _, _, _, _, _, _, _, _, _, z⟩ := h
  exact z
theorem calling {P : Program} {w : World} {H : Hp} {s : Shared} {e : Value} {s' : Shared} {Q : VK} (h : CR (L2.CX P w) [] P w H s Q (fun _ _ _ => False) (.error e) s') : False := noX h
theorem law_callG {P : Program} {w : World} {K : PySem.W.Frag} {mg mb : Str → Option Value} {k : Nat} {fa a : Addr} {cs : List (Addr × Addr)} {fd : FuncData} {x : Str} {sp : Sp} {s₁ : Shared} {vs : List Value} {ns : List Int}
    (kin0 : K.In s₁.heap) (nsG : s₁.heap.Ns mainGlobals mg) (hb : s₁.heap.Ns builtinsNs mb) (bsB : ∀ x : Str, x ≠ "__name__" → mb x = bootBuiltins x) (limN : s₁.heap.NoLimit) (hg : s₁.gens = #[])
    (tabs : ∀ p ∈ cs, s₁.heap.get? p.2 = some { cls := .none, data := .fields #[] }) (tabsK : ∀ p ∈ cs, K.lookup p.2 = none) (C : ∀ p ∈ cs, PySem.W.CodeHd s₁.heap p.1 p.2)
    (bmod : ∃ (bm : Addr) (ob : Obj), mg "__builtins__" = some (.ref bm) ∧ bm ≠ builtinsNs ∧ s₁.heap.get? bm = some ob ∧ ob.cls = .type "module" ∧ ob.dict = some builtinsNs ∧ ob.data = .plain)
    (ha : s₁.heap.get? a = some { cls := .type "list", data := .seq vs.toArray }) (whl : IntsAre vs ns) (hl : ns.length ≤ sizeLine) (room : Room k callerA)
    (F : ∀ base : Heap, K.In base → base.Ns mainGlobals mg → (∀ p ∈ cs, TabB base mg p.1 p.2) → FnG P w K mg base k fa fd [x] sp) (bnd : ∀ (s : Shared) (u : Value), BindsTo s fd ⟨[u], []⟩ [(x, u)])
    (prm : ∀ H : Hp, (∀ p ∈ cs, H p.2 = some (.tbl #[])) → ScrIn K H a ns → sp [.ref a] H (fun v _ => v = .bl true) fun _ _ _ => False)
    :
    codeAny (model P w) callerA (.call (.ref fa) ⟨[.ref a], []⟩) (fun r s' => r = .ok (.ret (.bool true)) ∧ OldK s₁.heap s'.heap ∧ s'.os = s₁.os ∧ AllBare s'.gens) s₁ := by
  have rv := vals_ints whl
  have lenI := whl.length
  have atT : ∀ b : Addr, b ∈ cs.map (·.2) → s₁.heap.get? b = some { cls := .none, data := .fields #[] } := fun b hb => by
    obtain ⟨p, hp, e⟩ := List.mem_map.mp hb
    rw [← e]
    exact tabs p hp
  have apart : a ∉ cs.map (·.2) := fun z => by
    have q := atT a z
    rw [ha] at q
    have z' : Data.seq vs.toArray _ = Data.fields #[] := congrArg Obj.data (Option.some.inj q)
    cases z'
  have inT : ∀ p ∈ cs, p.2 ∈ cs.map (·.2) := fun p hp => List.mem_map.mpr ⟨p, hp, rfl⟩
  -- from an abstract heap in which nothing but the script and the tables may be tracked
  have main : ∀ H : Hp, (∀ p ∈ cs, H p.2 = some (.tbl #[])) → (∀ b, H b = none ∨ b ∈ cs.map (·.2) ∨ ∃ o xs, H b = some (.frz o (.lst xs))) → ScrIn K H a ns → HOk P w H s₁.heap → (∀ b, H b ≠ none → b = a ∨ b ∈ cs.map (·.2)) → (H a ≠ none → K.lookup a = none) →
      codeAny (model P w) callerA (.call (.ref fa) ⟨[.ref a], []⟩) (fun r s' => r = .ok (.ret (.bool true)) ∧ OldK s₁.heap s'.heap ∧ s'.os = s₁.os ∧ AllBare s'.gens) s₁ := by
    intro H tH oneOf seqA okH onlyA lookA
    have ground : ∀ {b : Addr} {o : Obj}, s₁.heap.get? b = some o → H b = none → (hidT s₁.heap H).get? b = some o := fun e n => hidT_get e n
    have notTr : ∀ {b : Addr} {o : Obj}, s₁.heap.get? b = some o → (∀ vs n, o.data ≠ .seq vs n) → o.data ≠ .fields #[] → H b = none := fun {b o} e h1 h2 => by
      cases q : H b with
      | none => rfl
      | some u =>
        rcases onlyA b (by rw [q]; simp) with e' | e'
        · rw [e', ha] at e
          cases e
          exact (h1 _ _ rfl).elim
        · rw [atT b e'] at e
          cases e
          exact (h2 rfl).elim
    have notDict : ∀ {b : Addr} {o : Obj} {es : Array DictEntry} {ep : Nat}, s₁.heap.get? b = some o → o.data = .dict es ep → H b = none := fun {b o es ep} e d => by
      refine notTr e (fun vs n z => ?_) fun z => ?_
      · rw [d] at z
        cases z
      · rw [d] at z
        cases z
    have nsGr : ∀ {b : Addr} {m : Str → Option Value}, s₁.heap.Ns b m → (hidT s₁.heap H).Ns b m := fun {b m} ⟨o, es, ep, e, d, r⟩ => ⟨o, es, ep, ground e (notDict e d), d, r⟩
    have kinGr : K.In (hidT s₁.heap H) := fun b o e => ground (kin0 b o e) (by
      cases q : H b with
      | none => rfl
      | some u =>
        rcases onlyA b (by rw [q]; simp) with e' | e'
        · rw [e'] at e q
          rw [lookA (by rw [q]; simp)] at e
          cases e
        · obtain ⟨p, hp, ep⟩ := List.mem_map.mp e'
          rw [← ep, tabsK p hp] at e
          cases e)
    have modl : L2.Mod K mg (hidT s₁.heap H) := ⟨kinGr, nsGr nsG, ⟨mb, nsGr hb, bsB⟩, let ⟨mc, h1, h2⟩ := limN; ⟨mc, nsGr h1, h2⟩⟩
    have tabB : ∀ p ∈ cs, TabB (hidT s₁.heap H) mg p.1 p.2 := fun p hp => by
      have tabP := tabs p hp
      refine ⟨?_, ?_, fun z => ?_⟩
      · obtain ⟨o, us, file, tf, flags, tg, inF, text, tt, e1, r1, r2, r3, r4, r5, r6, r7, r8, hne⟩ := C p hp
        refine ⟨o, us, file, tf, flags, tg, inF, text, tt, ground e1 (notTr e1 (fun vs n z => ?_) fun z => ?_), r1, r2, r3, r4, r5, r6, r7, r8, hne⟩
        · rw [r2] at z
          cases z
        · rw [r2] at z
          cases z
          simp at r3
      · obtain ⟨bm, ob, b1, b2, b3, b4, b5, b6⟩ := bmod
        have apG : bm ≠ mainGlobals := fun q => by
          obtain ⟨o, es, ep, e, hd, _⟩ := nsG
          rw [q, e] at b3
          cases b3
          rw [hd] at b6
          cases b6
        have apP : bm ≠ p.2 := fun q => by
          rw [q, tabP] at b3
          cases b3
          cases b6
        refine ⟨bm, ob, b1, b2, apG, apP, ground b3 (notTr b3 (fun vs n z => ?_) fun z => ?_), b4, b5, b6⟩
        · rw [b6] at z
          cases z
        · rw [b6] at z
          cases z
      · obtain ⟨o, es, ep, e, hd, _⟩ := nsG
        rw [z, tabP] at e
        cases e
        cases hd
    have env0 : Env0 P w K mg (hidT s₁.heap H) callerA [] s₁ H := ⟨rfl, modl, fun b o e => of_hidT e, Nat.le_of_eq (hidT_size _ _), trivial, fun b hb => absurd (show b ∈ ([] : List Addr) from hb) (by simp), okH, .of_eq hg⟩
    refine codeAny_mono ((F _ kinGr (nsGr nsG) tabB).run callerA [] s₁ H ⟨[.ref a], []⟩ [.ref a] [.ref a] _ _ room rfl env0 (bnd s₁ (.ref a)) (.cons rfl .nil) (prm H tH seqA)) fun r s' h => ?_
    cases r with
    | error e => exact (noX h).elim
    | ok fl =>
      cases fl with
      | next => exact False.elim h
      | brk => exact False.elim h
      | cont => exact False.elim h
      | ret u =>
        obtain ⟨v, H', os, bare, unt, okH', r', q⟩ := h
        have q' : v = .bl true := q
        subst q'
        obtain rfl : u = Value.bool true := r'
        have stays : ∀ b o, b ∉ cs.map (·.2) → s₁.heap.get? b = some o → s'.heap.get? b = some o := fun b o nb e => by
          cases q : H b with
          | none => exact unt.keep b o e q (by intro z; exact absurd (show b ∈ ([] : List Addr) from z) (by simp)) (by simp)
          | some u =>
            rcases oneOf b with z | z | ⟨ob, xs, z⟩
            · rw [q] at z; cases z
            · exact absurd z nb
            · have z2 := unt.frzs b ob _ z
              obtain ⟨e1, _⟩ := okH b _ z
              obtain ⟨e2, _⟩ := okH' b _ z2
              rw [e] at e1; cases e1
              exact e2
        have more0 : ∀ p ∈ cs, ∃ more : Array Value, s'.heap.get? p.2 = some { cls := .none, data := .fields more } := fun p hp => by
          obtain ⟨more, z⟩ := unt.tbls p.2 #[] (tH p hp)
          exact ⟨_, okH' p.2 _ z⟩
        refine ⟨rfl, ⟨fun b o e => ?_, fun b o e => ?_⟩, os, bare⟩
        · by_cases hb : b ∈ cs.map (·.2)
          · obtain ⟨p, hp, ep⟩ := List.mem_map.mp hb
            obtain ⟨more, hm⟩ := more0 p hp
            rw [← ep] at e ⊢
            rw [tabs p hp] at e
            cases e
            exact .inr (.inl ⟨((C p hp).tab (tabs p hp)).isCodeTable, rfl, #[], more, rfl, by rw [Array.empty_append]; exact hm⟩)
          · exact .inl (stays b o hb e)
        · by_cases hb : b ∈ cs.map (·.2)
          · obtain ⟨p, hp, ep⟩ := List.mem_map.mp hb
            obtain ⟨more, hm⟩ := more0 p hp
            rw [← ep]
            exact ⟨_, hm⟩
          · exact ⟨o, stays b o hb e⟩
  cases lk0 : K.lookup a with
  | some o =>
    have e := kin0 a o lk0
    rw [ha] at e
    cases e
    refine main (fun b => if b ∈ cs.map (·.2) then some (.tbl #[]) else none) (fun p hp => if_pos (inT p hp)) (fun b => ?_) (.inr fun _ => .inr ⟨_, vs.toArray, _, lk0, rfl, rfl, rfl, by rw [List.size_toArray, lenI]; exact hl, by simpa using rv⟩) (fun b u z => ?_) (fun b z => ?_) fun z => absurd (show (if a ∈ cs.map (·.2) then some (HO.tbl #[]) else none) = none from if_neg apart) z
    · by_cases hb : b ∈ cs.map (·.2)
      · exact .inr (.inl hb)
      · exact .inl (if_neg hb)
    · by_cases hb : b ∈ cs.map (·.2)
      · have z' := (if_pos hb).symm.trans z
        cases z'
        exact atT b hb
      · have z' := (if_neg hb).symm.trans z
        cases z'
    · by_cases hb : b ∈ cs.map (·.2)
      · exact .inr hb
      · exact absurd (if_neg hb) z
  | none =>
    refine main (fun b => if b = a then some (.frz { cls := .type "list", data := .seq vs.toArray } (.lst (ns.map V.int))) else if b ∈ cs.map (·.2) then some (.tbl #[]) else none) (fun p hp => (if_neg (show ¬ p.2 = a from fun z => apart (by rw [← z]; exact inT p hp))).trans (if_pos (inT p hp))) (fun b => ?_)
      (.inl ⟨{ cls := .type "list", data := .seq vs.toArray }, if_pos rfl⟩) (fun b u z => ?_) (fun b z => ?_) fun _ => lk0
    · by_cases hb : b = a
      · exact .inr (.inr ⟨_, _, if_pos hb⟩)
      · by_cases hb2 : b ∈ cs.map (·.2)
        · exact .inr (.inl hb2)
        · exact .inl ((if_neg hb).trans (if_neg hb2))
    · by_cases hb : b = a
      · have z' := (if_pos hb).symm.trans z
        cases z'
        rw [hb]
        exact ⟨ha, by rw [List.length_map]; exact hl, vs, _, rv, ha⟩
      · have z1 := (if_neg hb).symm.trans z
        by_cases hb2 : b ∈ cs.map (·.2)
        · have z' := (if_pos hb2).symm.trans z1
          cases z'
          exact atT b hb2
        · have z' := (if_neg hb2).symm.trans z1
          cases z'
    · by_cases hb : b = a
      · exact .inl hb
      · by_cases hb2 : b ∈ cs.map (·.2)
        · exact .inr hb2
        · exact absurd ((if_neg hb).trans (if_neg hb2)) z

/-- what is known of the defs at the head's heap h -/
def LawG (l : PySem.W.OpenLaw) (w : World) (K : PySem.W.Frag) (k n : Nat) (x : Str) (mg : Str → Option Value) (fa : Addr) (h : Heap) : Prop :=
  ∃ (fd : FuncData) (cs : List (Addr × Addr)) (sp : Sp), (∀ p ∈ cs, h.get? p.2 = some { cls := .none, data := .fields #[] }) ∧ (∀ p ∈ cs, K.lookup p.2 = none) ∧ (∀ p ∈ cs, PySem.W.CodeHd h p.1 p.2) ∧ (∀ (s : Shared) (u : Value), BindsTo s fd ⟨[u], []⟩ [(x, u)]) ∧
    (∀ (H : Hp) (a : Addr) (ns : List Int), ns.length ≤ n → (∀ z ∈ ns, Builtin.Int.intBits z ≤ 1048576) → (∀ p ∈ cs, H p.2 = some (.tbl #[])) → ScrIn K H a ns → sp [.ref a] H (fun v _ => v = .bl true) fun _ _ _ => False) ∧
    ∀ base : Heap, K.In base → base.Ns mainGlobals mg → (∀ p ∈ cs, TabB base mg p.1 p.2) → FnG l.prog w K mg base k fa fd [x] sp
theorem walkG {l : PySem.W.OpenLaw} {n k : Nat} {q : Program} {loose : List Str} {XP : (Str → Option Value) → Heap → Prop} {YP : World → Heap → Prop} {d : DefRec} {K : Params → PySem.W.Frag} {x : Str}
    (most : l.most = some n) (fits : n ≤ sizeLine) (plain : d.params.defaults = []) (room : Room k callerA) (inY : ∀ (w : World) (h : Heap), YP w h → (K w.params).In h)
    (F : ∀ (w : World) (mg : Str → Option Value) (fa : Addr) (h : Heap), YP w h → (K w.params).In h → h.Ns mainGlobals mg → mg d.name = some (.ref fa) → LawG l w (K w.params) k n x mg fa h) :
    PySem.W.WalkO q loose XP YP l.row.toRowW d [] (fun f vs => PySem.call f vs) := by
  refine Att.attach_callB most plain fun w s₀ s₁ mg mb fa o pm cd doc a vs ns G Y ho hd hcd hmg hobj hints hlen hbits hg => ?_
  have kin1 := inY w _ Y
  obtain ⟨fd, cs, sp, tabs, tabsK, C, bnd, prm, hF⟩ := F w mg fa _ Y kin1 G.T.g hmg
  exact law_callG kin1 G.T.g G.T.b G.T.builtins G.T.nolimit hg tabs tabsK C G.T.bmain hobj hints (Nat.le_trans hlen fits) room hF bnd fun H tH seqA => prm H a ns hlen hbits tH seqA
/-- the law's own promise, from what is computed -/
theorem law_prom {U : Wd} {K : PySem.W.Frag} {nL fL : Nat} {H : Hp} {a : Addr} {ns : List Int} {cs : List (Addr × Addr)} (hps : (U.ps fL).length = 1) (hT : ∀ p ∈ U.cls.T, H p.1 = some (.tbl #[])) (h : ScrIn K H a ns)
    (hc : ∃ st', callN U.Pg nL fL [.scr (ns.map D.int)] [] = .ok (.bl true) st') : prom K U (callN U.Pg nL) fL [.ref a] H (fun v _ => v = .bl true) fun _ _ _ => False := by
  obtain ⟨st', e⟩ := hc
  have S : StRel K U.cls [] [] H [] := ⟨rfl, List.nodup_nil, fun n a h => by simp at h, fun a h => by simp at h, fun a h => by simp at h, fun p hp => TabS.nil (hT p hp)⟩
  have ri : ∀ (F μ : List Addr) (H : Hp), ∀ ns : List Int, RelL K F μ H (ns.map D.int) (ns.map V.int) := fun F μ H ns => by
    induction ns with
    | nil => exact .nil
    | cons a r ih => exact .cons (.int a) ih
  refine ⟨[], [], [], [.scr (ns.map D.int)], S, .cons ?_ .nil, hps.symm, ?_⟩
  · rcases h with ⟨o, h⟩ | h
    · exact .scr h (by simp) (ri _ _ _ ns)
    · exact .scrK h (ri _ _ _ ns)
  · rw [e]
    intro μ' H' v _ _ r
    cases r
    rfl
end MP

set_option Elab.async false
set_option linter.all false
set_option maxRecDepth 100000
set_option maxHeartbeats 4000000
namespace MP
open PySem PySem.Spec PyProof.Rows L2 PySem.W NdefX PySem.Calls PyProof.V
/-! ### an own error whose __init__ says super().__init__(x); self.f = x -/
/-- what the top has written of the class at C and of its __init__ at fI -/
structure XInit (P : Program) (K : PySem.W.Frag) (mg : Str → Option Value) (C fI : Addr) (nm qual fld arg : Str) (st : Stmt) (fd : FuncData) : Prop where
  oex : OexC K C
  init : PySem.W.findIn K (.ref C) "__init__" = some (some (.ref fI))
  ty : PySem.W.typeIn K (.ref fI) = some (.type "function")
  mgC : mg nm = some (.ref C)
  fdEx : ∃ (oc dV kV doc pm ct : Value) (od an : Option Addr) (cda cc : Addr) (osl ccs csl : Array (Option Value)) (ccl cl : Value) (cdd cld : Option Addr) (vs : Array Value) (file : Str) (tf : Tok) (cdD : ClassData),
    fd = ksFn "__init__" qual (defArgs st) (defBody st) (defScope st) dV kV doc pm an (.ref cda) ct cc ∧ K.lookup fI = some ⟨oc, od, .func fd, osl⟩ ∧ codeIn K (.ref cda) qual = true ∧ K.lookup cda = some ⟨ccl, cdd, .fields vs, ccs⟩ ∧ vs[2]? = some (.str file tf) ∧
      ((P.main.file : Str) == file) = true ∧ K.lookup cc = some ⟨cl, cld, .cell (some (.ref C)), csl⟩ ∧ clsIn K C = some cdD
  sub : mroIn K C (.ref C) = some true
  sup : nsIn K mainGlobals "super" = some none
  third : nsIn K cStatics "thirdparty.any" = some none
  along : ks_superIn K C C "__init__" = some (some (.builtin "ValueError.__init__"))
  subV : subIn K (.ref C) (.type "ValueError") = some true
  fldC : PySem.W.findIn K (.ref C) fld = some none
  top : (P.main.scope.names.lookup ("super" : Str)).isSome = false
  body : ∃ p0 p1 p2 p3 p4 p5 p6 p7 p8 p9, (p2.endLine == p4.line) = true ∧ defBody st = [.Expr (.Call (.Attribute (.Call (.Name "super" p0) [] [] p1) "__init__" p2) [.Name arg p3] [] p4) p5, .Assign [.Attribute (.Name "self" p6) fld p7] (.Name arg p8) p9]
  head : ((defArgs st).posonlyargs ++ (defArgs st).args).head?.map (·.arg) = some "self"
  sc : NScope ["self", arg, "__class__"] ["self", arg] ["__class__"] (defScope st)
  ks : (defScope st).names.lookup ("super" : Str) = some .globalImplicit
  okA : okNm arg = true
  bd : Binds K fd ["self", arg] []
  kp : keepIn K (.ref C) = true
theorem superCall {p0 p1 p2 p3 p4 : Pos} {arg : Str} {env : PySem.Env} (h : (p2.endLine == p4.line) = true) : PySem.eval (.Call (.Attribute (.Call (.Name "super" p0) [] [] p1) "__init__" p2) [.Name arg p3] [] p4) env = (do
      let ov ← attributeBase (.Call (.Name "super" p0) [] [] p1) "__init__" env (PySem.eval (.Call (.Name "super" p0) [] [] p1) env)
      standAt p2.atName
      let (f, first) ← holding [ov] (getMethod ov "__init__" (do return (← importBound (.Call (.Name "super" p0) [] [] p1) env).getD true))
      callWith p4 f first (backTo p4 (starEach [.Name arg p3] env)) []) := by
  show (do
    let ov ← attributeBase (.Call (.Name "super" p0) [] [] p1) "__init__" env (PySem.eval (.Call (.Name "super" p0) [] [] p1) env)
    standAt p2.atName
    methodCall (.Call (.Name "super" p0) [] [] p1) "__init__" p2 p4 env ov 1 (backTo p4 (starEach [.Name arg p3] env)) []) = _
  unfold methodCall methodCallPos
  simp only [h]
  rfl
def spX (C : Addr) (fld : Str) : Sp := fun vs H Q _ => ∃ (a : Addr) (v : V), vs = [.ref a, v] ∧ H a = some (exo a C none) ∧ ∀ d, H d = none → d ≠ a → Q .non (upd (upd H d (exd d [(fld, v)])) a (exo a C (some d)))
section
variable {P : Program} {w : World} {K : PySem.W.Frag} {mg : Str → Option Value} {base : Heap} {C fI : Addr} {nm qual fld arg : Str} {st : Stmt} {fd : FuncData}
theorem init_fn (X : XInit P K mg C fI nm qual fld arg st fd) {k : Nat} : FnOk P w K mg base (L2.CX P w) (k + 1) fI fd ["self", arg] (spX C fld) := by
  refine ⟨fun vs H Q E ⟨a, v, e, _⟩ => by rw [e]; rfl, fun A out s H args us vs Q E hr e0 hbd r ⟨a, v, ev, ea, hq⟩ => ?_⟩
  obtain ⟨oc, dV, kV, doc, pm, ct, od, an, cda, cc, osl, ccs, csl, ccl, cl, cdd, cld, fvs, file, tf, cdD, rfl, lk, hcd, lcd, hfv, hfile, lcc, hD⟩ := X.fdEx
  obtain ⟨p0, p1, p2, p3, p4, p5, p6, p7, p8, p9, hline, hbody⟩ := X.body
  subst ev
  obtain ⟨u0, u, rfl, r0, ru⟩ : ∃ u0 u, us = [u0, u] ∧ RelV (.ref a) u0 ∧ RelV v u := by
    cases r with
    | cons a1 b1 => cases b1 with
      | cons a2 b2 => cases b2; exact ⟨_, _, rfl, a1, a2⟩
  obtain rfl : u0 = Value.ref a := r0
  have kin : K.In s.heap := e0.mod.kin.keeps fun b o e => (e0.bs b o e).1
  have lim : s.heap.NoLimit := e0.mod.nolimit.keeps fun b o e => (e0.bs b o e).1
  have S := X.sc
  refine ks_codeAny_call_defAt (body := defBody st) hr.depth (kin _ _ lk) rfl lim (codeRec_of kin hcd) rfl hbd S.nocell (fun y hy => S.par y.1 (List.of_mem_zip hy).1) (fun h₁ hns kp => ?_) S.co S.gen S.kind
  -- the body's context
  let NFv : NF := ⟨"__init__", qual, defArgs st, defBody st, defScope st, [("__class__", cc)], cda⟩
  have kin0 := kin
  have hcn : H cc = none := (e0.bs _ _ (e0.mod.kin _ _ lcc)).2
  have look : ∀ y c, NFv.cl.lookup y = some c → y = "__class__" ∧ c = cc := fun y c e => by
    have e' : List.lookup y [(("__class__" : Str), cc)] = some c := e
    rw [List.lookup_cons] at e'
    cases hb : y == ("__class__" : Str) with
    | true =>
      rw [hb] at e'
      exact ⟨beq_iff_eq.mp hb, (Option.some.inj e').symm⟩
    | false =>
      rw [hb] at e'
      cases e'
  have CA : CellsAt NFv.cl ["__class__"] [none] s.heap H := by
    refine ⟨rfl, fun y c e => ?_, fun x y c e1 e2 => ?_, fun i y hi => ?_⟩
    · obtain ⟨_, rfl⟩ := look y c e
      exact ⟨hcn, some (.ref C), _, kin _ _ lcc, rfl⟩
    · rw [(look x c e1).1, (look y c e2).1]
    · cases i with
      | zero =>
        have hy : ("__class__" : Str) = y := by simpa using hi
        subst hy
        exact ⟨cc, rfl, fun v hv => by simp at hv⟩
      | succ i => simp at hi
  have J : Inv (ncx (L2.CX P w) P w K mg base ["self", arg, "__class__"] NFv fI A out s H E) [] (startF ["self", arg, "__class__"] [.ref a, v] [none]) H { s with heap := h₁, toks := s.toks + 2 } := inv_startN S hr.hd e0 rfl r CA hns kp
  obtain ⟨hp, g, d, t, os⟩ := s
  have kb : ∀ b o, base.get? b = some o → h₁.get? b = some o := fun b o e => kp b o (e0.bs b o e).1
  have kin1 : K.In h₁ := fun b o e => kp b o (kin b o e)
  obtain ⟨ar, har, earg⟩ : ∃ ar, ((defArgs st).posonlyargs ++ (defArgs st).args).head? = some ar ∧ ar.arg = "self" := Option.map_eq_some_iff.mp X.head
  obtain ⟨mb, hmb, hbb⟩ := e0.mod.blt
  obtain ⟨oD, hD1, hD2⟩ : ∃ oD, K.lookup C = some oD ∧ oD.data = .cls cdD := by
    unfold clsIn at hD
    split at hD
    · rename_i c d cd' sl ho
      cases hD
      exact ⟨_, ho, rfl⟩
    · cases hD
  obtain ⟨t1, hx⟩ := exo_at J.hok ea
  have ndp : (["self", arg] : List Str).Nodup := by
    have := S.nd.sublist (List.take_sublist 2 _)
    exact this
  rw [hbody]
  refine ks_wpAt_execs_cons (ks_wpAt_Expr_any (ks_wpAt_MethodCall ?_ (superCall hline)) J.quiet rfl)
  refine ks_wpAt_super_base (ar := ar) X.ks (S.frk "__class__" (by simp)) rfl rfl (kin1 _ _ lk) rfl har rfl (kin1 _ _ lcd) rfl hfv hfile X.top ?_
  refine ks_loadName_global S.kind X.ks (loadGlobal_builtin (env := _) (e0.mod.glob.keeps kb) (mg_none_of e0.mod.kin e0.mod.glob X.sup) (hmb.keeps kb) ((hbb _ (by decide +kernel)).trans (show bootBuiltins "super" = some (.type "super") by first | rfl | decide +kernel)) ⟨rfl, ?_⟩)
  refine wpAny_loadName_free S.kind (S.frk "__class__" (by simp)) (c := cc) rfl ⟨_, kin1 _ _ lcc, rfl⟩ ?_
  have la : ((["self", arg] : List Str).zip [Value.ref a, u]).reverse.lookup ("self" : Str) = some (.ref a) := NdefX.zip_look (i := 0) ndp rfl rfl
  have lu : ((["self", arg] : List Str).zip [Value.ref a, u]).reverse.lookup arg = some u := NdefX.zip_look (i := 1) ndp rfl rfl
  refine wpAny_loadName_local S.kind (by rw [earg]; exact S.par "self" (by simp)) hns (v := .ref a) (by rw [earg]; exact la) ?_
  refine ks_wpAny_isType_cls (kin1 _ _ hD1) hD2 ⟨rfl, ?_⟩
  refine ks_wpAny_call_super (kin1 _ _ hD1) hD2 hx rfl (fun c z => by cases z) (looks_mroIn kin1 X.sub) (fun h2 e2 k2 => ?_)
  have kin2 : K.In h2 := fun b o e => k2 b o (kin1 b o e)
  have Ix : InstAt h2 a _ C none := ⟨k2 _ _ hx, rfl, rfl, trivial⟩
  have hal : alongIn K "__init__" ((cdD.mro.dropWhile (· != .ref C)).drop 1) = some (some (.builtin "ValueError.__init__")) := by
    have z := X.along
    unfold ks_superIn at z
    rw [hD] at z
    exact z
  refine kxs_getMethod kxs_ValueError e2 (looks_opaque kin2 X.third) (l₀ := cdD.mro) (fun A Q E s k q => wpAny_bind ((looks_clsIn kin2 hD) A _ E s k (wpAny_pure q))) rfl kin2 hal (Ix.type.andThen (looks_subIn kin2 X.subV)) (ks_ne kin2 Ix hD) rfl ?_
  have k3 : ∀ b o, h₁.get? b = some o → (h2.push (kxs_mw "ValueError.__init__" a)).get? b = some o := fun b o e => Heap.get?_push_of_some _ (k2 b o e)
  have kin3 : K.In (h2.push (kxs_mw "ValueError.__init__" a)) := fun b o e => k3 b o (kin1 b o e)
  have hq3 : (h2.push (kxs_mw "ValueError.__init__" a)).get? h2.objs.size = some (kxs_mw "ValueError.__init__" a) := Heap.get?_push_at rfl rfl
  refine kxs_callWith (i := "ValueError.__init__") (x := a) (u := h2.objs.size) rfl (evalArgs_plain ?_)
  show wpAny _ _ (spliced [(false, PySem.eval (.Name arg p3) _)]) _ _ _
  refine Calls.spliced_cons ?_
  refine wpAny_Name (wpAny_loadName_local S.kind (S.par arg (by simp)) (hns.keeps k3) lu ?_) (okNm_eq X.okA).1
  refine Calls.spliced_nil ⟨hq3, ?_⟩
  -- the built-in __init__, bound
  obtain ⟨nm0, q0, N0, bs0, bm0, sn0, sub0, ab0, col0, dd0, c0, c1, c2, c3, c5, hC, hbm⟩ := X.oex.cls
  refine wpAny_call (codeAny_of_tree ?_)
  show wpAny _ _ (callAny (.ref h2.objs.size) ⟨[u], []⟩) _ _ _
  simp only [callAny]
  refine wpAny_bind (wpAny_load hq3 ?_)
  simp only [kxs_mw, show (Value.type "method-wrapper" == Value.type "method" || Value.type "method-wrapper" == Value.type "builtin_function_or_method" ||
    Value.type "method-wrapper" == Value.type "method-wrapper") = true by decide, if_true]
  refine KFB.if_so (by decide) ?_
  refine wpAny_bind (check_bound_init PySem.F.excBase_ValueError.toExcCallFacts (kin3 _ _ hC) (k3 _ _ hx) rfl ?_)
  refine wpAny_bind (wpAny_pure (wpAny_pure ?_))
  refine ⟨plainId_quiet PySem.F.excBase_ValueError.init.plain _, codeAny_builtin PySem.F.excBase_ValueError.initEntry ?_⟩
  refine exc_init_tree (cls := .ref C) (t0 := t1) (dv := none) (c2 := .none) (c3 := .none) (b4 := .bool false) (k3 _ _ hx) (by show 1 ≤ sizeLine; decide) (fun h4 k4 hx4 _ => ?_)
  -- behind it
  have J4 : ∀ tk : Nat, Inv (ncx (L2.CX P w) P w K mg base ["self", arg, "__class__"] NFv fI A out ⟨hp, g, d, t, os⟩ H E) [] (startF ["self", arg, "__class__"] [.ref a, v] [none]) H ⟨h4, g, d, tk, os⟩ := by
    intro tk
    have J3 := J.kept (t' := tk) k3
    have q := J3.write (h' := h4) (t' := tk) (x := a) (e := a) (o := exo a C none) (by rw [ea]; exact True.intro) (.inl rfl) k4 ⟨_, hx4⟩ (exo_ok hx4)
    have eu : upd H a (exo a C none) = H := by
      funext b
      by_cases hb : b = a
      · rw [hb, upd_same, ea]
      · rw [upd_ne hb]
    rw [eu] at q
    exact q
  have oA := okNm_eq X.okA
  have ps : PSs (ncx (L2.CX P w) P w K mg base ["self", arg, "__class__"] NFv fI A out ⟨hp, g, d, t, os⟩ H E) [.Assign [.Attribute (.Name "self" p6) fld p7] (.Name arg p8) p9] _ :=
    pss_one (ps_ost (pe_var (i := 0) rfl (.inl (S.par "self" (by simp))) (by decide) (by decide)) (pe_var (i := 1) rfl (.inl (S.par arg (by simp))) oA.1 oA.2) rfl)
  refine wpAt_of_wpAny (wpAny_mono (ps.run [] _ _ H { nx := fun _ H' => Q .non H', rt := fun _ _ => False } (J4 _) ?_) (fun fl s' z => ?_) fun _ _ z => z)
  rotate_left
  · cases fl with
    | next =>
      obtain ⟨σ', H', J5, q⟩ := z
      exact ⟨V.non, H', J5.os, J5.bare, J5.base, J5.hok, rfl, q⟩
    | ret u =>
      obtain ⟨_, _, _, _, _, q⟩ := z
      exact q.elim
    | brk =>
      obtain ⟨_, _, _, q⟩ := z
      exact q.elim
    | cont =>
      obtain ⟨_, _, _, q⟩ := z
      exact q.elim
  · exact ⟨v, rfl, .ref a, rfl, a, C, rfl, X.oex, X.fldC, .inl ⟨ea, fun dx n ne => hq dx n ne⟩⟩
theorem passF {X : Cx} : Passes (L2.CX X.prog X.w) X (fun _ _ _ => False) := fun _ _ _ _ _ _ _ h => by
  obtain ⟨_, _, _, _, _, _, _, _, _, _, _, _, z⟩ := h
  exact z.elim
theorem tl_len {U : Wd} {X : Cx} {F : List Addr} {W : WX} {sr : MP.Env → DS → R (List D)} {m : Nat} (hl : ∀ ρ st ds st1, sr ρ st = .ok ds st1 → ds.length = m) {σ : L2.St} {H : Hp} {Q : List V → Hp → Prop} (h : TLx U X F W sr σ H Q) : TLx U X F W sr σ H fun vs H1 => vs.length = m ∧ Q vs H1 := by
  obtain ⟨ρ, st, μ, hE, hS, hP⟩ := h
  refine ⟨ρ, st, μ, hE, hS, ?_⟩
  cases e : sr ρ st with
  | ok ds st1 =>
    rw [e] at hP
    exact fun μ1 H1 vs x S r => ⟨by rw [← r.length, hl _ _ _ _ e], hP μ1 H1 vs x S r⟩
  | exc c fs st1 => rw [e] at hP; exact hP
  | bad => rw [e] at hP; exact hP.elim
theorem mkx_of {U : Wd} {n : Nat} (h : ∀ c nm, U.xn c = some nm → ∃ fI qual fld arg st fd, XInit P K mg (U.cls c) fI nm qual fld arg st fd ∧ U.xf c = [fld] ∧ okNm nm = true) : MkX U n P w K mg base := by
  rintro W X rfl rfl rfl rfl rfl c k nm hk hg F x xs p pos sr hn hr hl
  obtain ⟨fI, qual, fld, arg, st, fd, X0, hf, hnm⟩ := h k nm hk
  have hn' := hn
  simp only [List.all_cons, Bool.and_eq_true] at hn'
  have key := pmk_oex (p := p) (pos := pos) X0.oex X0.init X0.ty (init_fn (w := X.w) (base := X.base) X0 (k := 0)) (c.room.mono (by omega)) X0.bd .nil passF hg X0.mgC hr (okNm_eq hnm).1 (star1 hn'.1) (star_plain hn'.2)
  intro pins s σ H Q I q
  refine key pins s σ H Q I ?_
  have q2 := tl_len hl q
  rw [hf] at q2
  have mono : ∀ {Q1 Q2 : List V → Hp → Prop}, (∀ vs H1, Q1 vs H1 → Q2 vs H1) → TLx U X F W sr σ H Q1 → TLx U X F W sr σ H Q2 := fun {Q1 Q2} i ⟨ρ, st, μ, hE, hS, hP⟩ => by
    refine ⟨ρ, st, μ, hE, hS, ?_⟩
    cases e : sr ρ st with
    | ok ds st1 => rw [e] at hP; exact fun μ1 H1 vs x S r => i _ _ (hP μ1 H1 vs x S r)
    | exc c fs st1 => rw [e] at hP; exact hP
    | bad => rw [e] at hP; exact hP.elim
  refine mono (fun vs H1 ⟨l1, q3⟩ => ?_) q2
  obtain ⟨v, rfl⟩ := List.length_eq_one_iff.mp (show vs.length = 1 from l1)
  refine ⟨by show 1 ≤ 1000; decide, fun a ha => ⟨a, v, rfl, upd_same, fun d hd hda => ⟨rfl, d, [(fld, v)], upd_same, ?_, ?_, ?_⟩⟩⟩
  · rw [upd_ne hda, upd_same]
  · rw [upd_ne hda] at hd; exact hd
  · have e : upd (del (upd (upd (upd H1 a (exo a (U.cls k) none)) d (exd d [(fld, v)])) a (exo a (U.cls k) (some d))) a) d (.xd [(fld, v)]) = upd H1 d (.xd [(fld, v)]) := by
      funext b
      by_cases h1 : b = d
      · rw [h1, upd_same, upd_same]
      · rw [upd_ne h1, upd_ne h1]
        by_cases h2 : b = a
        · rw [h2, del_same, ha]
        · rw [del_ne h2, upd_ne h2, upd_ne h1, upd_ne h2]
    rw [e]
    rw [upd_ne hda] at hd
    exact q3 d hd
end
end MP

set_option Elab.async false
set_option linter.all false
set_option maxRecDepth 100000
namespace K10
open PySem L2 MP
/-- is_long -/
def f0 : FDef := { nm := "is_long", gl := true, np := 1, iso := false, lam := false, N := ["number"], body := [
    .ret (.or (.cmp .gt (.meth .bitlen (.var 0) []) (.con 1 (.int 997))) (.cmp .gt (.bi .len [.bi .str [.bi .abs [.var 0]]]) (.con 0 (.int 300))))] }
/-- not_long_circlenumbers -/
def f1 : FDef := { nm := "not_long_circlenumbers", gl := true, np := 1, iso := false, lam := false, N := ["numbers", "number"], body := [
    .ife (.tv (.bi .any [.lc false (.call 0 [.var 1]) (.nm 1) .seq [.var 0] [] [1]])) [.raise 0 [.con 2 (.int 4)]] [],
    .ret (.var 0)] }
/-- fraction_told -/
def f2 : FDef := { nm := "fraction_told", gl := true, np := 2, iso := true, lam := false, N := ["top", "bottom", "part"], body := [
    .asg (.nm 2) (.bi .gcd [.var 0, .var 1]),
    .asg (.nm 2) (.ife (.or (.cmp .lt (.var 1) (.lit (.int 0))) (.and (.cmp .eq (.var 1) (.lit (.int 0))) (.cmp .lt (.var 0) (.lit (.int 0))))) (.neg (.var 2)) (.var 2)),
    .ret (.call 1 [.tup [.bin .fdiv (.var 0) (.var 2), .bin .fdiv (.var 1) (.var 2)]])] }
/-- number_floor -/
def f3 : FDef := { nm := "number_floor", gl := true, np := 1, iso := false, lam := false, N := ["number", "root"], body := [
    .ife (.cmp .eq (.bi .len [.var 0]) (.lit (.int 2))) [.ret (.bin .fdiv (.ix (.var 0) (.lit (.int 0))) (.ix (.var 0) (.lit (.int 1))))] [],
    .bad,
    .bad] }
/-- map_led -/
def f4 : FDef := { nm := "map_led", gl := true, np := 2, iso := false, lam := false, N := ["one", "number", "a", "b", "c", "d", "top", "bottom"], body := [
    .ife (.cmp .eq (.bi .len [.var 1]) (.lit (.int 4))) [.bad] [],
    .asg (.tp [.nm 2, .nm 3, .nm 4, .nm 5]) (.var 0),
    .asg (.tp [.nm 6, .nm 7]) (.var 1),
    .ret (.call 2 [.bin .add (.bin .mul (.var 2) (.var 6)) (.bin .mul (.var 3) (.var 7)), .bin .add (.bin .mul (.var 4) (.var 6)) (.bin .mul (.var 5) (.var 7))])] }
/-- not_long_ways -/
def f5 : FDef := { nm := "not_long_ways", gl := true, np := 1, iso := false, lam := false, N := ["runs"], body := [
    .ife (.cmp .ge (.bi .len [.var 0]) (.con 3 (.int 200))) [.raise 0 [.con 4 (.int 3)]] [],
    .ret (.var 0)] }
/-- fraction_runs -/
def f6 : FDef := { nm := "fraction_runs", gl := true, np := 2, iso := true, lam := false, N := ["top", "bottom", "runs", "many"], body := [
    .asg (.nm 2) (.lst true []),
    .whl (.cmp .ne (.var 0) (.var 1)) [.ife (.cmp .gt (.var 0) (.var 1)) [.asg (.nm 3) (.bin .fdiv (.bin .sub (.var 0) (.lit (.int 1))) (.var 1)), .expr (.meth .append (.call 5 [.var 2]) [.tup [.con 6 (.str "right"), .var 3]]), .aug 0 .sub (.bin .mul (.var 3) (.var 1))] [.asg (.nm 3) (.bin .fdiv (.bin .sub (.var 1) (.lit (.int 1))) (.var 0)), .expr (.meth .append (.call 5 [.var 2]) [.tup [.con 5 (.str "left"), .var 3]]), .aug 1 .sub (.bin .mul (.var 3) (.var 0))]],
    .ret (.bi .tuple [.var 2])] }
/-- is_below -/
def f7 : FDef := { nm := "is_below", gl := true, np := 1, iso := false, lam := false, N := ["number"], body := [
    .ret (.cmp .lt (.call 3 [.var 0]) (.lit (.int 0)))] }
/-- way_told -/
def f8 : FDef := { nm := "way_told", gl := true, np := 1, iso := true, lam := false, N := ["number", "side", "above", "head", "around"], body := [
    .ife (.cmp .eq (.ix (.var 0) (.lit (.int 0))) (.lit (.int 0))) [.ret (.con 9 (.tup [.str "zero"]))] [],
    .ife (.and (.cmp .eq (.ix (.var 0) (.lit (.int 1))) (.lit (.int 0))) (.cmp .eq (.bi .len [.var 0]) (.lit (.int 2)))) [.ret (.con 10 (.tup [.str "top"]))] [],
    .asg (.nm 1) (.ife (.tv (.call 7 [.var 0])) (.con 8 (.str "down")) (.con 7 (.str "up"))),
    .asg (.nm 2) (.ife (.cmp .eq (.var 1) (.con 8 (.str "down"))) (.call 4 [.con 11 (.tup [.int 0, .int 1, .int (-1), .int 0]), .var 0]) (.var 0)),
    .ife (.cmp .eq (.bi .len [.var 0]) (.lit (.int 2))) [.ret (.tup [.var 1, .call 6 [.ix (.var 2) (.lit (.int 0)), .ix (.var 2) (.lit (.int 1))]])] [],
    .bad,
    .bad] }
/-- edge_behind -/
def f9 : FDef := { nm := "edge_behind", gl := true, np := 2, iso := false, lam := false, N := ["edge", "runs", "a", "b", "c", "d", "letter", "many"], body := [
    .asg (.tp [.nm 2, .nm 3, .nm 4, .nm 5]) (.var 0),
    .forr (.tp [.nm 6, .nm 7]) .seq [.var 1] [.ife (.cmp .eq (.var 6) (.con 5 (.str "left"))) [.par [2, 4] [.bin .add (.var 2) (.bin .mul (.var 7) (.var 3)), .bin .add (.var 4) (.bin .mul (.var 7) (.var 5))]] [.par [3, 5] [.bin .add (.var 3) (.bin .mul (.var 7) (.var 2)), .bin .add (.var 5) (.bin .mul (.var 7) (.var 4))]]],
    .ret (.tup [.var 2, .var 3, .var 4, .var 5])] }
/-- first_edge -/
def f10 : FDef := { nm := "first_edge", gl := true, np := 1, iso := false, lam := false, N := ["side"], body := [
    .ret (.ife (.cmp .eq (.var 0) (.con 8 (.str "down"))) (.tup [.lit (.int 0), .neg (.lit (.int 1)), .lit (.int 1), .lit (.int 0)]) (.tup [.lit (.int 1), .lit (.int 0), .lit (.int 0), .lit (.int 1)]))] }
/-- way_number -/
def f11 : FDef := { nm := "way_number", gl := true, np := 1, iso := true, lam := false, N := ["way", "a", "b", "c", "d", "e", "f", "g", "h"], body := [
    .ife (.cmp .eq (.bi .len [.var 0]) (.lit (.int 1))) [.ret (.ife (.cmp .eq (.var 0) (.con 9 (.tup [.str "zero"]))) (.tup [.lit (.int 0), .lit (.int 1)]) (.tup [.lit (.int 1), .lit (.int 0)]))] [],
    .asg (.tp [.nm 1, .nm 2, .nm 3, .nm 4]) (.call 9 [.call 10 [.ix (.var 0) (.lit (.int 0))], .ix (.var 0) (.lit (.int 1))]),
    .ife (.cmp .eq (.bi .len [.var 0]) (.lit (.int 2))) [.ret (.call 2 [.bin .add (.var 1) (.var 2), .bin .add (.var 3) (.var 4)])] [],
    .bad,
    .bad] }
/-- _law_source -/
def f12 : FDef := { nm := "_law_source", gl := true, np := 1, iso := false, lam := false, N := ["script", "mixed", "cell"], body := [
    .asg (.nm 1) (.lit (.int 11)),
    .forr (.nm 2) .seq [.var 0] [.asg (.nm 1) (.bin .mod (.bi .int [.bin .add (.bin .add (.bin .mul (.var 1) (.lit (.int 69069))) (.bin .mul (.var 2) (.lit (.int 31)))) (.lit (.int 5))]) (.lit (.int 2147483629)))],
    .ret (.dic true [.lit (.str "cells"), .rev true (.lc false (.bi .abs [.var 2]) (.nm 2) .seq [.var 0] [] [2]), .lit (.str "left"), .lit (.int 1), .lit (.str "mixed"), .var 1, .lit (.str "turn"), .lit (.int 0)])] }
/-- _law_pick -/
def f13 : FDef := { nm := "_law_pick", gl := true, np := 2, iso := false, lam := false, N := ["source", "many", "left", "mixed"], body := [
    .whl (.and (.cmp .gt (.var 1) (.lit (.int 1))) (.and (.cmp .lt (.dix (.var 0) (.lit (.str "left"))) (.lit (.int 2))) (.cmp .gt (.bi .len [.dix (.var 0) (.lit (.str "cells"))]) (.lit (.int 0))))) [.asg (.sub (.var 0) (.lit (.str "left"))) (.meth .pop (.dix (.var 0) (.lit (.str "cells"))) [])],
    .asg (.nm 2) (.dix (.var 0) (.lit (.str "left"))),
    .ife (.or (.cmp .lt (.var 1) (.lit (.int 2))) (.cmp .gt (.var 2) (.lit (.int 1)))) [.asg (.sub (.var 0) (.lit (.str "left"))) (.bin .fdiv (.var 2) (.bi .max [.lit (.int 1), .var 1])), .ret (.bin .mod (.bi .int [.var 2]) (.bi .max [.lit (.int 1), .var 1]))] [],
    .asg (.sub (.var 0) (.lit (.str "turn"))) (.bin .add (.dix (.var 0) (.lit (.str "turn"))) (.lit (.int 1))),
    .asg (.nm 3) (.bin .mod (.bi .int [.bin .add (.dix (.var 0) (.lit (.str "mixed"))) (.bin .mul (.dix (.var 0) (.lit (.str "turn"))) (.lit (.int 104729)))]) (.lit (.int 998244353))),
    .asg (.nm 3) (.bin .mod (.bi .int [.bin .add (.bin .mul (.var 3) (.var 3)) (.bin .mul (.dix (.var 0) (.lit (.str "turn"))) (.lit (.int 17)))]) (.lit (.int 2147483647))),
    .asg (.sub (.var 0) (.lit (.str "mixed"))) (.var 3),
    .ret (.bin .mod (.bi .int [.bin .fdiv (.var 3) (.lit (.int 16))]) (.var 1))] }
/-- _law_of -/
def f14 : FDef := { nm := "_law_of", gl := true, np := 2, iso := false, lam := false, N := ["source", "some"], body := [
    .ret (.ix (.var 1) (.call 13 [.var 0, .bi .len [.var 1]]))] }
/-- _law_number -/
def f15 : FDef := { nm := "_law_number", gl := true, np := 1, iso := true, lam := false, N := ["runs", "top", "bottom", "letter", "many"], body := [
    .asg (.tp [.nm 1, .nm 2]) (.tup [.lit (.int 1), .lit (.int 1)]),
    .forr (.tp [.nm 3, .nm 4]) .seq [.revT (.var 0)] [.ife (.cmp .eq (.var 3) (.lit (.str "right"))) [.asg (.nm 1) (.bin .add (.var 1) (.bin .mul (.var 4) (.var 2)))] [.asg (.nm 2) (.bin .add (.var 2) (.bin .mul (.var 4) (.var 1)))]],
    .ret (.tup [.var 1, .var 2])] }
/-- _law_other -/
def f16 : FDef := { nm := "_law_other", gl := true, np := 1, iso := false, lam := false, N := ["letter"], body := [
    .ret (.ife (.cmp .eq (.var 0) (.lit (.str "right"))) (.lit (.str "left")) (.lit (.str "right")))] }
/-- _law_runs -/
def f17 : FDef := { nm := "_law_runs", gl := true, np := 2, iso := false, lam := false, N := ["source", "many", "lap", "letter", "runs", "far"], body := [
    .par [3, 4] [.call 14 [.var 0, .lst false [.lit (.str "left"), .lit (.str "right")]], .lst true []],
    .forr (.nm 2) .rng [.var 1] [.asg (.nm 5) (.bin .add (.lst false [.lit (.int 1), .lit (.int 1), .lit (.int 1), .lit (.int 2), .lit (.int 3), .lit (.int 9)]) (.bin .mul (.lst false [.bin .pow (.lit (.int 10)) (.lit (.int 12)), .bin .pow (.lit (.int 10)) (.lit (.int 40))]) (.bi .int [.cmp .lt (.var 1) (.lit (.int 5))]))), .expr (.meth .append (.var 4) [.tup [.var 3, .call 14 [.var 0, .var 5]]]), .asg (.nm 3) (.call 16 [.var 3])],
    .ret (.bi .tuple [.var 4])] }
/-- _law_gone -/
def f18 : FDef := { nm := "_law_gone", gl := true, np := 2, iso := true, lam := false, N := ["top", "bottom", "lap", "left", "right", "runs", "middle", "letter"], body := [
    .par [3, 4, 5] [.tup [.lit (.int 0), .lit (.int 1)], .tup [.lit (.int 1), .lit (.int 0)], .lst false []],
    .forr (.nm 2) .rng [.lit (.int 61)] [.asg (.nm 6) (.tup [.bin .add (.ix (.var 3) (.lit (.int 0))) (.ix (.var 4) (.lit (.int 0))), .bin .add (.ix (.var 3) (.lit (.int 1))) (.ix (.var 4) (.lit (.int 1)))]), .ife (.cmp .eq (.bin .mul (.ix (.var 6) (.lit (.int 0))) (.var 1)) (.bin .mul (.var 0) (.ix (.var 6) (.lit (.int 1))))) [.ret (.bi .tuple [.var 5])] [], .asg (.nm 7) (.ife (.cmp .lt (.bin .mul (.var 0) (.ix (.var 6) (.lit (.int 1)))) (.bin .mul (.ix (.var 6) (.lit (.int 0))) (.var 1))) (.lit (.str "left")) (.lit (.str "right"))), .asg (.tp [.nm 3, .nm 4]) (.ife (.cmp .eq (.var 7) (.lit (.str "left"))) (.tup [.var 3, .var 6]) (.tup [.var 6, .var 4])), .asg (.nm 5) (.ife (.and (.cmp .ne (.var 5) (.lst false [])) (.cmp .eq (.ix (.ix (.var 5) (.neg (.lit (.int 1)))) (.lit (.int 0))) (.var 7))) (.bin .add (.sl false (.var 5) [] [.neg (.lit (.int 1))]) (.lst false [.tup [.var 7, .bin .add (.ix (.ix (.var 5) (.neg (.lit (.int 1)))) (.lit (.int 1))) (.lit (.int 1))]])) (.bin .add (.var 5) (.lst false [.tup [.var 7, .lit (.int 1)]])))],
    .ret (.lit (.non))] }
/-- _law_least -/
def f19 : FDef := { nm := "_law_least", gl := true, np := 2, iso := true, lam := false, N := ["top", "bottom", "a", "b"], body := [
    .par [2, 3] [.bi .abs [.var 0], .var 1],
    .whl (.cmp .gt (.var 3) (.lit (.int 0))) [.par [2, 3] [.var 3, .bin .mod (.bi .int [.var 2]) (.var 3)]],
    .ret (.tup [.bin .fdiv (.var 0) (.var 2), .bin .fdiv (.var 1) (.var 2)])] }
/-- law -/
def f20 : FDef := { nm := "law", gl := true, np := 1, iso := false, lam := true, N := ["script", "source", "lap", "some", "many", "runs", "x", "top", "bottom", "side", "told", "letter", "late", "way"], body := [
    .asg (.nm 1) (.call 12 [.var 0]),
    .forr (.nm 2) .rng [.lit (.int 4)] [.asg (.nm 4) (.call 14 [.var 1, .lst false [.lit (.int 0), .lit (.int 1), .lit (.int 2), .lit (.int 4), .lit (.int 4), .lit (.int 9), .lit (.int 30), .lit (.int 199), .lit (.int 200), .lit (.int 201)]]), .asg (.nm 5) (.call 17 [.var 1, .var 4]), .asg (.tp [.nm 7, .nm 8]) (.call 15 [.var 5]), .forr (.tp [.nm 9, .nm 6]) .seq [.tup [.tup [.lit (.str "up"), .tup [.var 7, .var 8]], .tup [.lit (.str "down"), .tup [.bin .sub (.lit (.int 0)) (.var 8), .var 7]]]] [.asg (.nm 10) (.told 0 (.call 8 [.var 6])), .ife (.cmp .ne (.bi .repr [.var 10]) (.bi .repr [.ife (.cmp .lt (.var 4) (.lit (.int 201))) (.tup [.lit (.str "told"), .tup [.var 9, .var 5]]) (.tup [.lit (.str "great"), .lit (.int 3)])])) [.ret (.lit (.bl false))] [], .ife (.and (.cmp .lt (.var 4) (.lit (.int 201))) (.cmp .ne (.bi .repr [.call 11 [.tup [.var 9, .var 5]]]) (.bi .repr [.var 6]))) [.ret (.lit (.bl false))] []]],
    .forr (.nm 2) .rng [.lit (.int 8)] [.asg (.nm 6) (.call 19 [.bin .add (.lit (.int 1)) (.call 13 [.var 1, .lit (.int 30)]), .bin .add (.lit (.int 1)) (.call 13 [.var 1, .lit (.int 30)])]), .asg (.nm 5) (.call 18 [.ix (.var 6) (.lit (.int 0)), .ix (.var 6) (.lit (.int 1))]), .ife (.cmp .ne (.bi .repr [.lst false [.call 8 [.var 6], .call 8 [.tup [.bin .sub (.lit (.int 0)) (.ix (.var 6) (.lit (.int 1))), .ix (.var 6) (.lit (.int 0))]]]]) (.bi .repr [.lst false [.tup [.lit (.str "up"), .var 5], .tup [.lit (.str "down"), .var 5]]])) [.ret (.lit (.bl false))] [], .forr (.tp [.nm 11, .nm 12]) .seq [.tup [.tup [.lit (.str "right"), .tup [.bin .add (.ix (.var 6) (.lit (.int 0))) (.ix (.var 6) (.lit (.int 1))), .ix (.var 6) (.lit (.int 1))]], .tup [.lit (.str "left"), .tup [.ix (.var 6) (.lit (.int 0)), .bin .add (.ix (.var 6) (.lit (.int 0))) (.ix (.var 6) (.lit (.int 1)))]]]] [.asg (.nm 3) (.bin .add (.tup [.tup [.var 11, .lit (.int 1)]]) (.var 5)), .ife (.and (.cmp .ne (.var 5) (.tup [])) (.cmp .eq (.ix (.ix (.var 5) (.lit (.int 0))) (.lit (.int 0))) (.var 11))) [.asg (.nm 3) (.bin .add (.tup [.tup [.var 11, .bin .add (.ix (.ix (.var 5) (.lit (.int 0))) (.lit (.int 1))) (.lit (.int 1))]]) (.sl false (.var 5) [.lit (.int 1)] []))] [], .ife (.cmp .ne (.bi .repr [.call 8 [.var 12]]) (.bi .repr [.tup [.lit (.str "up"), .var 3]])) [.ret (.lit (.bl false))] []]],
    .asg (.nm 3) (.lst false [.tup [.tup [.lit (.int 0), .lit (.int 1)], .tup [.lit (.str "zero")]], .tup [.tup [.lit (.int 1), .lit (.int 0)], .tup [.lit (.str "top")]], .tup [.tup [.lit (.int 1), .lit (.int 1)], .tup [.lit (.str "up"), .tup []]], .tup [.tup [.neg (.lit (.int 1)), .lit (.int 1)], .tup [.lit (.str "down"), .tup []]]]),
    .ife (.cmp .ne (.bi .repr [.lc false (.call 8 [.var 6]) (.tp [.nm 6, .nm 13]) .seq [.var 3] [] [6, 13]]) (.bi .repr [.lc false (.var 13) (.tp [.nm 6, .nm 13]) .seq [.var 3] [] [6, 13]])) [.ret (.lit (.bl false))] [],
    .ret (.cmp .eq (.bi .repr [.lc false (.call 11 [.var 13]) (.tp [.nm 6, .nm 13]) .seq [.var 3] [] [6, 13]]) (.bi .repr [.lc false (.var 6) (.tp [.nm 6, .nm 13]) .seq [.var 3] [] [6, 13]]))] }
def Pg : Nat → Option FDef := fun i => [f0, f1, f2, f3, f4, f5, f6, f7, f8, f9, f10, f11, f12, f13, f14, f15, f16, f17, f18, f19, f20][i]?
def cn : Nat → Option (Str × D) := fun i => ([("MOST_FIGURES", .int 300), ("SURE_BITS", .int 997), ("LONG_NUMBER", .int 4), ("MOST_RUNS", .int 200), ("LONG_WAY", .int 3), ("LEFT", .str "left"), ("RIGHT", .str "right"), ("UP", .str "up"), ("DOWN", .str "down"), ("ZERO_WAY", .tup [.str "zero"]), ("TOP_WAY", .tup [.str "top"]), ("TURNED", .tup [.int 0, .int 1, .int (-1), .int 0])] : List (Str × D))[i]?
end K10

set_option Elab.async false
set_option linter.all false
set_option maxRecDepth 100000
namespace K10
open PySem L2 MP
def sg : Sg := { xf := fun i => ([["number"]] : List (List Str)).getD i [], Pg := Pg, cn := cn, xn := fun i => (["TooGreat"] : List Str)[i]?, tn := fun i => (["_law_told"] : List Str)[i]?, gc := true, iq := false }
def top (i : Nat) : Stmt := PySem.Challenge.pw_waylots_k10_ways_by_own_going.main.body.getD i (.Pass ⟨0, 0, 0, 0⟩)
theorem c0 : cSs sg f0.N f0.lam (defScope (top 8)) f0.body (defBody (top 8)) = true := by decide +kernel
theorem c1 : cSs sg f1.N f1.lam (defScope (top 9)) f1.body (defBody (top 9)) = true := by decide +kernel
theorem c2 : cSs sg f2.N f2.lam (defScope (top 13)) f2.body (defBody (top 13)) = true := by decide +kernel
theorem c3 : cSs sg f3.N f3.lam (defScope (top 15)) f3.body (defBody (top 15)) = true := by decide +kernel
theorem c4 : cSs sg f4.N f4.lam (defScope (top 19)) f4.body (defBody (top 19)) = true := by decide +kernel
theorem c5 : cSs sg f5.N f5.lam (defScope (top 30)) f5.body (defBody (top 30)) = true := by decide +kernel
theorem c6 : cSs sg f6.N f6.lam (defScope (top 32)) f6.body (defBody (top 32)) = true := by decide +kernel
theorem c7 : cSs sg f7.N f7.lam (defScope (top 37)) f7.body (defBody (top 37)) = true := by decide +kernel
theorem c8 : cSs sg f8.N f8.lam (defScope (top 38)) f8.body (defBody (top 38)) = true := by decide +kernel
theorem c9 : cSs sg f9.N f9.lam (defScope (top 39)) f9.body (defBody (top 39)) = true := by decide +kernel
theorem c10 : cSs sg f10.N f10.lam (defScope (top 40)) f10.body (defBody (top 40)) = true := by decide +kernel
theorem c11 : cSs sg f11.N f11.lam (defScope (top 41)) f11.body (defBody (top 41)) = true := by decide +kernel
theorem c12 : cSs sg f12.N f12.lam (defScope (top 43)) f12.body (defBody (top 43)) = true := by decide +kernel
theorem c13 : cSs sg f13.N f13.lam (defScope (top 44)) f13.body (defBody (top 44)) = true := by decide +kernel
theorem c14 : cSs sg f14.N f14.lam (defScope (top 45)) f14.body (defBody (top 45)) = true := by decide +kernel
theorem c15 : cSs sg f15.N f15.lam (defScope (top 47)) f15.body (defBody (top 47)) = true := by decide +kernel
theorem c16 : cSs sg f16.N f16.lam (defScope (top 48)) f16.body (defBody (top 48)) = true := by decide +kernel
theorem c17 : cSs sg f17.N f17.lam (defScope (top 49)) f17.body (defBody (top 49)) = true := by decide +kernel
theorem c18 : cSs sg f18.N f18.lam (defScope (top 50)) f18.body (defBody (top 50)) = true := by decide +kernel
theorem c19 : cSs sg f19.N f19.lam (defScope (top 51)) f19.body (defBody (top 51)) = true := by decide +kernel
theorem c20 : cSs sg f20.N f20.lam (defScope (top 52)) f20.body (defBody (top 52)) = true := by decide +kernel
end K10

set_option Elab.async false
set_option linter.all false
set_option maxRecDepth 100000
set_option maxHeartbeats 4000000
namespace MP
open PySem PySem.Spec PyProof.Rows L2 PySem.W
/-! ### the end: small words -/
section
variable {K : PySem.W.Frag}
theorem wrT_mk {a : Addr} {xs : List V} {od : Option Addr} {its : Array Value} {n : Nat} {sl : Array (Option Value)} (l : K.lookup a = some ⟨.type "tuple", od, .seq its n, sl⟩) (hs : its.size ≤ sizeLine) (r : Vals xs its.toList) : WrT K a xs := ⟨_, _, _, l, rfl, rfl, hs, r⟩
/-- a constant as the top has written it -/
structure ConOk (K : PySem.W.Frag) (mg : Str → Option Value) (x : Str) (d : D) (v : V) : Prop where
  at' : ∃ u, mg x = some u ∧ RelV v u
  re : ∀ F μ H, Rel K F μ H d v
theorem exm_own {S : Addr} (h1 : PySem.W.subIn K (.ref S) (.type "BaseException") = some true) (h2 : PySem.W.isClsIn K S = true) (h3 : PySem.W.typeIn K (.ref S) = some (.type "type")) (h4 : PySem.W.subIn K (.ref S) (.ref S) = some true) : PySem.W.exmOne K (.ref S) (.ref S) = some true := by
  have h2' : (PySem.W.clsIn K S).isSome = true := h2
  unfold PySem.W.exmOne
  rw [h1, if_pos (by rfl)]
  unfold PySem.W.kitCls
  simp only [h2', h3, h4]
  rfl
end
end MP

set_option Elab.async false
set_option linter.all false
set_option maxRecDepth 100000
set_option maxHeartbeats 8000000
namespace K10
open PySem L2 MP PySem.W LamX
/-- the defs' scopes -/
theorem s0 : FnScope f0.N ["number"] (defScope (top 8)) := ⟨rfl, rfl, rfl, by decide +kernel, rfl, by decide +kernel, by decide +kernel⟩
theorem s1 : FnScope f1.N ["numbers"] (defScope (top 9)) := ⟨rfl, rfl, rfl, by decide +kernel, rfl, by decide +kernel, by decide +kernel⟩
theorem s2 : FnScope f2.N ["top", "bottom"] (defScope (top 13)) := ⟨rfl, rfl, rfl, by decide +kernel, rfl, by decide +kernel, by decide +kernel⟩
theorem s3 : FnScope f3.N ["number"] (defScope (top 15)) := ⟨rfl, rfl, rfl, by decide +kernel, rfl, by decide +kernel, by decide +kernel⟩
theorem s4 : FnScope f4.N ["one", "number"] (defScope (top 19)) := ⟨rfl, rfl, rfl, by decide +kernel, rfl, by decide +kernel, by decide +kernel⟩
theorem s5 : FnScope f5.N ["runs"] (defScope (top 30)) := ⟨rfl, rfl, rfl, by decide +kernel, rfl, by decide +kernel, by decide +kernel⟩
theorem s6 : FnScope f6.N ["top", "bottom"] (defScope (top 32)) := ⟨rfl, rfl, rfl, by decide +kernel, rfl, by decide +kernel, by decide +kernel⟩
theorem s7 : FnScope f7.N ["number"] (defScope (top 37)) := ⟨rfl, rfl, rfl, by decide +kernel, rfl, by decide +kernel, by decide +kernel⟩
theorem s8 : FnScope f8.N ["number"] (defScope (top 38)) := ⟨rfl, rfl, rfl, by decide +kernel, rfl, by decide +kernel, by decide +kernel⟩
theorem s9 : FnScope f9.N ["edge", "runs"] (defScope (top 39)) := ⟨rfl, rfl, rfl, by decide +kernel, rfl, by decide +kernel, by decide +kernel⟩
theorem s10 : FnScope f10.N ["side"] (defScope (top 40)) := ⟨rfl, rfl, rfl, by decide +kernel, rfl, by decide +kernel, by decide +kernel⟩
theorem s11 : FnScope f11.N ["way"] (defScope (top 41)) := ⟨rfl, rfl, rfl, by decide +kernel, rfl, by decide +kernel, by decide +kernel⟩
theorem s12 : FnScope f12.N ["script"] (defScope (top 43)) := ⟨rfl, rfl, rfl, by decide +kernel, rfl, by decide +kernel, by decide +kernel⟩
theorem s13 : FnScope f13.N ["source", "many"] (defScope (top 44)) := ⟨rfl, rfl, rfl, by decide +kernel, rfl, by decide +kernel, by decide +kernel⟩
theorem s14 : FnScope f14.N ["source", "some"] (defScope (top 45)) := ⟨rfl, rfl, rfl, by decide +kernel, rfl, by decide +kernel, by decide +kernel⟩
theorem s15 : FnScope f15.N ["runs"] (defScope (top 47)) := ⟨rfl, rfl, rfl, by decide +kernel, rfl, by decide +kernel, by decide +kernel⟩
theorem s16 : FnScope f16.N ["letter"] (defScope (top 48)) := ⟨rfl, rfl, rfl, by decide +kernel, rfl, by decide +kernel, by decide +kernel⟩
theorem s17 : FnScope f17.N ["source", "many"] (defScope (top 49)) := ⟨rfl, rfl, rfl, by decide +kernel, rfl, by decide +kernel, by decide +kernel⟩
theorem s18 : FnScope f18.N ["top", "bottom"] (defScope (top 50)) := ⟨rfl, rfl, rfl, by decide +kernel, rfl, by decide +kernel, by decide +kernel⟩
theorem s19 : FnScope f19.N ["top", "bottom"] (defScope (top 51)) := ⟨rfl, rfl, rfl, by decide +kernel, rfl, by decide +kernel, by decide +kernel⟩
theorem s20 : FnScope f20.N ["script"] (defScope (top 52)) := ⟨rfl, rfl, rfl, by decide +kernel, rfl, by decide +kernel, by decide +kernel⟩
abbrev LawFacts (l : PySem.W.OpenLaw) (w : World) (K : PySem.W.Frag) (mg : Str → Option Value) (fa : Addr) (h : Heap) : Prop := LawG l w K 39 63 "script" mg fa h
abbrev Plain : Prop := ∀ ns : List Int, ns.length ≤ 63 → (∀ z ∈ ns, Builtin.Int.intBits z ≤ 1048576) → ∃ st', callN Pg 12 20 [.scr (ns.map D.int)] [] = .ok (.bl true) st'
theorem all_mk {l : PySem.W.OpenLaw} {w : World} {K : PySem.W.Frag} {h : Heap} {mg : Str → Option Value} {fa : Addr} {PT : Addr} (hTab : h.get? PT = some { cls := .none, data := .fields #[] }) (plain : Plain) (X : K.In h) (G : h.Ns mainGlobals mg) (hfa : mg "law" = some (.ref fa))
    {g0 : Addr} {od0 an0 : Option Addr} {sl0 : Array (Option Value)} {oc0 kV0 dc0 pm0 cd0 ct0 : Value}
    {g1 : Addr} {od1 an1 : Option Addr} {sl1 : Array (Option Value)} {oc1 kV1 dc1 pm1 cd1 ct1 : Value}
    {g2 : Addr} {od2 an2 : Option Addr} {sl2 : Array (Option Value)} {oc2 kV2 dc2 pm2 cd2 ct2 : Value}
    {g3 : Addr} {od3 an3 : Option Addr} {sl3 : Array (Option Value)} {oc3 kV3 dc3 pm3 cd3 ct3 : Value}
    {g4 : Addr} {od4 an4 : Option Addr} {sl4 : Array (Option Value)} {oc4 kV4 dc4 pm4 cd4 ct4 : Value}
    {g5 : Addr} {od5 an5 : Option Addr} {sl5 : Array (Option Value)} {oc5 kV5 dc5 pm5 cd5 ct5 : Value}
    {g6 : Addr} {od6 an6 : Option Addr} {sl6 : Array (Option Value)} {oc6 kV6 dc6 pm6 cd6 ct6 : Value}
    {g7 : Addr} {od7 an7 : Option Addr} {sl7 : Array (Option Value)} {oc7 kV7 dc7 pm7 cd7 ct7 : Value}
    {g8 : Addr} {od8 an8 : Option Addr} {sl8 : Array (Option Value)} {oc8 kV8 dc8 pm8 cd8 ct8 : Value}
    {g9 : Addr} {od9 an9 : Option Addr} {sl9 : Array (Option Value)} {oc9 kV9 dc9 pm9 cd9 ct9 : Value}
    {g10 : Addr} {od10 an10 : Option Addr} {sl10 : Array (Option Value)} {oc10 kV10 dc10 pm10 cd10 ct10 : Value}
    {g11 : Addr} {od11 an11 : Option Addr} {sl11 : Array (Option Value)} {oc11 kV11 dc11 pm11 cd11 ct11 : Value}
    {g12 : Addr} {od12 an12 : Option Addr} {sl12 : Array (Option Value)} {oc12 kV12 dc12 pm12 cd12 ct12 : Value}
    {g13 : Addr} {od13 an13 : Option Addr} {sl13 : Array (Option Value)} {oc13 kV13 dc13 pm13 cd13 ct13 : Value}
    {g14 : Addr} {od14 an14 : Option Addr} {sl14 : Array (Option Value)} {oc14 kV14 dc14 pm14 cd14 ct14 : Value}
    {g15 : Addr} {od15 an15 : Option Addr} {sl15 : Array (Option Value)} {oc15 kV15 dc15 pm15 cd15 ct15 : Value}
    {g16 : Addr} {od16 an16 : Option Addr} {sl16 : Array (Option Value)} {oc16 kV16 dc16 pm16 cd16 ct16 : Value}
    {g17 : Addr} {od17 an17 : Option Addr} {sl17 : Array (Option Value)} {oc17 kV17 dc17 pm17 cd17 ct17 : Value}
    {g18 : Addr} {od18 an18 : Option Addr} {sl18 : Array (Option Value)} {oc18 kV18 dc18 pm18 cd18 ct18 : Value}
    {g19 : Addr} {od19 an19 : Option Addr} {sl19 : Array (Option Value)} {oc19 kV19 dc19 pm19 cd19 ct19 : Value}
    {g20 : Addr} {od20 an20 : Option Addr} {sl20 : Array (Option Value)} {oc20 kV20 dc20 pm20 ct20 : Value}
    {cdL : Addr}
    {t0 : Tok}
    {t1 : Tok}
    {t2 : Tok}
    {t3 : Tok}
    {t4 : Tok}
    {t5 : Tok}
    {t6 : Tok}
    {t7 : Tok}
    {t8 : Tok}
    {q9 : Addr} {md9 : Option Addr} {mn9 : Nat} {ms9 : Array (Option Value)} {t9_0 : Tok}
    {q10 : Addr} {md10 : Option Addr} {mn10 : Nat} {ms10 : Array (Option Value)} {t10_0 : Tok}
    {q11 : Addr} {md11 : Option Addr} {mn11 : Nat} {ms11 : Array (Option Value)} {t11_0 t11_1 t11_2 t11_3 : Tok}
    {C : Addr} {xnm xq : Str} {NC : Addr} {bsC bmC : List Value} {snC : List Str} {subC : List Value} {abC : Bool} {colC : Option Bool} {ddC : Option Addr} {m0 m1 m2 m3 m5 : Option Value}
    {fI cdI ccI : Addr} {ocI kVI dcI pmI ctI cclI clI : Value} {odI anI cddI cldI : Option Addr} {slI ccsI cslI : Array (Option Value)} {vsI : Array Value} {fileI : Str} {tfI : Tok} {cdD : ClassData}
    {gT : Addr} {odT anT : Option Addr} {slT : Array (Option Value)} {ocT kVT dcT pmT cdT ctT : Value}
    (a0 : PySem.W.nsIn K mainGlobals "is_long" = some (some (.ref g0)))
    (l0 : K.lookup g0 = some ⟨oc0, od0, .func (PySem.W.fnOf "is_long" "is_long" (defArgs (top 8)) (defBody (top 8)) (defScope (top 8)) .none kV0 dc0 pm0 an0 cd0 ct0), sl0⟩)
    (c0_ : PySem.W.codeIn K cd0 "is_long" = true)
    (k0 : PySem.W.keepIn K (.ref g0) = true)
    (a1 : PySem.W.nsIn K mainGlobals "not_long_circlenumbers" = some (some (.ref g1)))
    (l1 : K.lookup g1 = some ⟨oc1, od1, .func (PySem.W.fnOf "not_long" "not_long" (defArgs (top 9)) (defBody (top 9)) (defScope (top 9)) .none kV1 dc1 pm1 an1 cd1 ct1), sl1⟩)
    (c1_ : PySem.W.codeIn K cd1 "not_long" = true)
    (k1 : PySem.W.keepIn K (.ref g1) = true)
    (a2 : PySem.W.nsIn K mainGlobals "fraction_told" = some (some (.ref g2)))
    (l2 : K.lookup g2 = some ⟨oc2, od2, .func (PySem.W.fnOf "fraction_told" "fraction_told" (defArgs (top 13)) (defBody (top 13)) (defScope (top 13)) .none kV2 dc2 pm2 an2 cd2 ct2), sl2⟩)
    (c2_ : PySem.W.codeIn K cd2 "fraction_told" = true)
    (k2 : PySem.W.keepIn K (.ref g2) = true)
    (a3 : PySem.W.nsIn K mainGlobals "number_floor" = some (some (.ref g3)))
    (l3 : K.lookup g3 = some ⟨oc3, od3, .func (PySem.W.fnOf "number_floor" "number_floor" (defArgs (top 15)) (defBody (top 15)) (defScope (top 15)) .none kV3 dc3 pm3 an3 cd3 ct3), sl3⟩)
    (c3_ : PySem.W.codeIn K cd3 "number_floor" = true)
    (k3 : PySem.W.keepIn K (.ref g3) = true)
    (a4 : PySem.W.nsIn K mainGlobals "map_led" = some (some (.ref g4)))
    (l4 : K.lookup g4 = some ⟨oc4, od4, .func (PySem.W.fnOf "map_led" "map_led" (defArgs (top 19)) (defBody (top 19)) (defScope (top 19)) .none kV4 dc4 pm4 an4 cd4 ct4), sl4⟩)
    (c4_ : PySem.W.codeIn K cd4 "map_led" = true)
    (k4 : PySem.W.keepIn K (.ref g4) = true)
    (a5 : PySem.W.nsIn K mainGlobals "not_long_ways" = some (some (.ref g5)))
    (l5 : K.lookup g5 = some ⟨oc5, od5, .func (PySem.W.fnOf "not_long" "not_long" (defArgs (top 30)) (defBody (top 30)) (defScope (top 30)) .none kV5 dc5 pm5 an5 cd5 ct5), sl5⟩)
    (c5_ : PySem.W.codeIn K cd5 "not_long" = true)
    (k5 : PySem.W.keepIn K (.ref g5) = true)
    (a6 : PySem.W.nsIn K mainGlobals "fraction_runs" = some (some (.ref g6)))
    (l6 : K.lookup g6 = some ⟨oc6, od6, .func (PySem.W.fnOf "fraction_runs" "fraction_runs" (defArgs (top 32)) (defBody (top 32)) (defScope (top 32)) .none kV6 dc6 pm6 an6 cd6 ct6), sl6⟩)
    (c6_ : PySem.W.codeIn K cd6 "fraction_runs" = true)
    (k6 : PySem.W.keepIn K (.ref g6) = true)
    (a7 : PySem.W.nsIn K mainGlobals "is_below" = some (some (.ref g7)))
    (l7 : K.lookup g7 = some ⟨oc7, od7, .func (PySem.W.fnOf "is_below" "is_below" (defArgs (top 37)) (defBody (top 37)) (defScope (top 37)) .none kV7 dc7 pm7 an7 cd7 ct7), sl7⟩)
    (c7_ : PySem.W.codeIn K cd7 "is_below" = true)
    (k7 : PySem.W.keepIn K (.ref g7) = true)
    (a8 : PySem.W.nsIn K mainGlobals "way_told" = some (some (.ref g8)))
    (l8 : K.lookup g8 = some ⟨oc8, od8, .func (PySem.W.fnOf "way_told" "way_told" (defArgs (top 38)) (defBody (top 38)) (defScope (top 38)) .none kV8 dc8 pm8 an8 cd8 ct8), sl8⟩)
    (c8_ : PySem.W.codeIn K cd8 "way_told" = true)
    (k8 : PySem.W.keepIn K (.ref g8) = true)
    (a9 : PySem.W.nsIn K mainGlobals "edge_behind" = some (some (.ref g9)))
    (l9 : K.lookup g9 = some ⟨oc9, od9, .func (PySem.W.fnOf "edge_behind" "edge_behind" (defArgs (top 39)) (defBody (top 39)) (defScope (top 39)) .none kV9 dc9 pm9 an9 cd9 ct9), sl9⟩)
    (c9_ : PySem.W.codeIn K cd9 "edge_behind" = true)
    (k9 : PySem.W.keepIn K (.ref g9) = true)
    (a10 : PySem.W.nsIn K mainGlobals "first_edge" = some (some (.ref g10)))
    (l10 : K.lookup g10 = some ⟨oc10, od10, .func (PySem.W.fnOf "first_edge" "first_edge" (defArgs (top 40)) (defBody (top 40)) (defScope (top 40)) .none kV10 dc10 pm10 an10 cd10 ct10), sl10⟩)
    (c10_ : PySem.W.codeIn K cd10 "first_edge" = true)
    (k10 : PySem.W.keepIn K (.ref g10) = true)
    (a11 : PySem.W.nsIn K mainGlobals "way_number" = some (some (.ref g11)))
    (l11 : K.lookup g11 = some ⟨oc11, od11, .func (PySem.W.fnOf "way_number" "way_number" (defArgs (top 41)) (defBody (top 41)) (defScope (top 41)) .none kV11 dc11 pm11 an11 cd11 ct11), sl11⟩)
    (c11_ : PySem.W.codeIn K cd11 "way_number" = true)
    (k11 : PySem.W.keepIn K (.ref g11) = true)
    (a12 : PySem.W.nsIn K mainGlobals "_law_source" = some (some (.ref g12)))
    (l12 : K.lookup g12 = some ⟨oc12, od12, .func (PySem.W.fnOf "_law_source" "_law_source" (defArgs (top 43)) (defBody (top 43)) (defScope (top 43)) .none kV12 dc12 pm12 an12 cd12 ct12), sl12⟩)
    (c12_ : PySem.W.codeIn K cd12 "_law_source" = true)
    (k12 : PySem.W.keepIn K (.ref g12) = true)
    (a13 : PySem.W.nsIn K mainGlobals "_law_pick" = some (some (.ref g13)))
    (l13 : K.lookup g13 = some ⟨oc13, od13, .func (PySem.W.fnOf "_law_pick" "_law_pick" (defArgs (top 44)) (defBody (top 44)) (defScope (top 44)) .none kV13 dc13 pm13 an13 cd13 ct13), sl13⟩)
    (c13_ : PySem.W.codeIn K cd13 "_law_pick" = true)
    (k13 : PySem.W.keepIn K (.ref g13) = true)
    (a14 : PySem.W.nsIn K mainGlobals "_law_of" = some (some (.ref g14)))
    (l14 : K.lookup g14 = some ⟨oc14, od14, .func (PySem.W.fnOf "_law_of" "_law_of" (defArgs (top 45)) (defBody (top 45)) (defScope (top 45)) .none kV14 dc14 pm14 an14 cd14 ct14), sl14⟩)
    (c14_ : PySem.W.codeIn K cd14 "_law_of" = true)
    (k14 : PySem.W.keepIn K (.ref g14) = true)
    (a15 : PySem.W.nsIn K mainGlobals "_law_number" = some (some (.ref g15)))
    (l15 : K.lookup g15 = some ⟨oc15, od15, .func (PySem.W.fnOf "_law_number" "_law_number" (defArgs (top 47)) (defBody (top 47)) (defScope (top 47)) .none kV15 dc15 pm15 an15 cd15 ct15), sl15⟩)
    (c15_ : PySem.W.codeIn K cd15 "_law_number" = true)
    (k15 : PySem.W.keepIn K (.ref g15) = true)
    (a16 : PySem.W.nsIn K mainGlobals "_law_other" = some (some (.ref g16)))
    (l16 : K.lookup g16 = some ⟨oc16, od16, .func (PySem.W.fnOf "_law_other" "_law_other" (defArgs (top 48)) (defBody (top 48)) (defScope (top 48)) .none kV16 dc16 pm16 an16 cd16 ct16), sl16⟩)
    (c16_ : PySem.W.codeIn K cd16 "_law_other" = true)
    (k16 : PySem.W.keepIn K (.ref g16) = true)
    (a17 : PySem.W.nsIn K mainGlobals "_law_runs" = some (some (.ref g17)))
    (l17 : K.lookup g17 = some ⟨oc17, od17, .func (PySem.W.fnOf "_law_runs" "_law_runs" (defArgs (top 49)) (defBody (top 49)) (defScope (top 49)) .none kV17 dc17 pm17 an17 cd17 ct17), sl17⟩)
    (c17_ : PySem.W.codeIn K cd17 "_law_runs" = true)
    (k17 : PySem.W.keepIn K (.ref g17) = true)
    (a18 : PySem.W.nsIn K mainGlobals "_law_gone" = some (some (.ref g18)))
    (l18 : K.lookup g18 = some ⟨oc18, od18, .func (PySem.W.fnOf "_law_gone" "_law_gone" (defArgs (top 50)) (defBody (top 50)) (defScope (top 50)) .none kV18 dc18 pm18 an18 cd18 ct18), sl18⟩)
    (c18_ : PySem.W.codeIn K cd18 "_law_gone" = true)
    (k18 : PySem.W.keepIn K (.ref g18) = true)
    (a19 : PySem.W.nsIn K mainGlobals "_law_least" = some (some (.ref g19)))
    (l19 : K.lookup g19 = some ⟨oc19, od19, .func (PySem.W.fnOf "_law_least" "_law_least" (defArgs (top 51)) (defBody (top 51)) (defScope (top 51)) .none kV19 dc19 pm19 an19 cd19 ct19), sl19⟩)
    (c19_ : PySem.W.codeIn K cd19 "_law_least" = true)
    (k19 : PySem.W.keepIn K (.ref g19) = true)
    (a20 : PySem.W.nsIn K mainGlobals "law" = some (some (.ref g20)))
    (l20 : K.lookup g20 = some ⟨oc20, od20, .func (PySem.W.fnOf "law" "law" (defArgs (top 52)) (defBody (top 52)) (defScope (top 52)) .none kV20 dc20 pm20 an20 (.ref cdL) ct20), sl20⟩)
    (c20_ : PySem.W.codeIn K (.ref cdL) "law" = true)
    (k20 : PySem.W.keepIn K (.ref g20) = true)
    (hd : PySem.W.codeHdIn K cdL PT = true)
    (tk : K.lookup PT = none)
    (n0 : PySem.W.nsIn K mainGlobals "MOST_FIGURES" = some (some (.int (300) t0)))
    (n1 : PySem.W.nsIn K mainGlobals "SURE_BITS" = some (some (.int (997) t1)))
    (n2 : PySem.W.nsIn K mainGlobals "LONG_NUMBER" = some (some (.int (4) t2)))
    (n3 : PySem.W.nsIn K mainGlobals "MOST_RUNS" = some (some (.int (200) t3)))
    (n4 : PySem.W.nsIn K mainGlobals "LONG_WAY" = some (some (.int (3) t4)))
    (n5 : PySem.W.nsIn K mainGlobals "LEFT" = some (some (.str "left" t5)))
    (n6 : PySem.W.nsIn K mainGlobals "RIGHT" = some (some (.str "right" t6)))
    (n7 : PySem.W.nsIn K mainGlobals "UP" = some (some (.str "up" t7)))
    (n8 : PySem.W.nsIn K mainGlobals "DOWN" = some (some (.str "down" t8)))
    (n9 : PySem.W.nsIn K mainGlobals "ZERO_WAY" = some (some (.ref q9)))
    (m9 : K.lookup q9 = some ⟨.type "tuple", md9, .seq #[.str "zero" t9_0] mn9, ms9⟩)
    (n10 : PySem.W.nsIn K mainGlobals "TOP_WAY" = some (some (.ref q10)))
    (m10 : K.lookup q10 = some ⟨.type "tuple", md10, .seq #[.str "top" t10_0] mn10, ms10⟩)
    (n11 : PySem.W.nsIn K mainGlobals "TURNED" = some (some (.ref q11)))
    (m11 : K.lookup q11 = some ⟨.type "tuple", md11, .seq #[.int (0) t11_0, .int (1) t11_1, .int (-1) t11_2, .int (0) t11_3] mn11, ms11⟩)
    (b_abs : PySem.W.nsIn K mainGlobals "abs" = some none)
    (b_len : PySem.W.nsIn K mainGlobals "len" = some none)
    (b_max : PySem.W.nsIn K mainGlobals "max" = some none)
    (b_min : PySem.W.nsIn K mainGlobals "min" = some none)
    (b_int : PySem.W.nsIn K mainGlobals "int" = some none)
    (b_str : PySem.W.nsIn K mainGlobals "str" = some none)
    (b_repr : PySem.W.nsIn K mainGlobals "repr" = some none)
    (b_tuple : PySem.W.nsIn K mainGlobals "tuple" = some none)
    (b_all : PySem.W.nsIn K mainGlobals "all" = some none)
    (b_any : PySem.W.nsIn K mainGlobals "any" = some none)
    (b_sum : PySem.W.nsIn K mainGlobals "sum" = some none)
    (b_range : PySem.W.nsIn K mainGlobals "range" = some none)
    (b_list : PySem.W.nsIn K mainGlobals "list" = some none)
    (b_dict : PySem.W.nsIn K mainGlobals "dict" = some none)
    (b_enumerate : PySem.W.nsIn K mainGlobals "enumerate" = some none)
    (b_zip : PySem.W.nsIn K mainGlobals "zip" = some none)
    (gcd_ : PySem.W.nsIn K mainGlobals "gcd" = some (some (.builtin "math.gcd")))
    (aC : PySem.W.nsIn K mainGlobals "TooGreat" = some (some (.ref C)))
    (xC : K.lookup C = some (excClassObj xnm xq C NC bsC bmC true snC subC abC colC ddC m0 m1 m2 m3 m5 "ValueError.__new__"))
    (rC : PySem.HandSPX.refsVE bmC = true)
    (saC : PySem.W.findIn K (.ref C) "__setattr__" = some (some (.builtin "object.__setattr__")))
    (exC : PySem.W.subIn K (.ref C) (.type "BaseException") = some true)
    (tyC : PySem.W.typeIn K (.ref C) = some (.type "type"))
    (kC : PySem.W.keepIn K (.ref C) = true)
    (iC : PySem.W.isClsIn K C = true)
    (sC : PySem.W.subIn K (.ref C) (.ref C) = some true)
    (gaC : PySem.W.findIn K (.ref C) "__getattribute__" = some (some (.builtin "BaseException.__getattribute__")))
    (ggC : PySem.W.findIn K (.ref C) "__getattr__" = some none)
    (hdC : PySem.W.hasDictIn K C = true)
    (nfC : PySem.W.findIn K (.ref C) "number" = some none)
    (inC : PySem.W.findIn K (.ref C) "__init__" = some (some (.ref fI)))
    (tyI : PySem.W.typeIn K (.ref fI) = some (.type "function"))
    (lI : K.lookup fI = some ⟨ocI, odI, .func (ksFn "__init__" "TooGreat.__init__" (defArgs (inClass (top 3) 0)) (defBody (inClass (top 3) 0)) (defScope (inClass (top 3) 0)) .none kVI dcI pmI anI (.ref cdI) ctI ccI), slI⟩)
    (cI : PySem.W.codeIn K (.ref cdI) "TooGreat.__init__" = true)
    (kcI : K.lookup cdI = some ⟨cclI, cddI, .fields vsI, ccsI⟩)
    (v2I : vsI[2]? = some (.str fileI tfI))
    (flI : ((l.prog.main.file : Str) == fileI) = true)
    (ccl : K.lookup ccI = some ⟨clI, cldI, .cell (some (.ref C)), cslI⟩)
    (clC : PySem.W.clsIn K C = some cdD)
    (mrC : PySem.W.mroIn K C (.ref C) = some true)
    (supG : PySem.W.nsIn K mainGlobals "super" = some none)
    (thr : PySem.W.nsIn K cStatics "thirdparty.any" = some none)
    (alo : PySem.W.ks_superIn K C C "__init__" = some (some (.builtin "ValueError.__init__")))
    (sbV : PySem.W.subIn K (.ref C) (.type "ValueError") = some true)
    (topS : (l.prog.main.scope.names.lookup ("super" : Str)).isSome = false)
    (aT : PySem.W.nsIn K mainGlobals "_law_told" = some (some (.ref gT)))
    (lT : K.lookup gT = some ⟨ocT, odT, .func (PySem.W.fnOf "_law_told" "_law_told" (defArgs (top 46)) (defBody (top 46)) (defScope (top 46)) .none kVT dcT pmT anT cdT ctT), slT⟩)
    (cT : PySem.W.codeIn K cdT "_law_told" = true)
    (kT : PySem.W.keepIn K (.ref gT) = true)
    : LawFacts l w K mg fa h := by
  have e := hfa.symm.trans (mg_of X G a20)
  cases e
  have F0 := fun_mk (st := top 8) l0 c0_ k0
  have B0 := F0.binds (ps := ["number"]) fun _ _ _ _ _ _ us hl => match us, hl with | [_], _ => rfl
  have F1 := fun_mk (st := top 9) l1 c1_ k1
  have B1 := F1.binds (ps := ["numbers"]) fun _ _ _ _ _ _ us hl => match us, hl with | [_], _ => rfl
  have F2 := fun_mk (st := top 13) l2 c2_ k2
  have B2 := F2.binds (ps := ["top", "bottom"]) fun _ _ _ _ _ _ us hl => match us, hl with | [_, _], _ => rfl
  have F3 := fun_mk (st := top 15) l3 c3_ k3
  have B3 := F3.binds (ps := ["number"]) fun _ _ _ _ _ _ us hl => match us, hl with | [_], _ => rfl
  have F4 := fun_mk (st := top 19) l4 c4_ k4
  have B4 := F4.binds (ps := ["one", "number"]) fun _ _ _ _ _ _ us hl => match us, hl with | [_, _], _ => rfl
  have F5 := fun_mk (st := top 30) l5 c5_ k5
  have B5 := F5.binds (ps := ["runs"]) fun _ _ _ _ _ _ us hl => match us, hl with | [_], _ => rfl
  have F6 := fun_mk (st := top 32) l6 c6_ k6
  have B6 := F6.binds (ps := ["top", "bottom"]) fun _ _ _ _ _ _ us hl => match us, hl with | [_, _], _ => rfl
  have F7 := fun_mk (st := top 37) l7 c7_ k7
  have B7 := F7.binds (ps := ["number"]) fun _ _ _ _ _ _ us hl => match us, hl with | [_], _ => rfl
  have F8 := fun_mk (st := top 38) l8 c8_ k8
  have B8 := F8.binds (ps := ["number"]) fun _ _ _ _ _ _ us hl => match us, hl with | [_], _ => rfl
  have F9 := fun_mk (st := top 39) l9 c9_ k9
  have B9 := F9.binds (ps := ["edge", "runs"]) fun _ _ _ _ _ _ us hl => match us, hl with | [_, _], _ => rfl
  have F10 := fun_mk (st := top 40) l10 c10_ k10
  have B10 := F10.binds (ps := ["side"]) fun _ _ _ _ _ _ us hl => match us, hl with | [_], _ => rfl
  have F11 := fun_mk (st := top 41) l11 c11_ k11
  have B11 := F11.binds (ps := ["way"]) fun _ _ _ _ _ _ us hl => match us, hl with | [_], _ => rfl
  have F12 := fun_mk (st := top 43) l12 c12_ k12
  have B12 := F12.binds (ps := ["script"]) fun _ _ _ _ _ _ us hl => match us, hl with | [_], _ => rfl
  have F13 := fun_mk (st := top 44) l13 c13_ k13
  have B13 := F13.binds (ps := ["source", "many"]) fun _ _ _ _ _ _ us hl => match us, hl with | [_, _], _ => rfl
  have F14 := fun_mk (st := top 45) l14 c14_ k14
  have B14 := F14.binds (ps := ["source", "some"]) fun _ _ _ _ _ _ us hl => match us, hl with | [_, _], _ => rfl
  have F15 := fun_mk (st := top 47) l15 c15_ k15
  have B15 := F15.binds (ps := ["runs"]) fun _ _ _ _ _ _ us hl => match us, hl with | [_], _ => rfl
  have F16 := fun_mk (st := top 48) l16 c16_ k16
  have B16 := F16.binds (ps := ["letter"]) fun _ _ _ _ _ _ us hl => match us, hl with | [_], _ => rfl
  have F17 := fun_mk (st := top 49) l17 c17_ k17
  have B17 := F17.binds (ps := ["source", "many"]) fun _ _ _ _ _ _ us hl => match us, hl with | [_, _], _ => rfl
  have F18 := fun_mk (st := top 50) l18 c18_ k18
  have B18 := F18.binds (ps := ["top", "bottom"]) fun _ _ _ _ _ _ us hl => match us, hl with | [_, _], _ => rfl
  have F19 := fun_mk (st := top 51) l19 c19_ k19
  have B19 := F19.binds (ps := ["top", "bottom"]) fun _ _ _ _ _ _ us hl => match us, hl with | [_, _], _ => rfl
  have F20 := fun_mk (st := top 52) l20 c20_ k20
  have B20 := F20.binds (ps := ["script"]) fun _ _ _ _ _ _ us hl => match us, hl with | [_], _ => rfl
  let U : Wd := { sg with cls := ⟨fun _ => C, [(PT, "law.<locals>.<lambda>")]⟩, fa := fun i => ([g0, g1, g2, g3, g4, g5, g6, g7, g8, g9, g10, g11, g12, g13, g14, g15, g16, g17, g18, g19, fa] : List Addr).getD i 0, fdat := fun i => ([PySem.W.fnOf "is_long" "is_long" (defArgs (top 8)) (defBody (top 8)) (defScope (top 8)) .none kV0 dc0 pm0 an0 cd0 ct0, PySem.W.fnOf "not_long" "not_long" (defArgs (top 9)) (defBody (top 9)) (defScope (top 9)) .none kV1 dc1 pm1 an1 cd1 ct1, PySem.W.fnOf "fraction_told" "fraction_told" (defArgs (top 13)) (defBody (top 13)) (defScope (top 13)) .none kV2 dc2 pm2 an2 cd2 ct2, PySem.W.fnOf "number_floor" "number_floor" (defArgs (top 15)) (defBody (top 15)) (defScope (top 15)) .none kV3 dc3 pm3 an3 cd3 ct3, PySem.W.fnOf "map_led" "map_led" (defArgs (top 19)) (defBody (top 19)) (defScope (top 19)) .none kV4 dc4 pm4 an4 cd4 ct4, PySem.W.fnOf "not_long" "not_long" (defArgs (top 30)) (defBody (top 30)) (defScope (top 30)) .none kV5 dc5 pm5 an5 cd5 ct5, PySem.W.fnOf "fraction_runs" "fraction_runs" (defArgs (top 32)) (defBody (top 32)) (defScope (top 32)) .none kV6 dc6 pm6 an6 cd6 ct6, PySem.W.fnOf "is_below" "is_below" (defArgs (top 37)) (defBody (top 37)) (defScope (top 37)) .none kV7 dc7 pm7 an7 cd7 ct7, PySem.W.fnOf "way_told" "way_told" (defArgs (top 38)) (defBody (top 38)) (defScope (top 38)) .none kV8 dc8 pm8 an8 cd8 ct8, PySem.W.fnOf "edge_behind" "edge_behind" (defArgs (top 39)) (defBody (top 39)) (defScope (top 39)) .none kV9 dc9 pm9 an9 cd9 ct9, PySem.W.fnOf "first_edge" "first_edge" (defArgs (top 40)) (defBody (top 40)) (defScope (top 40)) .none kV10 dc10 pm10 an10 cd10 ct10, PySem.W.fnOf "way_number" "way_number" (defArgs (top 41)) (defBody (top 41)) (defScope (top 41)) .none kV11 dc11 pm11 an11 cd11 ct11, PySem.W.fnOf "_law_source" "_law_source" (defArgs (top 43)) (defBody (top 43)) (defScope (top 43)) .none kV12 dc12 pm12 an12 cd12 ct12, PySem.W.fnOf "_law_pick" "_law_pick" (defArgs (top 44)) (defBody (top 44)) (defScope (top 44)) .none kV13 dc13 pm13 an13 cd13 ct13, PySem.W.fnOf "_law_of" "_law_of" (defArgs (top 45)) (defBody (top 45)) (defScope (top 45)) .none kV14 dc14 pm14 an14 cd14 ct14, PySem.W.fnOf "_law_number" "_law_number" (defArgs (top 47)) (defBody (top 47)) (defScope (top 47)) .none kV15 dc15 pm15 an15 cd15 ct15, PySem.W.fnOf "_law_other" "_law_other" (defArgs (top 48)) (defBody (top 48)) (defScope (top 48)) .none kV16 dc16 pm16 an16 cd16 ct16, PySem.W.fnOf "_law_runs" "_law_runs" (defArgs (top 49)) (defBody (top 49)) (defScope (top 49)) .none kV17 dc17 pm17 an17 cd17 ct17, PySem.W.fnOf "_law_gone" "_law_gone" (defArgs (top 50)) (defBody (top 50)) (defScope (top 50)) .none kV18 dc18 pm18 an18 cd18 ct18, PySem.W.fnOf "_law_least" "_law_least" (defArgs (top 51)) (defBody (top 51)) (defScope (top 51)) .none kV19 dc19 pm19 an19 cd19 ct19, PySem.W.fnOf "law" "law" (defArgs (top 52)) (defBody (top 52)) (defScope (top 52)) .none kV20 dc20 pm20 an20 (.ref cdL) ct20] : List FuncData).getD i (PySem.W.fnOf "is_long" "is_long" (defArgs (top 8)) (defBody (top 8)) (defScope (top 8)) .none kV0 dc0 pm0 an0 cd0 ct0), ps := fun i => ([["number"], ["numbers"], ["top", "bottom"], ["number"], ["one", "number"], ["runs"], ["top", "bottom"], ["number"], ["number"], ["edge", "runs"], ["side"], ["way"], ["script"], ["source", "many"], ["source", "some"], ["runs"], ["letter"], ["source", "many"], ["top", "bottom"], ["top", "bottom"], ["script"]] : List (List Str)).getD i [], cd := fun i => ([.int (300), .int (997), .int (4), .int (200), .int (3), .str "left", .str "right", .str "up", .str "down", .ref q9, .ref q10, .ref q11] : List V).getD i .non }
  have gls : Gls U K mg := by
    refine ⟨fun f fd hf _ => ?_, fun f fd hf => ?_, fun k x d hk => ?_, fun x hx => ?_, fun hg => ?_, fun hg => ?_⟩
    · match f, hf with
      | 0, hf => obtain rfl : f0 = fd := Option.some.inj hf; exact ⟨mg_of X G a0, k0⟩
      | 1, hf => obtain rfl : f1 = fd := Option.some.inj hf; exact ⟨mg_of X G a1, k1⟩
      | 2, hf => obtain rfl : f2 = fd := Option.some.inj hf; exact ⟨mg_of X G a2, k2⟩
      | 3, hf => obtain rfl : f3 = fd := Option.some.inj hf; exact ⟨mg_of X G a3, k3⟩
      | 4, hf => obtain rfl : f4 = fd := Option.some.inj hf; exact ⟨mg_of X G a4, k4⟩
      | 5, hf => obtain rfl : f5 = fd := Option.some.inj hf; exact ⟨mg_of X G a5, k5⟩
      | 6, hf => obtain rfl : f6 = fd := Option.some.inj hf; exact ⟨mg_of X G a6, k6⟩
      | 7, hf => obtain rfl : f7 = fd := Option.some.inj hf; exact ⟨mg_of X G a7, k7⟩
      | 8, hf => obtain rfl : f8 = fd := Option.some.inj hf; exact ⟨mg_of X G a8, k8⟩
      | 9, hf => obtain rfl : f9 = fd := Option.some.inj hf; exact ⟨mg_of X G a9, k9⟩
      | 10, hf => obtain rfl : f10 = fd := Option.some.inj hf; exact ⟨mg_of X G a10, k10⟩
      | 11, hf => obtain rfl : f11 = fd := Option.some.inj hf; exact ⟨mg_of X G a11, k11⟩
      | 12, hf => obtain rfl : f12 = fd := Option.some.inj hf; exact ⟨mg_of X G a12, k12⟩
      | 13, hf => obtain rfl : f13 = fd := Option.some.inj hf; exact ⟨mg_of X G a13, k13⟩
      | 14, hf => obtain rfl : f14 = fd := Option.some.inj hf; exact ⟨mg_of X G a14, k14⟩
      | 15, hf => obtain rfl : f15 = fd := Option.some.inj hf; exact ⟨mg_of X G a15, k15⟩
      | 16, hf => obtain rfl : f16 = fd := Option.some.inj hf; exact ⟨mg_of X G a16, k16⟩
      | 17, hf => obtain rfl : f17 = fd := Option.some.inj hf; exact ⟨mg_of X G a17, k17⟩
      | 18, hf => obtain rfl : f18 = fd := Option.some.inj hf; exact ⟨mg_of X G a18, k18⟩
      | 19, hf => obtain rfl : f19 = fd := Option.some.inj hf; exact ⟨mg_of X G a19, k19⟩
      | 20, hf => obtain rfl : f20 = fd := Option.some.inj hf; exact ⟨mg_of X G a20, k20⟩
      | _ + 21, hf => cases hf
    · match f, hf with
      | 0, hf => obtain rfl : f0 = fd := Option.some.inj hf; rfl
      | 1, hf => obtain rfl : f1 = fd := Option.some.inj hf; rfl
      | 2, hf => obtain rfl : f2 = fd := Option.some.inj hf; rfl
      | 3, hf => obtain rfl : f3 = fd := Option.some.inj hf; rfl
      | 4, hf => obtain rfl : f4 = fd := Option.some.inj hf; rfl
      | 5, hf => obtain rfl : f5 = fd := Option.some.inj hf; rfl
      | 6, hf => obtain rfl : f6 = fd := Option.some.inj hf; rfl
      | 7, hf => obtain rfl : f7 = fd := Option.some.inj hf; rfl
      | 8, hf => obtain rfl : f8 = fd := Option.some.inj hf; rfl
      | 9, hf => obtain rfl : f9 = fd := Option.some.inj hf; rfl
      | 10, hf => obtain rfl : f10 = fd := Option.some.inj hf; rfl
      | 11, hf => obtain rfl : f11 = fd := Option.some.inj hf; rfl
      | 12, hf => obtain rfl : f12 = fd := Option.some.inj hf; rfl
      | 13, hf => obtain rfl : f13 = fd := Option.some.inj hf; rfl
      | 14, hf => obtain rfl : f14 = fd := Option.some.inj hf; rfl
      | 15, hf => obtain rfl : f15 = fd := Option.some.inj hf; rfl
      | 16, hf => obtain rfl : f16 = fd := Option.some.inj hf; rfl
      | 17, hf => obtain rfl : f17 = fd := Option.some.inj hf; rfl
      | 18, hf => obtain rfl : f18 = fd := Option.some.inj hf; rfl
      | 19, hf => obtain rfl : f19 = fd := Option.some.inj hf; rfl
      | 20, hf => obtain rfl : f20 = fd := Option.some.inj hf; rfl
      | _ + 21, hf => cases hf
    · match k, hk with
      | 0, hk => obtain ⟨rfl, rfl⟩ := Prod.mk.inj (Option.some.inj hk); exact ⟨⟨_, mg_of X G n0, ⟨_, rfl⟩⟩, fun _ _ _ => .int _⟩
      | 1, hk => obtain ⟨rfl, rfl⟩ := Prod.mk.inj (Option.some.inj hk); exact ⟨⟨_, mg_of X G n1, ⟨_, rfl⟩⟩, fun _ _ _ => .int _⟩
      | 2, hk => obtain ⟨rfl, rfl⟩ := Prod.mk.inj (Option.some.inj hk); exact ⟨⟨_, mg_of X G n2, ⟨_, rfl⟩⟩, fun _ _ _ => .int _⟩
      | 3, hk => obtain ⟨rfl, rfl⟩ := Prod.mk.inj (Option.some.inj hk); exact ⟨⟨_, mg_of X G n3, ⟨_, rfl⟩⟩, fun _ _ _ => .int _⟩
      | 4, hk => obtain ⟨rfl, rfl⟩ := Prod.mk.inj (Option.some.inj hk); exact ⟨⟨_, mg_of X G n4, ⟨_, rfl⟩⟩, fun _ _ _ => .int _⟩
      | 5, hk => obtain ⟨rfl, rfl⟩ := Prod.mk.inj (Option.some.inj hk); exact ⟨⟨_, mg_of X G n5, ⟨_, rfl⟩⟩, fun _ _ _ => .str _⟩
      | 6, hk => obtain ⟨rfl, rfl⟩ := Prod.mk.inj (Option.some.inj hk); exact ⟨⟨_, mg_of X G n6, ⟨_, rfl⟩⟩, fun _ _ _ => .str _⟩
      | 7, hk => obtain ⟨rfl, rfl⟩ := Prod.mk.inj (Option.some.inj hk); exact ⟨⟨_, mg_of X G n7, ⟨_, rfl⟩⟩, fun _ _ _ => .str _⟩
      | 8, hk => obtain ⟨rfl, rfl⟩ := Prod.mk.inj (Option.some.inj hk); exact ⟨⟨_, mg_of X G n8, ⟨_, rfl⟩⟩, fun _ _ _ => .str _⟩
      | 9, hk => obtain ⟨rfl, rfl⟩ := Prod.mk.inj (Option.some.inj hk); exact ⟨⟨_, mg_of X G n9, rfl⟩, fun _ _ _ => .tupK (wrT_mk (xs := [.str "zero"]) m9 (by show _ ≤ sizeLine; exact (by decide : 1 ≤ sizeLine)) (.cons ⟨_, rfl⟩ (.nil))) (.cons (.str _) (.nil))⟩
      | 10, hk => obtain ⟨rfl, rfl⟩ := Prod.mk.inj (Option.some.inj hk); exact ⟨⟨_, mg_of X G n10, rfl⟩, fun _ _ _ => .tupK (wrT_mk (xs := [.str "top"]) m10 (by show _ ≤ sizeLine; exact (by decide : 1 ≤ sizeLine)) (.cons ⟨_, rfl⟩ (.nil))) (.cons (.str _) (.nil))⟩
      | 11, hk => obtain ⟨rfl, rfl⟩ := Prod.mk.inj (Option.some.inj hk); exact ⟨⟨_, mg_of X G n11, rfl⟩, fun _ _ _ => .tupK (wrT_mk (xs := [.int (0), .int (1), .int (-1), .int (0)]) m11 (by show _ ≤ sizeLine; exact (by decide : 4 ≤ sizeLine)) (.cons ⟨_, rfl⟩ (.cons ⟨_, rfl⟩ (.cons ⟨_, rfl⟩ (.cons ⟨_, rfl⟩ (.nil)))))) (.cons (.int _) (.cons (.int _) (.cons (.int _) (.cons (.int _) (.nil)))))⟩
      | _ + 12, hk => cases hk
    · rcases hx with rfl | rfl | rfl | rfl | rfl | rfl | rfl | rfl | rfl | rfl | rfl | rfl | rfl | rfl | rfl | rfl <;> first | exact mg_none_of X G b_abs | exact mg_none_of X G b_len | exact mg_none_of X G b_max | exact mg_none_of X G b_min | exact mg_none_of X G b_int | exact mg_none_of X G b_str | exact mg_none_of X G b_repr | exact mg_none_of X G b_tuple | exact mg_none_of X G b_all | exact mg_none_of X G b_any | exact mg_none_of X G b_sum | exact mg_none_of X G b_range | exact mg_none_of X G b_list | exact mg_none_of X G b_dict | exact mg_none_of X G b_enumerate | exact mg_none_of X G b_zip
    · exact mg_of X G gcd_
    · cases hg
  have oex : OexC K C := ⟨⟨_, _, _, _, _, _, _, _, _, _, _, _, _, _, _, xC, rC⟩, saC, exC, tyC, kC⟩
  have xin : XInit l.prog K mg C fI "TooGreat" "TooGreat.__init__" "number" "number" (inClass (top 3) 0) (ksFn "__init__" "TooGreat.__init__" (defArgs (inClass (top 3) 0)) (defBody (inClass (top 3) 0)) (defScope (inClass (top 3) 0)) .none kVI dcI pmI anI (.ref cdI) ctI ccI) := {
    oex := oex, init := inC, ty := tyI, mgC := mg_of X G aC, fdEx := ⟨_, _, _, _, _, _, _, _, _, _, _, _, _, _, _, _, _, _, _, _, _, rfl, lI, cI, kcI, v2I, flI, ccl, clC⟩,
    sub := mrC, sup := supG, third := thr, along := alo, subV := sbV, fldC := nfC, top := topS, body := by refine ⟨_, _, _, _, _, _, _, _, _, _, ?_, rfl⟩; rfl,
    head := by rfl, sc := ⟨rfl, rfl, rfl, by decide +kernel, rfl, by decide +kernel, by decide +kernel, by decide +kernel, by decide +kernel⟩, ks := by rfl, okA := by decide +kernel,
    bd := Binds.all (fun us hl => match us, hl with | [_, _], _ => rfl), kp := kC }
  have mkx : ∀ (base : Heap) (n : Nat), MkX U n l.prog w K mg base := fun base n => mkx_of fun c nm hc => by
    match c, hc with
    | 0, hc => obtain rfl := Option.some.inj hc; exact ⟨fI, _, _, _, _, _, xin, rfl, by decide +kernel⟩
    | _ + 1, hc => cases hc
  have told : ToldX K mg C "number" "_law_told" gT "call" "TooGreat" "error" (defArgs (top 46)) (defBody (top 46)) (defScope (top 46)) .none kVT dcT pmT cdT ctT anT := {
    mgx := mg_of X G aT, kx := kT, lk := ⟨_, _, _, lT⟩, cd := cT, bd := Binds.all (fun us hl => match us, hl with | [_], _ => rfl),
    sc := ⟨rfl, rfl, rfl, by decide +kernel, rfl, by decide +kernel, by decide +kernel⟩, va := .inl rfl, ln := rfl, ge := rfl, mge := mg_of X G aC, oka := by decide +kernel, oke := by decide +kernel, okn := by decide +kernel, okx := by decide +kernel,
    xf := ⟨gaC, ggC, exC, hdC⟩, nofld := nfC, exm := exm_own exC iC tyC sC, body := ⟨_, _, _, _, _, _, _, _, _, _, _, _, _, _, _, _, _, rfl⟩ }
  refine ⟨PySem.W.fnOf "law" "law" (defArgs (top 52)) (defBody (top 52)) (defScope (top 52)) .none kV20 dc20 pm20 an20 (.ref cdL) ct20, [(cdL, PT)], prom K U (callN U.Pg 12) 20, ?_, ?_, ?_, fun s u => .of_eq rfl, ?_, ?_⟩
  · intro p hp; obtain rfl := List.mem_singleton.mp hp; exact hTab
  · intro p hp; obtain rfl := List.mem_singleton.mp hp; exact tk
  · intro p hp; obtain rfl := List.mem_singleton.mp hp; exact codeHd_of_K X hd
  · intro H a ns hl hb hT hS; exact law_prom (cs := []) rfl (fun p hp => by obtain rfl := List.mem_singleton.mp hp; exact hT _ (List.mem_singleton.mpr rfl)) hS (plain ns hl hb)
  · intro base kb gb tb
    refine ((defs_all (U := U) gls (mkx base) (fun f fd hf => ?_) 12).ok 20 f20 rfl).2
    match f, hf with
    | 0, hf => obtain rfl : f0 = fd := Option.some.inj hf; exact ⟨_, _, _, ⟨F0, s0, c0, rfl, B0⟩, fun n cdv A out s H E X _ _ _ z => by cases z⟩
    | 1, hf => obtain rfl : f1 = fd := Option.some.inj hf; exact ⟨_, _, _, ⟨F1, s1, c1, rfl, B1⟩, fun n cdv A out s H E X _ _ _ z => by cases z⟩
    | 2, hf => obtain rfl : f2 = fd := Option.some.inj hf; exact ⟨_, _, _, ⟨F2, s2, c2, rfl, B2⟩, fun n cdv A out s H E X _ _ _ z => by cases z⟩
    | 3, hf => obtain rfl : f3 = fd := Option.some.inj hf; exact ⟨_, _, _, ⟨F3, s3, c3, rfl, B3⟩, fun n cdv A out s H E X _ _ _ z => by cases z⟩
    | 4, hf => obtain rfl : f4 = fd := Option.some.inj hf; exact ⟨_, _, _, ⟨F4, s4, c4, rfl, B4⟩, fun n cdv A out s H E X _ _ _ z => by cases z⟩
    | 5, hf => obtain rfl : f5 = fd := Option.some.inj hf; exact ⟨_, _, _, ⟨F5, s5, c5, rfl, B5⟩, fun n cdv A out s H E X _ _ _ z => by cases z⟩
    | 6, hf => obtain rfl : f6 = fd := Option.some.inj hf; exact ⟨_, _, _, ⟨F6, s6, c6, rfl, B6⟩, fun n cdv A out s H E X _ _ _ z => by cases z⟩
    | 7, hf => obtain rfl : f7 = fd := Option.some.inj hf; exact ⟨_, _, _, ⟨F7, s7, c7, rfl, B7⟩, fun n cdv A out s H E X _ _ _ z => by cases z⟩
    | 8, hf => obtain rfl : f8 = fd := Option.some.inj hf; exact ⟨_, _, _, ⟨F8, s8, c8, rfl, B8⟩, fun n cdv A out s H E X _ _ _ z => by cases z⟩
    | 9, hf => obtain rfl : f9 = fd := Option.some.inj hf; exact ⟨_, _, _, ⟨F9, s9, c9, rfl, B9⟩, fun n cdv A out s H E X _ _ _ z => by cases z⟩
    | 10, hf => obtain rfl : f10 = fd := Option.some.inj hf; exact ⟨_, _, _, ⟨F10, s10, c10, rfl, B10⟩, fun n cdv A out s H E X _ _ _ z => by cases z⟩
    | 11, hf => obtain rfl : f11 = fd := Option.some.inj hf; exact ⟨_, _, _, ⟨F11, s11, c11, rfl, B11⟩, fun n cdv A out s H E X _ _ _ z => by cases z⟩
    | 12, hf => obtain rfl : f12 = fd := Option.some.inj hf; exact ⟨_, _, _, ⟨F12, s12, c12, rfl, B12⟩, fun n cdv A out s H E X _ _ _ z => by cases z⟩
    | 13, hf => obtain rfl : f13 = fd := Option.some.inj hf; exact ⟨_, _, _, ⟨F13, s13, c13, rfl, B13⟩, fun n cdv A out s H E X _ _ _ z => by cases z⟩
    | 14, hf => obtain rfl : f14 = fd := Option.some.inj hf; exact ⟨_, _, _, ⟨F14, s14, c14, rfl, B14⟩, fun n cdv A out s H E X _ _ _ z => by cases z⟩
    | 15, hf => obtain rfl : f15 = fd := Option.some.inj hf; exact ⟨_, _, _, ⟨F15, s15, c15, rfl, B15⟩, fun n cdv A out s H E X _ _ _ z => by cases z⟩
    | 16, hf => obtain rfl : f16 = fd := Option.some.inj hf; exact ⟨_, _, _, ⟨F16, s16, c16, rfl, B16⟩, fun n cdv A out s H E X _ _ _ z => by cases z⟩
    | 17, hf => obtain rfl : f17 = fd := Option.some.inj hf; exact ⟨_, _, _, ⟨F17, s17, c17, rfl, B17⟩, fun n cdv A out s H E X _ _ _ z => by cases z⟩
    | 18, hf => obtain rfl : f18 = fd := Option.some.inj hf; exact ⟨_, _, _, ⟨F18, s18, c18, rfl, B18⟩, fun n cdv A out s H E X _ _ _ z => by cases z⟩
    | 19, hf => obtain rfl : f19 = fd := Option.some.inj hf; exact ⟨_, _, _, ⟨F19, s19, c19, rfl, B19⟩, fun n cdv A out s H E X _ _ _ z => by cases z⟩
    | 20, hf =>
      obtain rfl : f20 = fd := Option.some.inj hf
      refine ⟨_, _, _, ⟨F20, s20, c20, rfl, B20⟩, fun n cdv A out s H E X hX hc hr _ => ?_⟩
      subst hX
      refine ⟨⟨hr, cdL, PT, tb _ (List.mem_singleton.mpr rfl), ?_, List.mem_singleton.mpr rfl, fun p hp _ => by obtain rfl := List.mem_singleton.mp hp; rfl⟩, fun f nm hf => ?_⟩
      · exact hc.symm
      · match f, hf with
        | 0, hf => obtain rfl := Option.some.inj hf; exact ⟨_, _, _, _, _, _, _, _, _, _, _, _, _, _, _, told, rfl⟩
        | _ + 1, hf => cases hf
    | _ + 21, hf => cases hf
end K10

set_option Elab.async false
set_option linter.all false
set_option maxRecDepth 100000
set_option maxHeartbeats 4000000
namespace MP
open PySem L2
/-! ### what is computed, as rules for simp -/
@[simp] theorem getV_z {x : Option D} {r : Env} : getV (x :: r) 0 = x := (rfl)
@[simp] theorem getV_s {x : Option D} {r : Env} {n : Nat} : getV (x :: r) (n + 1) = getV r n := (rfl)
@[simp] theorem setV_z {x d : Option D} {r : Env} : setV (x :: r) 0 d = d :: r := (rfl)
@[simp] theorem setV_s {x d : Option D} {r : Env} {n : Nat} : setV (x :: r) (n + 1) d = x :: setV r n d := (rfl)
@[simp] theorem getO_z {x : Ob} {r : DS} : getO (x :: r) 0 = some x := (rfl)
@[simp] theorem getO_s {x : Ob} {r : DS} {n : Nat} : getO (x :: r) (n + 1) = getO r n := (rfl)
@[simp] theorem setO_z {x d : Ob} {r : DS} : setO (x :: r) 0 d = d :: r := (rfl)
@[simp] theorem setO_s {x d : Ob} {r : DS} {n : Nat} : setO (x :: r) (n + 1) d = x :: setO r n d := (rfl)
@[simp] theorem wipeV_n {ρ : Env} : wipeV ρ [] = ρ := (rfl)
@[simp] theorem wipeV_c {ρ : Env} {v : Nat} {vs : List Nat} : wipeV ρ (v :: vs) = setV (wipeV ρ vs) v none := (rfl)
@[simp] theorem setAll_c {i : Nat} {is : List Nat} {d : D} {ds : List D} {ρ : Env} : setAll (i :: is) (d :: ds) ρ = setAll is ds (setV ρ i (some d)) := (rfl)
@[simp] theorem setAll_n {ds : List D} {ρ : Env} : setAll [] ds ρ = ρ := by cases ds <;> rfl
@[simp] theorem bind_ok {α β : Type} {a : α} {st : DS} {f : α → DS → R β} : (R.ok a st).bind f = f a st := (rfl)
@[simp] theorem bind_exc {α β : Type} {c : Nat} {fs : List D} {st : DS} {f : α → DS → R β} : (R.exc c fs st : R α).bind f = .exc c fs st := (rfl)
@[simp] theorem sbind_nx {ρ : Env} {st : DS} {f : Env → DS → RS} : (RS.nx ρ st).bind f = f ρ st := (rfl)
@[simp] theorem sbind_ret {d : D} {st : DS} {f : Env → DS → RS} : (RS.ret d st).bind f = .ret d st := (rfl)
@[simp] theorem sbind_exc {c : Nat} {fs : List D} {ρ : Env} {st : DS} {f : Env → DS → RS} : (RS.exc c fs ρ st).bind f = .exc c fs ρ st := (rfl)
@[simp] theorem sbind_brk {ρ : Env} {st : DS} {f : Env → DS → RS} : (RS.brk ρ st).bind f = .brk ρ st := (rfl)
@[simp] theorem sbind_cont {ρ : Env} {st : DS} {f : Env → DS → RS} : (RS.cont ρ st).bind f = .cont ρ st := (rfl)
@[simp] theorem obind_some {α β : Type} {a : α} {f : α → Option β} : (some a).bind f = f a := (rfl)
def RS.tie (x : RS) (f : Env → DS → RS) : RS := match x with
  | .nx ρ st => f ρ st
  | .exc c fs ρ st => .exc c fs ρ st
  | _ => .bad
@[simp] theorem tie_nx {ρ : Env} {st : DS} {f : Env → DS → RS} : (RS.nx ρ st).tie f = f ρ st := (rfl)
def negD : D → Option D | .int i => some (.int (-i)) | _ => none
@[simp] theorem negD_int {i : Int} : negD (.int i) = some (.int (-i)) := (rfl)
def intD : D → Option Int | .int i => some i | _ => none
@[simp] theorem intD_int {i : Int} : intD (.int i) = some i := (rfl)
def tupD : D → Option (List D) | .tup xs => some xs | _ => none
@[simp] theorem tupD_tup {xs : List D} : tupD (.tup xs) = some xs := (rfl)
def toldR : R D → R D
  | .ok d st1 => .ok (.tup [.str "told", d]) st1
  | .exc 0 [d] st1 => .ok (.tup [.str "great", d]) st1
  | _ => .bad
@[simp] theorem toldR_ok {d : D} {st : DS} : toldR (.ok d st) = .ok (.tup [.str "told", d]) st := (rfl)
@[simp] theorem toldR_exc {d : D} {st : DS} : toldR (.exc 0 [d] st) = .ok (.tup [.str "great", d]) st := (rfl)
/-- a place is written -/
def subD (st : DS) (od x d : D) : Option DS := match od with
      | .ref n => match getO st n, keyOf x with
        | some (.dic kvs), some k => if kvs.length < sizeLine then some (setO st n (.dic (putP kvs k x d))) else none
        | some (.lst xs), some (.inl i) => (match ixN xs.length i with
          | some k => some (setO st n (.lst (xs.set k d)))
          | none => none)
        | _, _ => none
      | _ => none
def isoR (st : DS) : R D → R D
      | .ok d _ => if noRef d then .ok d st else .bad
      | .exc c fs _ => if noRefL fs then .exc c fs st else .bad
      | .bad => .bad
@[simp] theorem isoR_ok {d : D} {st st1 : DS} : isoR st (.ok d st1) = if noRef d then .ok d st else .bad := (rfl)
@[simp] theorem isoR_exc {c : Nat} {fs : List D} {st st1 : DS} : isoR st (.exc c fs st1) = if noRefL fs then .exc c fs st else .bad := (rfl)
@[simp] theorem noRef_int {i : Int} : noRef (.int i) = true := by simp only [noRef]
@[simp] theorem noRef_bl {i : Bool} : noRef (.bl i) = true := by simp only [noRef]
@[simp] theorem noRef_str {i : Str} : noRef (.str i) = true := by simp only [noRef]
@[simp] theorem noRef_non : noRef .non = true := by simp only [noRef]
@[simp] theorem noRef_tup {xs : List D} : noRef (.tup xs) = noRefL xs := by simp only [noRef]
@[simp] theorem noRef_lst {xs : List D} : noRef (.lst xs) = noRefL xs := by simp only [noRef]
@[simp] theorem noRef_scr {xs : List D} : noRef (.scr xs) = noRefL xs := by simp only [noRef]
@[simp] theorem noRefL_n : noRefL [] = true := by simp only [noRefL]
@[simp] theorem noRefL_c {x : D} {xs : List D} : noRefL (x :: xs) = (noRef x && noRefL xs) := by simp only [noRefL]
@[simp] theorem to_ok {α : Type} {a : α} {st : DS} {ρ : Env} {f : α → DS → RS} : (R.ok a st).to ρ f = f a st := (rfl)
@[simp] theorem to_exc {α : Type} {c : Nat} {fs : List D} {st : DS} {ρ : Env} {f : α → DS → RS} : (R.exc c fs st : R α).to ρ f = .exc c fs ρ st := (rfl)
@[simp] theorem of_some {α : Type} {a : α} {st : DS} : R.of (some a) st = .ok a st := (rfl)
@[simp] theorem end_nx {ρ : Env} {st : DS} : (RS.nx ρ st).end = .ok .non st := (rfl)
@[simp] theorem end_ret {d : D} {st : DS} : (RS.ret d st).end = .ok d st := (rfl)
@[simp] theorem end_exc {c : Nat} {fs : List D} {ρ : Env} {st : DS} : (RS.exc c fs ρ st).end = .exc c fs st := (rfl)
@[simp] theorem tnD_nm {i : Nat} {d : D} {ρ : Env} : tnD (.nm i) d ρ = some (setV ρ i (some d)) := by simp only [tnD] <;> rfl
@[simp] theorem tnD_tp {ts : List TN} {xs : List D} {ρ : Env} : tnD (.tp ts) (.tup xs) ρ = tnL ts xs ρ := by simp only [tnD] <;> rfl
@[simp] theorem tnL_n {ρ : Env} : tnL [] [] ρ = some ρ := by simp only [tnL] <;> rfl
@[simp] theorem tnL_c {t : TN} {ts : List TN} {x : D} {xs : List D} {ρ : Env} : tnL (t :: ts) (x :: xs) ρ = (tnD t x ρ).bind (tnL ts xs) := by
  simp only [tnL]
  cases tnD t x ρ <;> rfl
section
variable {C : Nat → List D → DS → R D} {ρ : Env} {st : DS}
@[simp] theorem ev_var {i : Nat} : eval C (.var i) ρ st = R.of (getV ρ i) st := by simp only [eval] <;> rfl
@[simp] theorem ev_lit {d : D} : eval C (.lit d) ρ st = .ok d st := by simp only [eval] <;> rfl
@[simp] theorem ev_con {k : Nat} {d : D} : eval C (.con k d) ρ st = .ok d st := by simp only [eval] <;> rfl
@[simp] theorem ev_bin {op : BOp} {a b : E} : eval C (.bin op a b) ρ st = (eval C a ρ st).bind fun x st1 => (eval C b ρ st1).bind fun y st2 => R.of (binD op st2 x y) st2 := by simp only [eval] <;> rfl
@[simp] theorem ev_neg {a : E} : eval C (.neg a) ρ st = (eval C a ρ st).bind fun x st1 => R.of (negD x) st1 := by
  simp only [eval]
  cases eval C a ρ st with
  | ok x st1 => cases x <;> rfl
  | _ => rfl
@[simp] theorem ev_or {a b : E} : eval C (.or a b) ρ st = (eval C a ρ st).bind fun x st1 => (R.of (truD st1 x) st1).bind fun k st2 => if k then .ok x st2 else eval C b ρ st2 := by simp only [eval] <;> rfl
@[simp] theorem ev_cmp {op : COp} {a b : E} : eval C (.cmp op a b) ρ st = (eval C a ρ st).bind fun x st1 => (eval C b ρ st1).bind fun y st2 => (R.of (cmpD op st2 x y) st2).bind fun k st3 => .ok (.bl k) st3 := by simp only [eval] <;> rfl
@[simp] theorem ev_ife {c a b : E} : eval C (.ife c a b) ρ st = (evalT C c ρ st).bind fun k st1 => if k then eval C a ρ st1 else eval C b ρ st1 := by simp only [eval] <;> rfl
@[simp] theorem ev_tup {es : List E} : eval C (.tup es) ρ st = (evalL C es ρ st).bind fun xs st1 => if xs.length ≤ sizeLine then .ok (.tup xs) st1 else .bad := by simp only [eval] <;> rfl
@[simp] theorem ev_lst {m : Bool} {es : List E} : eval C (.lst m es) ρ st = (evalL C es ρ st).bind fun xs st1 => if xs.length ≤ sizeLine then newL m xs st1 else .bad := by simp only [eval] <;> rfl
@[simp] theorem ev_dix {a i : E} : eval C (.dix a i) ρ st = (eval C a ρ st).bind fun x st1 => (eval C i ρ st1).bind fun y st2 => R.of (dixD st2 x y) st2 := by simp only [eval] <;> rfl
@[simp] theorem ev_ix {a i : E} : eval C (.ix a i) ρ st = (eval C a ρ st).bind fun x st1 => (eval C i ρ st1).bind fun y st2 => R.of (ixD st2 x y) st2 := by simp only [eval] <;> rfl
@[simp] theorem ev_sl {m : Bool} {a : E} {lo hi : List E} : eval C (.sl m a lo hi) ρ st = (eval C a ρ st).bind fun x st1 => (evalO C lo ρ st1).bind fun l st2 => (evalO C hi ρ st2).bind fun h st3 => slD m x l h st3 := by simp only [eval] <;> rfl
@[simp] theorem ev_rev {m : Bool} {a : E} : eval C (.rev m a) ρ st = (eval C a ρ st).bind fun x st1 => (R.of (lisD st1 x) st1).bind fun xs st2 => newL m xs.reverse st2 := by
  simp only [eval]
  cases eval C a ρ st with
  | ok x st1 => show _ = (R.of (lisD st1 x) st1).bind _; dsimp only [R.bind]; cases lisD st1 x <;> rfl
  | _ => rfl
@[simp] theorem ev_call {f : Nat} {es : List E} : eval C (.call f es) ρ st = (evalL C es ρ st).bind fun xs st1 => C f xs st1 := by simp only [eval] <;> rfl
@[simp] theorem ev_bi {b : BI} {es : List E} : eval C (.bi b es) ρ st = (evalL C es ρ st).bind fun xs st1 => R.of (biD b st1 xs) st1 := by simp only [eval] <;> rfl
@[simp] theorem ev_meth {k : MK} {o : E} {es : List E} : eval C (.meth k o es) ρ st = (eval C o ρ st).bind fun x st1 => if mtyD k st1 x then (evalL C es ρ st1).bind fun xs st2 => methD k st2 x xs else .bad := by simp only [eval] <;> rfl
@[simp] theorem ev_revT {a : E} : eval C (.revT a) ρ st = (eval C a ρ st).bind fun x st1 => (R.of (tupD x) st1).bind fun xs st2 => .ok (.tup xs.reverse) st2 := by
  simp only [eval]
  cases eval C a ρ st with
  | ok x st1 => cases x <;> rfl
  | _ => rfl
@[simp] theorem ev_tv {a : E} : eval C (.tv a) ρ st = eval C a ρ st := by simp only [eval] <;> rfl
@[simp] theorem ev_binO {op : BOp} {a b : E} : eval C (.binO op a b) ρ st = (eval C a ρ st).bind fun x st1 => (eval C b ρ st1).bind fun y st2 => (R.of (catD op st2 x y) st2).bind fun zs st3 => newL true zs st3 := by
  simp only [eval]
  cases eval C a ρ st with
  | ok x st1 =>
    dsimp only [R.bind]
    cases eval C b ρ st1 with
    | ok y st2 => dsimp only; cases catD op st2 x y <;> rfl
    | _ => rfl
  | _ => rfl
@[simp] theorem ev_emp {m : Bool} : eval C (.emp m) ρ st = newD m [] st := by simp only [eval] <;> rfl
theorem ev_dic {m : Bool} {es : List E} {xs : List D} {kvs : List (D × D)} {st1 : DS} (h : evalL C es ρ st = .ok xs st1) (hp : pairUp xs = some kvs) (hk : kvs.length ≤ 15 ∧ (keysOf kvs).isSome) : eval C (.dic m es) ρ st = newD m (mergeP [] kvs) st1 := by
  simp only [eval, h, hp] <;> rw [if_pos hk]
@[simp] theorem ev_told {f : Nat} {e : E} : eval C (.told f e) ρ st = toldR (eval C e ρ st) := by
  have key : ∀ r : R D, (match r with
    | .ok d st1 => R.ok (.tup [.str "told", d]) st1
    | .exc 0 [d] st1 => .ok (.tup [.str "great", d]) st1
    | _ => .bad) = toldR r := fun r => by
    cases r with
    | ok d st1 => rfl
    | exc c fs st1 => cases c with
      | zero => cases fs with
        | nil => rfl
        | cons a r => cases r <;> rfl
      | succ c => rfl
    | bad => rfl
  rw [eval]
  exact key _
/-- a turn of a comprehension -/
def lcW (C : Nat → List D → DS → R D) (elt : E) (tg : TN) (ifs : List E) (own : List Nat) (ρ : Env) : D → DS → R (Option D) := fun x st2 => (R.of (tnD tg x (wipeV ρ own)) st2).bind fun ρ' st2 => (evalTs C ifs ρ' st2).bind fun k st3 => if k then (eval C elt ρ' st3).bind fun d st4 => .ok (some d) st4 else .ok none st3
theorem lcW_eq {elt : E} {tg : TN} {ifs : List E} {own : List Nat} {x : D} {st2 : DS} : lcW C elt tg ifs own ρ x st2 = (R.of (tnD tg x (wipeV ρ own)) st2).bind fun ρ' st2 => (evalTs C ifs ρ' st2).bind fun k st3 => if k then (eval C elt ρ' st3).bind fun d st4 => .ok (some d) st4 else .ok none st3 := (rfl)
@[simp] theorem ev_lc {m : Bool} {elt : E} {tg : TN} {ik : IK} {src ifs : List E} {own : List Nat} : eval C (.lc m elt tg ik src ifs own) ρ st = (evalL C src ρ st).bind fun xs st1 => (R.of (itD ik st1 xs) st1).bind fun items st1 => (lcL (lcW C elt tg ifs own ρ) items [] st1).bind fun ys st2 => newL m ys st2 := by
  simp only [eval]
  cases evalL C src ρ st with
  | ok xs st1 =>
    dsimp only [R.bind]
    cases itD ik st1 xs with
    | none => rfl
    | some items =>
      dsimp only [R.of]
      have e : (fun x st2 => match tnD tg x (wipeV ρ own) with
          | some ρ' => (evalTs C ifs ρ' st2).bind fun k st3 => if k then (eval C elt ρ' st3).bind fun d st4 => .ok (some d) st4 else .ok none st3
          | none => .bad) = lcW C elt tg ifs own ρ := by
        funext x st2
        unfold lcW
        cases tnD tg x (wipeV ρ own) <;> rfl
      rw [← e]
      rfl
  | _ => rfl
@[simp] theorem eT_not {a : E} : evalT C (.not a) ρ st = (evalT C a ρ st).bind fun k st1 => .ok (!k) st1 := by simp only [evalT] <;> rfl
@[simp] theorem eT_and {a b : E} : evalT C (.and a b) ρ st = (evalT C a ρ st).bind fun k st1 => if k then evalT C b ρ st1 else .ok false st1 := by simp only [evalT] <;> rfl
@[simp] theorem eT_or {a b : E} : evalT C (.or a b) ρ st = (evalT C a ρ st).bind fun k st1 => if k then .ok true st1 else evalT C b ρ st1 := by simp only [evalT] <;> rfl
@[simp] theorem eT_cmp {op : COp} {a b : E} : evalT C (.cmp op a b) ρ st = (eval C a ρ st).bind fun x st1 => (eval C b ρ st1).bind fun y st2 => R.of (cmpD op st2 x y) st2 := by simp only [evalT] <;> rfl
@[simp] theorem eT_tv {a : E} : evalT C (.tv a) ρ st = (eval C a ρ st).bind fun x st1 => R.of (truD st1 x) st1 := by simp only [evalT] <;> rfl
@[simp] theorem eL_n : evalL C [] ρ st = .ok [] st := by simp only [evalL] <;> rfl
@[simp] theorem eL_c {e : E} {es : List E} : evalL C (e :: es) ρ st = (eval C e ρ st).bind fun x st1 => (evalL C es ρ st1).bind fun xs st2 => .ok (x :: xs) st2 := by simp only [evalL] <;> rfl
@[simp] theorem eTs_n : evalTs C [] ρ st = .ok true st := by simp only [evalTs] <;> rfl
@[simp] theorem eTs_c {e : E} {es : List E} : evalTs C (e :: es) ρ st = (evalT C e ρ st).bind fun k st1 => if k then evalTs C es ρ st1 else .ok false st1 := by simp only [evalTs] <;> rfl
@[simp] theorem eO_n : evalO C [] ρ st = .ok none st := by simp only [evalO] <;> rfl
@[simp] theorem eO_c {e : E} {es : List E} : evalO C (e :: es) ρ st = (eval C e ρ st).bind fun x st1 => (R.of (intD x) st1).bind fun i st2 => .ok (some i) st2 := by
  simp only [evalO]
  cases eval C e ρ st with
  | ok x st1 => cases x <;> rfl
  | _ => rfl
@[simp] theorem aT_nm {i : Nat} {d : D} : asgT C (.nm i) d ρ st = .nx (setV ρ i (some d)) st := by simp only [asgT] <;> rfl
@[simp] theorem aT_sub {o i : E} {d : D} : asgT C (.sub o i) d ρ st = (eval C o ρ st).to ρ fun od st1 => (eval C i ρ st1).to ρ fun x st2 => (R.of (subD st2 od x d) st2).to ρ fun st3 _ => .nx ρ st3 := by
  simp only [asgT]
  cases eval C o ρ st with
  | ok od st1 =>
    dsimp only [R.to]
    cases eval C i ρ st1 with
    | ok x st2 =>
      dsimp only
      unfold subD
      cases od with
      | ref n =>
        dsimp only
        generalize getO st2 n = g
        generalize keyOf x = kk
        cases g with
        | none => rfl
        | some ob => cases ob with
          | ins c fs => rfl
          | dic kvs => cases kk with
            | none => rfl
            | some k => by_cases h : kvs.length < sizeLine <;> simp only [h, if_true, if_false] <;> rfl
          | lst xs => cases kk with
            | none => rfl
            | some k => cases k with
              | inr s => rfl
              | inl i => dsimp only; cases ixN xs.length i <;> rfl
      | _ => rfl
    | _ => rfl
  | _ => rfl
@[simp] theorem aT_tp {ts : List T} {xs : List D} : asgT C (.tp ts) (.tup xs) ρ st = if xs.length = ts.length then asgTs C ts xs ρ st else .bad := by simp only [asgT] <;> rfl
@[simp] theorem aTs_n : asgTs C [] [] ρ st = .nx ρ st := by simp only [asgTs] <;> rfl
@[simp] theorem aTs_c {t : T} {ts : List T} {x : D} {xs : List D} : asgTs C (t :: ts) (x :: xs) ρ st = (asgT C t x ρ st).tie (asgTs C ts xs) := by
  simp only [asgTs]
  cases asgT C t x ρ st <;> rfl
@[simp] theorem ex_expr {e : E} : exec C (.expr e) ρ st = (eval C e ρ st).to ρ fun _ st1 => .nx ρ st1 := by simp only [exec] <;> rfl
@[simp] theorem ex_ret {e : E} : exec C (.ret e) ρ st = (eval C e ρ st).to ρ fun d st1 => .ret d st1 := by simp only [exec] <;> rfl
@[simp] theorem ex_retN : exec C .retN ρ st = .ret .non st := by simp only [exec] <;> rfl
@[simp] theorem ex_asg {t : T} {e : E} : exec C (.asg t e) ρ st = (eval C e ρ st).to ρ fun d st1 => asgT C t d ρ st1 := by simp only [exec] <;> rfl
@[simp] theorem ex_ife {c : E} {a b : List S} : exec C (.ife c a b) ρ st = (evalT C c ρ st).to ρ fun k st1 => if k then execs C a ρ st1 else execs C b ρ st1 := by simp only [exec] <;> rfl
@[simp] theorem ex_pass : exec C .pass ρ st = .nx ρ st := by simp only [exec] <;> rfl
@[simp] theorem ex_raise {c : Nat} {es : List E} : exec C (.raise c es) ρ st = (evalL C es ρ st).to ρ fun xs st1 => .exc c xs ρ st1 := by simp only [exec] <;> rfl
@[simp] theorem ex_par {is : List Nat} {es : List E} : exec C (.par is es) ρ st = (evalL C es ρ st).to ρ fun xs st1 => if xs.length = is.length then .nx (setAll is xs ρ) st1 else .bad := by simp only [exec] <;> rfl
@[simp] theorem ex_slc {i : Nat} {e : E} : exec C (.slc i e) ρ st = (eval C e ρ st).to ρ fun d st1 => .nx (setV ρ i (some d)) st1 := by simp only [exec] <;> rfl
@[simp] theorem ex_aug {i : Nat} {op : BOp} {e : E} : exec C (.aug i op e) ρ st = (R.of (getV ρ i) st).to ρ fun x st => (eval C e ρ st).to ρ fun y st1 => (R.of (augD op x y) st1).to ρ fun z st1 => .nx (setV ρ i (some z)) st1 := by
  simp only [exec]
  cases getV ρ i with
  | none => rfl
  | some x =>
    dsimp only [R.of, R.to]
    cases eval C e ρ st with
    | ok y st1 => dsimp only; cases augD op x y <;> rfl
    | _ => rfl
/-- a turn of a walk -/
def forB (C : Nat → List D → DS → R D) (tg : TN) (b : List S) : D → Env → DS → RS := fun x ρ' st' => match tnD tg x ρ' with | some ρ2 => execs C b ρ2 st' | none => .bad
@[simp] theorem forB_eq {tg : TN} {b : List S} {x : D} : forB C tg b x ρ st = (R.of (tnD tg x ρ) st).to ρ fun ρ2 st => execs C b ρ2 st := by
  unfold forB
  cases tnD tg x ρ <;> rfl
@[simp] theorem ex_for {tg : TN} {ik : IK} {src : List E} {b : List S} : exec C (.forr tg ik src b) ρ st = (evalL C src ρ st).to ρ fun xs st1 => (R.of (itD ik st1 xs) st1).to ρ fun items st1 => forL (forB C tg b) items ρ st1 := by
  simp only [exec]
  cases evalL C src ρ st with
  | ok xs st1 =>
    dsimp only [R.to]
    cases itD ik st1 xs <;> rfl
  | _ => rfl
theorem ex_whl {c : E} {b : List S} : exec C (.whl c b) ρ st = whileL (evalT C c) (execs C b) fuel ρ st := by simp only [exec] <;> rfl
@[simp] theorem exs_n : execs C [] ρ st = .nx ρ st := by simp only [execs] <;> rfl
@[simp] theorem exs_c {s : S} {r : List S} : execs C (s :: r) ρ st = (exec C s ρ st).bind (execs C r) := by
  simp only [execs]
  cases exec C s ρ st <;> rfl
end
@[simp] theorem newL_t {xs : List D} {st : DS} : newL true xs st = .ok (.ref st.length) (st ++ [.lst xs]) := (rfl)
@[simp] theorem newL_f {xs : List D} {st : DS} : newL false xs st = .ok (.lst xs) st := (rfl)
@[simp] theorem newD_t {xs : List (D × D)} {st : DS} : newD true xs st = .ok (.ref st.length) (st ++ [.dic xs]) := (rfl)
@[simp] theorem newD_f {xs : List (D × D)} {st : DS} : newD false xs st = .ok (.dic xs) st := (rfl)
theorem forL_n {F : D → Env → DS → RS} {ρ : Env} {st : DS} : forL F [] ρ st = .nx ρ st := (rfl)
theorem forL_c {F : D → Env → DS → RS} {x : D} {xs : List D} {ρ ρ' : Env} {st st' : DS} (h : F x ρ st = .nx ρ' st') : forL F (x :: xs) ρ st = forL F xs ρ' st' := by
  show (match F x ρ st with | .nx ρ' st' => forL F xs ρ' st' | .cont ρ' st' => forL F xs ρ' st' | .brk ρ' st' => .nx ρ' st' | r => r) = _
  rw [h]
theorem lcL_n {f : D → DS → R (Option D)} {acc : List D} {st : DS} : lcL f [] acc st = .ok acc st := (rfl)
theorem lcL_y {f : D → DS → R (Option D)} {x d : D} {xs acc : List D} {st st1 : DS} (h : f x st = .ok (some d) st1) (hl : acc.length < sizeLine) : lcL f (x :: xs) acc st = lcL f xs (acc ++ [d]) st1 := by
  show (match f x st with | .ok (some d) st1 => if acc.length < sizeLine then lcL f xs (acc ++ [d]) st1 else .bad | .ok none st1 => lcL f xs acc st1 | _ => .bad) = _
  rw [h]
  dsimp only
  rw [if_pos hl]
theorem lcL_z {f : D → DS → R (Option D)} {x : D} {xs acc : List D} {st st1 : DS} (h : f x st = .ok none st1) : lcL f (x :: xs) acc st = lcL f xs acc st1 := by
  show (match f x st with | .ok (some d) st1 => if acc.length < sizeLine then lcL f xs (acc ++ [d]) st1 else .bad | .ok none st1 => lcL f xs acc st1 | _ => .bad) = _
  rw [h]
/-- a def's call, its body shown -/
theorem call_eq {P : Nat → Option FDef} {n f : Nat} {fd : FDef} {xs : List D} {st : DS} (h : P f = some fd) (hi : fd.iso = false) (h1 : xs.length = fd.np) (h2 : xs.length ≤ fd.N.length) :
    callN P (n + 1) f xs st = (execs (callN P n) fd.body (xs.map some ++ List.replicate (fd.N.length - xs.length) none) st).end := by
  unfold callN
  rw [h]
  unfold isoF
  dsimp only
  rw [if_neg (by rw [hi]; decide)]
  unfold runF
  rw [if_pos ⟨h1, h2⟩]
/-- .. of one that is given no objects -/
theorem call_iso {P : Nat → Option FDef} {n f : Nat} {fd : FDef} {xs : List D} {st : DS} (h : P f = some fd) (hi : fd.iso = true) (h1 : xs.length = fd.np) (h2 : xs.length ≤ fd.N.length) (hn : noRefL xs = true) :
    callN P (n + 1) f xs st = isoR st (execs (callN P n) fd.body (xs.map some ++ List.replicate (fd.N.length - xs.length) none) []).end := by
  unfold callN
  rw [h]
  unfold isoF
  dsimp only
  rw [if_pos (by rw [hi]), if_pos hn]
  unfold runF
  rw [if_pos ⟨h1, h2⟩]
  rfl
end MP

set_option Elab.async false
set_option linter.all false
set_option maxRecDepth 100000
set_option maxHeartbeats 4000000
namespace MP
open PySem L2 PyProof.Rows
/-! ### ints -/
theorem bits_le {i : Int} {k : Nat} (h : i.natAbs < 2 ^ k) : Builtin.Int.intBits i ≤ k := by
  unfold Builtin.Int.intBits
  split
  · omega
  · rename_i h0
    have h0' : i.natAbs ≠ 0 := by
      intro z
      exact h0 (by simp; omega)
    exact (Nat.log2_lt h0').mpr h
theorem mulOk_l {i j : Int} (h : i.natAbs < 2 ^ 64) : mulOk i j = true := by
  have := bits_le h
  unfold mulOk shortFactorBits
  rw [decide_eq_false (p := Builtin.Int.intBits i > 64) (by omega)]
  rfl
theorem mulOk_r {i j : Int} (h : j.natAbs < 2 ^ 64) : mulOk i j = true := by
  have := bits_le h
  unfold mulOk shortFactorBits
  rw [decide_eq_false (p := Builtin.Int.intBits j > 64) (by omega), Bool.and_false]
  rfl
theorem mulOk_b {i j : Int} (h1 : i.natAbs < 2 ^ 30000) (h2 : j.natAbs < 2 ^ 30000) : mulOk i j = true := by
  have a := bits_le h1
  have b := bits_le h2
  have e : Builtin.Int.intTooBig ((Builtin.Int.intBits i : Int) + (Builtin.Int.intBits j : Int)) = false := by
    unfold Builtin.Int.intTooBig bitsLine
    exact decide_eq_false (by omega)
  unfold mulOk
  rw [e, Bool.and_false]
  rfl
theorem divOk_r {i j : Int} (h : j.natAbs < 2 ^ 8000) (h0 : j ≠ 0) : divOk i j = true := by
  have e : Builtin.divisionGoesByPylong i j = false := by
    unfold Builtin.divisionGoesByPylong
    have : j.natAbs ≠ 0 := by omega
    have l := (Nat.log2_lt this).mpr h
    have h0' : (j == 0) = false := by simpa using h0
    simp only [h0', Bool.false_eq_true, if_false]
    rw [decide_eq_false (p := j.natAbs.log2 / 30 + 1 > 300) (by omega)]
    rfl
  unfold divOk
  rw [e, decide_eq_true h0]
  rfl
section
variable {st : DS}
@[simp] theorem b_add {i j : Int} : binD .add st (.int i) (.int j) = some (.int (i + j)) := (rfl)
@[simp] theorem b_sub {i j : Int} : binD .sub st (.int i) (.int j) = some (.int (i - j)) := (rfl)
theorem b_mul {i j : Int} (h : mulOk i j = true) : binD .mul st (.int i) (.int j) = some (.int (i * j)) := by
  show (if mulOk i j then some (D.int (i * j)) else none) = _
  rw [if_pos h]
theorem b_div {i j : Int} (h : divOk i j = true) : binD .fdiv st (.int i) (.int j) = some (.int (i.fdiv j)) := by
  show (if divOk i j then some (D.int (i.fdiv j)) else none) = _
  rw [if_pos h]
theorem b_mod {i j : Int} (h : j ≠ 0) : binD .mod st (.int i) (.int j) = some (.int (i.fmod j)) := by
  show (if j ≠ 0 then some (D.int (i.fmod j)) else none) = _
  rw [if_pos h]
theorem b_cat {a b : List D} (h : a.length + b.length ≤ sizeLine) : binD .add st (.tup a) (.tup b) = some (.tup (a ++ b)) := by
  show (if a.length + b.length ≤ sizeLine then some (D.tup (a ++ b)) else none) = _
  rw [if_pos h]
@[simp] theorem c_eq {i j : Int} : cmpD .eq st (.int i) (.int j) = some (decide (i = j)) := (rfl)
@[simp] theorem c_eqs {i j : Str} : cmpD .eq st (.str i) (.str j) = some (decide (i = j)) := (rfl)
@[simp] theorem c_ne {i j : Int} : cmpD .ne st (.int i) (.int j) = some (!decide (i = j)) := (rfl)
@[simp] theorem c_nes {i j : Str} : cmpD .ne st (.str i) (.str j) = some (!decide (i = j)) := (rfl)
@[simp] theorem c_lt {i j : Int} : cmpD .lt st (.int i) (.int j) = some (decide (i < j)) := (rfl)
@[simp] theorem c_le {i j : Int} : cmpD .le st (.int i) (.int j) = some (decide (i ≤ j)) := (rfl)
@[simp] theorem c_gt {i j : Int} : cmpD .gt st (.int i) (.int j) = some (decide (j < i)) := (rfl)
@[simp] theorem c_ge {i j : Int} : cmpD .ge st (.int i) (.int j) = some (decide (j ≤ i)) := (rfl)
@[simp] theorem t_bl {b : Bool} : truD st (.bl b) = some b := (rfl)
@[simp] theorem bi_abs {i : Int} : biD .abs st [.int i] = some (.int (i.natAbs : Nat)) := by
  show some (D.int (if i < 0 then -i else i)) = _
  congr 2
  split <;> omega
@[simp] theorem bi_max {i j : Int} : biD .max st [.int i, .int j] = some (.int (if j > i then j else i)) := (rfl)
@[simp] theorem bi_int {i : Int} : biD .int st [.int i] = some (.int i) := (rfl)
@[simp] theorem bi_intb {b : Bool} : biD .int st [.bl b] = some (.int (if b then 1 else 0)) := (rfl)
@[simp] theorem bi_gcd {a b : Int} : biD .gcd st [.int a, .int b] = some (.int ((Nat.gcd a.natAbs b.natAbs : Nat) : Int)) := (rfl)
theorem bi_str {i : Int} (h : i.natAbs.log2 < 1920) : biD .str st [.int i] = some (.str (toString i)) := by
  show (if i.natAbs.log2 < 1920 then some (D.str (toString i)) else none) = _
  rw [if_pos h]
theorem bi_lenS {s : Str} (h : s.length ≤ sizeLine) : biD .len st [.str s] = some (.int s.length) := by
  show (if s.length ≤ sizeLine then some (D.int s.length) else none) = _
  rw [if_pos h]
@[simp] theorem bi_lenT {xs : List D} : biD .len st [.tup xs] = some (.int xs.length) := (rfl)
@[simp] theorem bi_lenL {xs : List D} : biD .len st [.lst xs] = some (.int xs.length) := (rfl)
theorem bi_lenR {n : Nat} {xs : List D} (h : getO st n = some (.lst xs)) : biD .len st [.ref n] = some (.int xs.length) := by
  have e : seqD st (.ref n) = some xs := by show (match getO st n with | some (.lst xs) => some xs | _ => none) = _; rw [h]
  show (match seqD st (.ref n) with | some ys => some (D.int ys.length) | none => _) = _
  rw [e]
@[simp] theorem bi_tupT {xs : List D} : biD .tuple st [.tup xs] = some (.tup xs) := (rfl)
theorem bi_tupR {n : Nat} {xs : List D} (h : getO st n = some (.lst xs)) : biD .tuple st [.ref n] = some (.tup xs) := by
  have e : lisD st (.ref n) = some xs := by show (match getO st n with | some (.lst xs) => some xs | _ => none) = _; rw [h]
  show (match lisD st (.ref n) with | some ys => some (D.tup ys) | none => none) = _
  rw [e]
@[simp] theorem bi_anyL {xs : List D} : biD .any st [.lst xs] = (match blsD xs with | some bs => some (.bl (bs.any id)) | none => none) := (rfl)
@[simp] theorem m_bits {i : Int} : methD .bitlen st (.int i) [] = .ok (.int (Builtin.Int.intBits i : Nat)) st := (rfl)
@[simp] theorem mt_bits {i : Int} : mtyD .bitlen st (.int i) = true := (rfl)
@[simp] theorem ix0 {x : D} {xs : List D} : ixD st (.tup (x :: xs)) (.int 0) = some x := by
  show atI (x :: xs) 0 = _
  unfold atI ixN
  simp
@[simp] theorem ix1 {x y : D} {xs : List D} : ixD st (.tup (x :: y :: xs)) (.int 1) = some y := by
  show atI (x :: y :: xs) 1 = _
  unfold atI ixN
  have h : (1 : Int) < (xs.length : Int) + 1 + 1 := by omega
  simp [h]
@[simp] theorem sz1 : (1 ≤ sizeLine) = True := eq_true (by decide)
@[simp] theorem sz2 : (2 ≤ sizeLine) = True := eq_true (by decide)
@[simp] theorem sz3 : (3 ≤ sizeLine) = True := eq_true (by decide)
@[simp] theorem sz4 : (4 ≤ sizeLine) = True := eq_true (by decide)
@[simp] theorem sz5 : (5 ≤ sizeLine) = True := eq_true (by decide)
@[simp] theorem sz6 : (6 ≤ sizeLine) = True := eq_true (by decide)
@[simp] theorem sz7 : (7 ≤ sizeLine) = True := eq_true (by decide)
@[simp] theorem sz8 : (8 ≤ sizeLine) = True := eq_true (by decide)
@[simp] theorem sz9 : (9 ≤ sizeLine) = True := eq_true (by decide)
@[simp] theorem sz10 : (10 ≤ sizeLine) = True := eq_true (by decide)
@[simp] theorem sz11 : (11 ≤ sizeLine) = True := eq_true (by decide)
@[simp] theorem sl0 : (0 < sizeLine) = True := eq_true (by decide)
@[simp] theorem sl1 : (1 < sizeLine) = True := eq_true (by decide)
@[simp] theorem sl2 : (2 < sizeLine) = True := eq_true (by decide)
@[simp] theorem sl3 : (3 < sizeLine) = True := eq_true (by decide)
@[simp] theorem sl4 : (4 < sizeLine) = True := eq_true (by decide)
@[simp] theorem sl5 : (5 < sizeLine) = True := eq_true (by decide)
@[simp] theorem sl6 : (6 < sizeLine) = True := eq_true (by decide)
@[simp] theorem sl7 : (7 < sizeLine) = True := eq_true (by decide)
@[simp] theorem sl8 : (8 < sizeLine) = True := eq_true (by decide)
@[simp] theorem sl9 : (9 < sizeLine) = True := eq_true (by decide)
@[simp] theorem sl10 : (10 < sizeLine) = True := eq_true (by decide)
@[simp] theorem sl11 : (11 < sizeLine) = True := eq_true (by decide)
end
/-! ### an int in digits -/
theorem str_len {i : Int} {k : Nat} (hk : 0 < k) (h0 : 0 ≤ i) (h : i < 10 ^ k) : (PySem.Str.ofString (toString i)).length ≤ k := toString_length_le h0 hk h
end MP

set_option Elab.async false
set_option linter.all false
set_option maxRecDepth 100000
set_option maxHeartbeats 4000000
set_option exponentiation.threshold 700
namespace MP
open PySem L2 PyProof.Rows
/-! ### the text of small data -/
def SmI (i : Int) : Prop := i.natAbs < 10 ^ 500
/-- data whose text is short: N its bulk, k its depth -/
def Rp (st : DS) (d : D) (N k : Nat) : Prop := ∃ p, pd st d = some p ∧ p.showable = true ∧ p.leavesShort 600 = true ∧ p.bulk ≤ N ∧ p.depth ≤ k ∧ p.hasDict = false
def RpL (st : DS) (ds : List D) (N k : Nat) : Prop := ∃ p, pdL st ds = some p ∧ PyData.showableAll p = true ∧ PyData.leavesShortAll 600 p = true ∧ PyData.bulkAll p ≤ N ∧ PyData.depthAll p ≤ k ∧ PyData.hasDictAll p = false
section
variable {st : DS}
theorem Rp.int {i : Int} (h : SmI i) : Rp st (.int i) 0 0 := by
  refine ⟨.int i, by simp only [pd], ?_, ?_, by simp [PyData.bulk], by simp [PyData.depth], by simp [PyData.hasDict]⟩
  · simp only [PyData.showable, decide_eq_true_eq]
    by_cases z : i.natAbs = 0
    · rw [z]; decide
    · exact (Nat.log2_lt z).mpr (Nat.lt_of_lt_of_le h (by decide +kernel))
  · simp only [PyData.leavesShort, decide_eq_true_eq]
    have e := int_text_length_le10 (a := i) (k := 500) (by decide) h
    show (Str.ofString (toString i)).length ≤ 600
    rw [PySem.ofString_length]
    exact Nat.le_trans (by first | exact e | simpa [String.length] using e) (by decide)
theorem Rp.str {s : Str} {N : Nat} (h : (s.cps.toList.all fun c => decide (c < 16 ^ 8)) = true) (hn : s.cps.size ≤ N) : Rp st (.str s) N 0 :=
  ⟨.str s, by simp only [pd], by simp [PyData.showable], by simpa only [PyData.leavesShort] using h, by simpa only [PyData.bulk] using hn, by simp [PyData.depth], by simp [PyData.hasDict]⟩
theorem RpL.nil : RpL st [] 0 0 := ⟨[], by simp only [pdL], by simp [PyData.showableAll], by simp [PyData.leavesShortAll], by simp [PyData.bulkAll], by simp [PyData.depthAll], by simp [PyData.hasDictAll]⟩
theorem RpL.cons {d : D} {ds : List D} {N M k j : Nat} (h : Rp st d N k) (hs : RpL st ds M j) : RpL st (d :: ds) (N + 1 + M) (max k j) := by
  obtain ⟨p, a1, a2, a3, a4, a5, a6⟩ := h
  obtain ⟨q, b1, b2, b3, b4, b5, b6⟩ := hs
  refine ⟨p :: q, by simp only [pdL, a1, b1], by simp only [PyData.showableAll, a2, b2]; rfl, by simp only [PyData.leavesShortAll, a3, b3]; rfl, ?_, ?_, by simp only [PyData.hasDictAll, a6, b6]; rfl⟩
  · simp only [PyData.bulkAll]; omega
  · simp only [PyData.depthAll]; omega
theorem RpL.mono {ds : List D} {N M k j : Nat} (h : RpL st ds N k) (a : N ≤ M) (b : k ≤ j) : RpL st ds M j := by
  obtain ⟨p, a1, a2, a3, a4, a5, a6⟩ := h
  exact ⟨p, a1, a2, a3, Nat.le_trans a4 a, Nat.le_trans a5 b, a6⟩
theorem Rp.mono {ds : D} {N M k j : Nat} (h : Rp st ds N k) (a : N ≤ M) (b : k ≤ j) : Rp st ds M j := by
  obtain ⟨p, a1, a2, a3, a4, a5, a6⟩ := h
  exact ⟨p, a1, a2, a3, Nat.le_trans a4 a, Nat.le_trans a5 b, a6⟩
theorem Rp.tup {ds : List D} {N k : Nat} (h : RpL st ds N k) : Rp st (.tup ds) N (k + 1) := by
  obtain ⟨p, a1, a2, a3, a4, a5, a6⟩ := h
  refine ⟨.tuple p, by simp only [pd, a1, Option.map_some], by simpa only [PyData.showable] using a2, by simpa only [PyData.leavesShort] using a3, by simpa only [PyData.bulk] using a4, ?_, by simpa only [PyData.hasDict] using a6⟩
  simp only [PyData.depth]; omega
theorem Rp.lst {ds : List D} {N k : Nat} (h : RpL st ds N k) : Rp st (.lst ds) N (k + 1) := by
  obtain ⟨p, a1, a2, a3, a4, a5, a6⟩ := h
  refine ⟨.list p, by simp only [pd, a1, Option.map_some], by simpa only [PyData.showable] using a2, by simpa only [PyData.leavesShort] using a3, by simpa only [PyData.bulk] using a4, ?_, by simpa only [PyData.hasDict] using a6⟩
  simp only [PyData.depth]; omega
/-- repr is told -/
theorem Rp.repr {d : D} {N k : Nat} (h : Rp st d N k) (hN : N ≤ 20000) (hk : k ≤ 50) : ∃ s, biD .repr st [d] = some (.str s) := by
  obtain ⟨p, a1, a2, a3, a4, a5, a6⟩ := h
  have l := PyData.shown_le_bulk 600 (by decide) p a3
  have l2 : p.shown.length ≤ sizeLine := by
    have e : sizeLine = 16777216 := by decide
    omega
  refine ⟨p.shown, ?_⟩
  show (match pd st d with | some p => if p.showable && decide (p.shown.length ≤ sizeLine) && decide (p.depth ≤ 60) && !p.hasDict then some (D.str p.shown) else none | none => none) = _
  rw [a1]
  dsimp only
  rw [if_pos (by rw [a2, a6, decide_eq_true l2, decide_eq_true (by omega : p.depth ≤ 60)]; rfl)]
end
theorem mulOk_e {i j : Int} {a b : Nat} (h1 : i.natAbs < 2 ^ a) (h2 : j.natAbs < 2 ^ b) (h : a + b ≤ 100000000) : mulOk i j = true := by
  have x := bits_le h1
  have y := bits_le h2
  have e : Builtin.Int.intTooBig ((Builtin.Int.intBits i : Int) + (Builtin.Int.intBits j : Int)) = false := by
    unfold Builtin.Int.intTooBig bitsLine
    exact decide_eq_false (by omega)
  unfold mulOk
  rw [e, Bool.and_false]
  rfl
theorem grow {t k b : Int} {e m : Nat} (h1 : t.natAbs < 2 ^ e) (h2 : b.natAbs < 2 ^ e) (hk : k.natAbs < 2 ^ m) {w : Nat} (hw : w = m + 1) : (t + k * b).natAbs < 2 ^ (e + w) := by
  subst hw
  have a := Int.natAbs_add_le t (k * b)
  rw [Int.natAbs_mul] at a
  have p : k.natAbs * b.natAbs ≤ 2 ^ m * 2 ^ e := Nat.mul_le_mul (by omega) (by omega)
  have p' : k.natAbs * b.natAbs ≤ (2 ^ m - 1) * 2 ^ e := Nat.mul_le_mul (by omega) (by omega)
  have q : (2 ^ m - 1) * 2 ^ e = 2 ^ m * 2 ^ e - 2 ^ e := by rw [Nat.sub_mul, Nat.one_mul]
  have o : 2 ^ e ≤ 2 ^ m * 2 ^ e := Nat.le_mul_of_pos_left _ (Nat.two_pow_pos m)
  have r : 2 ^ (e + (m + 1)) = 2 * (2 ^ m * 2 ^ e) := by
    rw [Nat.pow_add, Nat.pow_succ, Nat.mul_comm, Nat.mul_comm (2 ^ m) 2, Nat.mul_assoc]
  omega
end MP

set_option Elab.async false
set_option linter.all false
set_option maxRecDepth 100000
set_option maxHeartbeats 4000000
namespace MP
open PySem L2 PyProof.Rows
/-! ### what every law draws from -/
def fSource : FDef := { nm := "_law_source", gl := true, np := 1, iso := false, lam := false, N := ["script", "mixed", "cell"], body := [
    .asg (.nm 1) (.lit (.int 11)),
    .forr (.nm 2) .seq [.var 0] [.asg (.nm 1) (.bin .mod (.bi .int [.bin .add (.bin .add (.bin .mul (.var 1) (.lit (.int 69069))) (.bin .mul (.var 2) (.lit (.int 31)))) (.lit (.int 5))]) (.lit (.int 2147483629)))],
    .ret (.dic true [.lit (.str "cells"), .rev true (.lc false (.bi .abs [.var 2]) (.nm 2) .seq [.var 0] [] [2]), .lit (.str "left"), .lit (.int 1), .lit (.str "mixed"), .var 1, .lit (.str "turn"), .lit (.int 0)])] }
def pickC : E := .and (.cmp .gt (.var 1) (.lit (.int 1))) (.and (.cmp .lt (.dix (.var 0) (.lit (.str "left"))) (.lit (.int 2))) (.cmp .gt (.bi .len [.dix (.var 0) (.lit (.str "cells"))]) (.lit (.int 0))))
def pickB : List S := [.asg (.sub (.var 0) (.lit (.str "left"))) (.meth .pop (.dix (.var 0) (.lit (.str "cells"))) [])]
def fPick : FDef := { nm := "_law_pick", gl := true, np := 2, iso := false, lam := false, N := ["source", "many", "left", "mixed"], body := [
    .whl pickC pickB,
    .asg (.nm 2) (.dix (.var 0) (.lit (.str "left"))),
    .ife (.or (.cmp .lt (.var 1) (.lit (.int 2))) (.cmp .gt (.var 2) (.lit (.int 1)))) [.asg (.sub (.var 0) (.lit (.str "left"))) (.bin .fdiv (.var 2) (.bi .max [.lit (.int 1), .var 1])), .ret (.bin .mod (.bi .int [.var 2]) (.bi .max [.lit (.int 1), .var 1]))] [],
    .asg (.sub (.var 0) (.lit (.str "turn"))) (.bin .add (.dix (.var 0) (.lit (.str "turn"))) (.lit (.int 1))),
    .asg (.nm 3) (.bin .mod (.bi .int [.bin .add (.dix (.var 0) (.lit (.str "mixed"))) (.bin .mul (.dix (.var 0) (.lit (.str "turn"))) (.lit (.int 104729)))]) (.lit (.int 998244353))),
    .asg (.nm 3) (.bin .mod (.bi .int [.bin .add (.bin .mul (.var 3) (.var 3)) (.bin .mul (.dix (.var 0) (.lit (.str "turn"))) (.lit (.int 17)))]) (.lit (.int 2147483647))),
    .asg (.sub (.var 0) (.lit (.str "mixed"))) (.var 3),
    .ret (.bin .mod (.bi .int [.bin .fdiv (.var 3) (.lit (.int 16))]) (.var 1))] }
def fOf (i : Nat) : FDef := { nm := "_law_of", gl := true, np := 2, iso := false, lam := false, N := ["source", "some"], body := [
    .ret (.ix (.var 1) (.call i [.var 0, .bi .len [.var 1]]))] }
/-- the state of what is drawn from, and what stands behind it -/
def srcSt (rc : List Int) (l m t : Int) (rest : DS) : DS := .lst (rc.map D.int).reverse :: .dic [(.str "cells", .ref 0), (.str "left", .int l), (.str "mixed", .int m), (.str "turn", .int t)] :: rest
def Src (st rest : DS) : Prop := ∃ rc l m t, rc.length ≤ 63 ∧ st = srcSt rc l m t rest
section
variable {rc : List Int} {l m t : Int} {rest : DS}
theorem s_get0 : getO (srcSt rc l m t rest) 0 = some (.lst (rc.map D.int).reverse) := (rfl)
theorem s_get1 : getO (srcSt rc l m t rest) 1 = some (.dic [(.str "cells", .ref 0), (.str "left", .int l), (.str "mixed", .int m), (.str "turn", .int t)]) := (rfl)
theorem s_cells : dixD (srcSt rc l m t rest) (.ref 1) (.str "cells") = some (.ref 0) := (rfl)
theorem s_left : dixD (srcSt rc l m t rest) (.ref 1) (.str "left") = some (.int l) := (rfl)
theorem s_mixed : dixD (srcSt rc l m t rest) (.ref 1) (.str "mixed") = some (.int m) := (rfl)
theorem s_turn : dixD (srcSt rc l m t rest) (.ref 1) (.str "turn") = some (.int t) := (rfl)
theorem s_pleft {k : Int} : subD (srcSt rc l m t rest) (.ref 1) (.str "left") (.int k) = some (srcSt rc k m t rest) := by
  show (if 4 < sizeLine then _ else none) = _
  rw [if_pos (by decide)]
  rfl
theorem s_pmixed {k : Int} : subD (srcSt rc l m t rest) (.ref 1) (.str "mixed") (.int k) = some (srcSt rc l k t rest) := by
  show (if 4 < sizeLine then _ else none) = _
  rw [if_pos (by decide)]
  rfl
theorem s_pturn {k : Int} : subD (srcSt rc l m t rest) (.ref 1) (.str "turn") (.int k) = some (srcSt rc l m k rest) := by
  show (if 4 < sizeLine then _ else none) = _
  rw [if_pos (by decide)]
  rfl
theorem s_len : biD .len (srcSt rc l m t rest) [.ref 0] = some (.int rc.length) := by
  rw [bi_lenR s_get0, List.length_reverse, List.length_map]
theorem m_pop {st : DS} {n : Nat} {ys : List D} {y : D} (h : getO st n = some (.lst (ys ++ [y]))) : methD .pop st (.ref n) [] = .ok y (setO st n (.lst ys)) := by
  unfold methD
  dsimp only
  rw [h]
  have e1 : (ys ++ [y])[(ys ++ [y]).length - 1]? = some y := by simp
  dsimp only
  rw [e1, List.dropLast_concat]
theorem m_append {st : DS} {n : Nat} {ys : List D} {y : D} (h : getO st n = some (.lst ys)) (hl : ys.length < sizeLine) : methD .append st (.ref n) [y] = .ok .non (setO st n (.lst (ys ++ [y]))) := by
  unfold methD
  dsimp only
  rw [h]
  dsimp only
  rw [if_pos hl]
theorem s_pop {c : Int} : methD .pop (srcSt (c :: rc) l m t rest) (.ref 0) [] = .ok (.int c) (srcSt rc l m t rest) := by
  have e : ((c :: rc).map D.int).reverse = (rc.map D.int).reverse ++ [.int c] := by simp
  rw [m_pop (s_get0.trans (by rw [e]))]
  rfl
theorem s_mty : mtyD .pop (srcSt rc l m t rest) (.ref 0) = true := (rfl)
end
section
variable {P : Nat → Option FDef} {i n : Nat}
theorem whileL_t {c : Env → DS → R Bool} {b : Env → DS → RS} {k : Nat} {ρ ρ' : Env} {st st1 st' : DS} (hc : c ρ st = .ok true st1) (hb : b ρ st1 = .nx ρ' st') : whileL c b (k + 1) ρ st = whileL c b k ρ' st' := by
  show (c ρ st).to ρ _ = _
  rw [hc]
  simp only [to_ok, if_true, hb]
theorem whileL_f {c : Env → DS → R Bool} {b : Env → DS → RS} {k : Nat} {ρ : Env} {st st1 : DS} (hc : c ρ st = .ok false st1) : whileL c b (k + 1) ρ st = .nx ρ st1 := by
  show (c ρ st).to ρ _ = _
  rw [hc]
  simp
def pickM (x : Int) : Int := if x > 1 then x else 1
theorem pickM_pos {x : Int} : pickM x ≠ 0 := by unfold pickM; split <;> omega
/-- the cells are taken till one is left of -/
theorem pick_loop {C : Nat → List D → DS → R D} {many m t : Int} {rest : DS} {x y : Option D} : ∀ (rc : List Int) (l : Int) (fu : Nat), rc.length < fu →
    ∃ rc' l', rc'.length ≤ rc.length ∧ whileL (evalT C pickC) (execs C pickB) fu [some (.ref 1), some (.int many), x, y] (srcSt rc l m t rest) = .nx [some (.ref 1), some (.int many), x, y] (srcSt rc' l' m t rest)
  | rc, l, 0, h => by omega
  | rc, l, fu + 1, h => by
    by_cases hc : 1 < many ∧ l < 2 ∧ 0 < rc.length
    · obtain ⟨h1, h2, h3⟩ := hc
      cases rc with
      | nil => simp at h3
      | cons c rc =>
        obtain ⟨rc', l', e1, e2⟩ := pick_loop (C := C) (many := many) (m := m) (t := t) (rest := rest) (x := x) (y := y) rc c fu (by simp only [List.length_cons] at h; omega)
        refine ⟨rc', l', by simp only [List.length_cons]; omega, ?_⟩
        rw [← e2]
        have h3' : (0 : Int) < ((c :: rc).length : Nat) := by omega
        refine whileL_t (st1 := srcSt (c :: rc) l m t rest) ?_ ?_
        · simp only [pickC, eT_and, eT_cmp, ev_var, getV_s, getV_z, of_some, bind_ok, ev_lit, c_gt, c_lt, ev_dix, s_left, s_cells, ev_bi, eL_c, eL_n, s_len, h1, h2, h3', decide_true, if_true]
        · simp only [pickB, exs_c, exs_n, ex_asg, aT_sub, ev_meth, ev_dix, ev_var, ev_lit, getV_s, getV_z, of_some, bind_ok, s_cells, s_mty, if_true, eL_n, s_pop, to_ok, s_pleft, sbind_nx]
    · refine ⟨rc, l, Nat.le_refl _, ?_⟩
      refine whileL_f ?_
      by_cases h1 : 1 < many
      · by_cases h2 : l < 2
        · have h3 : ¬ (0 : Int) < (rc.length : Nat) := by omega
          simp only [pickC, eT_and, eT_cmp, ev_var, getV_s, getV_z, of_some, bind_ok, ev_lit, c_gt, c_lt, ev_dix, s_left, s_cells, ev_bi, eL_c, eL_n, s_len, h1, h2, h3, decide_true, decide_false, if_true]
        · simp only [pickC, eT_and, eT_cmp, ev_var, getV_s, getV_z, of_some, bind_ok, ev_lit, c_gt, c_lt, ev_dix, s_left, s_cells, ev_bi, eL_c, eL_n, s_len, h1, h2, decide_true, decide_false, if_true, if_false, Bool.false_eq_true]
      · simp only [pickC, eT_and, eT_cmp, ev_var, getV_s, getV_z, of_some, bind_ok, ev_lit, c_gt, h1, decide_false, if_false, Bool.false_eq_true]
theorem fmod_lt' {a b : Int} (h : 0 < b) : 0 ≤ a.fmod b ∧ a.fmod b < b := by
  rw [Int.fmod_eq_emod_of_nonneg _ (by omega)]
  exact ⟨Int.emod_nonneg _ (by omega), Int.emod_lt_of_pos _ h⟩
theorem pick_ok (h : P i = some fPick) {st rest : DS} (hs : Src st rest) {many : Int} (h1 : 1 ≤ many) (hb : many.natAbs < 2 ^ 8000) :
    ∃ r st', callN P (n + 1) i [.ref 1, .int many] st = .ok (.int r) st' ∧ 0 ≤ r ∧ r < many ∧ Src st' rest := by
  obtain ⟨rc, l, m, t, hl, rfl⟩ := hs
  rw [call_eq h rfl rfl (by show 2 ≤ 4; decide)]
  obtain ⟨rc', l', e1, e2⟩ := pick_loop (C := callN P n) (many := many) (m := m) (t := t) (rest := rest) (x := none) (y := none) rc l fuel (Nat.lt_of_le_of_lt hl (by decide +kernel))
  have e3 := (ex_whl (C := callN P n) (c := pickC) (b := pickB)).trans e2
  have hm : (if many > 1 then many else 1) = many := by split <;> omega
  have hd : divOk l' many = true := divOk_r hb (by omega)
  have hn : many ≠ 0 := by omega
  by_cases hx : many < 2 ∨ 1 < l'
  · refine ⟨_, srcSt rc' (l'.fdiv many) m t rest, ?_, (fmod_lt' (a := l') h1).1, (fmod_lt' (a := l') h1).2, rc', _, _, _, by omega, rfl⟩
    have ec : evalT (callN P n) (.or (.cmp .lt (.var 1) (.lit (.int 2))) (.cmp .gt (.var 2) (.lit (.int 1)))) [some (.ref 1), some (.int many), some (.int l'), none] (srcSt rc' l' m t rest) = .ok true (srcSt rc' l' m t rest) := by
      by_cases h2 : many < 2
      · simp [h2]
      · have h3 : 1 < l' := by omega
        simp [h2, h3]
    simp only [fPick, List.map_cons, List.map_nil, List.length_cons, List.length_nil, List.replicate, List.cons_append, List.nil_append, exs_c, exs_n, e3, sbind_nx, ex_asg, ev_dix, ev_var, ev_lit, getV_s, getV_z, of_some, bind_ok, s_left, to_ok, aT_nm, setV_s, setV_z, ex_ife, ec, if_true, aT_sub, ev_bin, ev_bi, eL_c, eL_n, bi_max, hm, b_div hd, s_pleft, ex_ret, bi_int, b_mod hn, sbind_ret, end_ret]
  · have ec : evalT (callN P n) (.or (.cmp .lt (.var 1) (.lit (.int 2))) (.cmp .gt (.var 2) (.lit (.int 1)))) [some (.ref 1), some (.int many), some (.int l'), none] (srcSt rc' l' m t rest) = .ok false (srcSt rc' l' m t rest) := by
      have h2 : ¬ many < 2 := by omega
      have h3 : ¬ 1 < l' := by omega
      simp [h2, h3]
    have b0 : ∀ a : Int, mulOk a 104729 = true := fun a => mulOk_r (by decide)
    have b3 : ∀ a : Int, mulOk a 17 = true := fun a => mulOk_r (by decide)
    have b1 : ∀ a : Int, binD .mod = binD .mod := fun a => rfl
    generalize hA : (m + (t + 1) * 104729).fmod 998244353 = A
    have hA1 : A.natAbs < 2 ^ 64 := by
      have := fmod_lt' (a := m + (t + 1) * 104729) (b := 998244353) (by decide)
      rw [hA] at this
      have e : (2 : Nat) ^ 64 = 18446744073709551616 := by decide
      omega
    have b2 : mulOk A A = true := mulOk_l hA1
    have d16 : ∀ a : Int, divOk a 16 = true := fun a => divOk_r (by decide +kernel) (by decide)
    refine ⟨_, srcSt rc' l' ((A * A + (t + 1) * 17).fmod 2147483647) (t + 1) rest, ?_, (fmod_lt' (a := ((A * A + (t + 1) * 17).fmod 2147483647).fdiv 16) h1).1, (fmod_lt' (a := ((A * A + (t + 1) * 17).fmod 2147483647).fdiv 16) h1).2, rc', _, _, _, by omega, rfl⟩
    have n1 : (998244353 : Int) ≠ 0 := by decide
    have n2 : (2147483647 : Int) ≠ 0 := by decide
    simp only [fPick, List.map_cons, List.map_nil, List.length_cons, List.length_nil, List.replicate, List.cons_append, List.nil_append, exs_c, exs_n, e3, sbind_nx, ex_asg, ev_dix, ev_var, ev_lit, getV_s, getV_z, of_some, bind_ok, s_left, s_turn, s_mixed, to_ok, aT_nm, setV_s, setV_z, ex_ife, ec, if_false, Bool.false_eq_true, aT_sub, ev_bin, ev_bi, eL_c, eL_n, b_add, b_mul (b0 _), b_mul (b3 _), b_mul b2, s_pturn, bi_int, b_mod n1, b_mod n2, hA, s_pmixed, b_div (d16 _), b_mod hn, ex_ret, sbind_ret, end_ret]
/-- one of a list -/
theorem of_ok {j : Nat} (h : P i = some fPick) (h2 : P j = some (fOf i)) {st rest : DS} (hs : Src st rest) {ds : List D} (h0 : 0 < ds.length) (hl : ds.length ≤ 1000000) :
    ∃ k st', ∃ hk : k < ds.length, callN P (n + 2) j [.ref 1, .lst ds] st = .ok ds[k] st' ∧ Src st' rest := by
  obtain ⟨r, st', e, r0, r1, s⟩ := pick_ok (n := n) h hs (many := (ds.length : Nat)) (by omega) (Nat.lt_of_le_of_lt (by omega : ((ds.length : Nat) : Int).natAbs ≤ 1000000) (by decide +kernel))
  have hk : r.toNat < ds.length := by omega
  refine ⟨r.toNat, st', hk, ?_, s⟩
  rw [call_eq h2 rfl rfl (by show 2 ≤ 2; decide)]
  have e2 : ixD st' (.lst ds) (.int r) = some ds[r.toNat] := by
    show (match seqD st' (.lst ds) with | some xs => atI xs r | none => none) = _
    show atI ds r = _
    unfold atI ixN
    have a1 : ¬ r < 0 := by omega
    have a2 : r < (ds.length : Int) := by omega
    simp [a1, a2, r0, List.getElem?_eq_getElem hk]
  simp only [fOf, List.map_cons, List.map_nil, List.length_cons, List.length_nil, List.replicate, List.append_nil, exs_c, exs_n, ex_ret, ev_ix, ev_var, ev_call, eL_c, eL_n, ev_bi, getV_s, getV_z, of_some, bind_ok, bi_lenL, e, e2, to_ok, sbind_ret, end_ret, Nat.sub_self]
theorem lcL_map {α : Type} {f : D → DS → R (Option D)} {a g : α → D} {st : DS} : ∀ (xs : List α) (acc : List D), (∀ x ∈ xs, f (a x) st = .ok (some (g x)) st) → acc.length + xs.length ≤ sizeLine → lcL f (xs.map a) acc st = .ok (acc ++ xs.map g) st
  | [], acc, _, _ => by simp [lcL_n]
  | x :: xs, acc, h, hl => by
    have hl' : acc.length < sizeLine := by simp only [List.length_cons] at hl; omega
    rw [List.map_cons, lcL_y (h x (List.mem_cons_self ..)) hl', lcL_map xs (acc ++ [g x]) (fun y hy => h y (List.mem_cons_of_mem _ hy)) (by simp only [List.length_append, List.length_cons, List.length_nil] at hl ⊢; omega)]
    simp
theorem source_loop {C : Nat → List D → DS → R D} {s : Option D} {st : DS} : ∀ (ns : List Int) (m : Int) (x : Option D), ∃ m' x', forL (forB C (.nm 2) [.asg (.nm 1) (.bin .mod (.bi .int [.bin .add (.bin .add (.bin .mul (.var 1) (.lit (.int 69069))) (.bin .mul (.var 2) (.lit (.int 31)))) (.lit (.int 5))]) (.lit (.int 2147483629)))]) (ns.map D.int) [s, some (.int m), x] st = .nx [s, some (.int m'), x'] st
  | [], m, x => ⟨m, x, rfl⟩
  | c :: ns, m, x => by
    have b1 : mulOk m 69069 = true := mulOk_r (by decide)
    have b2 : mulOk c 31 = true := mulOk_r (by decide)
    have n1 : (2147483629 : Int) ≠ 0 := by decide
    obtain ⟨m', x', e⟩ := source_loop ns ((m * 69069 + c * 31 + 5).fmod 2147483629) (some (.int c))
    refine ⟨m', x', ?_⟩
    rw [List.map_cons, ← e]
    refine forL_c ?_
    simp only [forB_eq, tnD_nm, of_some, to_ok, setV_s, setV_z, exs_c, exs_n, ex_asg, ev_bin, ev_bi, eL_c, eL_n, ev_var, ev_lit, getV_s, getV_z, bind_ok, b_mul b1, b_mul b2, b_add, bi_int, b_mod n1, aT_nm, sbind_nx]
theorem source_ok (h : P i = some fSource) (ns : List Int) (hl : ns.length ≤ 63) : ∃ st', callN P (n + 1) i [.scr (ns.map D.int)] [] = .ok (.ref 1) st' ∧ Src st' [] := by
  rw [call_eq h rfl rfl (by show 1 ≤ 3; decide)]
  obtain ⟨m, x, e⟩ := source_loop (C := callN P n) (s := some (.scr (ns.map D.int))) (st := []) ns 11 none
  refine ⟨srcSt (ns.map fun (c : Int) => ((c.natAbs : Nat) : Int)) 1 m 0 [], ?_, _, _, _, _, by simpa using hl, rfl⟩
  have e2 : lcL (lcW (callN P n) (.bi .abs [.var 2]) (.nm 2) [] [2] [some (.scr (ns.map D.int)), some (.int m), x]) (ns.map D.int) [] [] = .ok (ns.map fun (c : Int) => D.int ((c.natAbs : Nat) : Int)) [] := by
    have := lcL_map (f := lcW (callN P n) (.bi .abs [.var 2]) (.nm 2) [] [2] [some (.scr (ns.map D.int)), some (.int m), x]) (a := D.int) (g := fun (c : Int) => D.int ((c.natAbs : Nat) : Int)) (st := []) ns [] (fun c _ => by
      simp only [lcW_eq, tnD_nm, wipeV_c, wipeV_n, setV_s, setV_z, of_some, bind_ok, eTs_n, if_true, ev_bi, eL_c, eL_n, ev_var, getV_s, getV_z, bi_abs]) (Nat.le_trans (by simpa using hl) (by decide : 63 ≤ sizeLine))
    rw [this, List.nil_append]
  have e3 : itD .seq [] [.scr (ns.map D.int)] = some (ns.map D.int) := (rfl)
  have e4 : lisD [] (.lst (ns.map fun (c : Int) => D.int ((c.natAbs : Nat) : Int))) = some (ns.map fun (c : Int) => D.int ((c.natAbs : Nat) : Int)) := (rfl)
  have e5 : ∀ st : DS, evalL (callN P n) [.lit (.str "cells"), .rev true (.lc false (.bi .abs [.var 2]) (.nm 2) .seq [.var 0] [] [2]), .lit (.str "left"), .lit (.int 1), .lit (.str "mixed"), .var 1, .lit (.str "turn"), .lit (.int 0)] [some (.scr (ns.map D.int)), some (.int m), x] [] = .ok [.str "cells", .ref 0, .str "left", .int 1, .str "mixed", .int m, .str "turn", .int 0] [.lst (ns.map fun (c : Int) => D.int ((c.natAbs : Nat) : Int)).reverse] := fun st => by
    simp only [eL_c, eL_n, ev_lit, ev_rev, ev_lc, ev_var, getV_s, getV_z, of_some, bind_ok, e2, e3, e4, newL_f, newL_t, List.length_nil, List.nil_append]
  have e6 := ev_dic (m := true) (e5 []) (kvs := [(.str "cells", .ref 0), (.str "left", .int 1), (.str "mixed", .int m), (.str "turn", .int 0)]) (by rfl) ⟨by show 4 ≤ 15; decide, by rfl⟩
  have e7 : mergeP [] [((.str "cells" : D), (.ref 0 : D)), (.str "left", .int 1), (.str "mixed", .int m), (.str "turn", .int 0)] = [(.str "cells", .ref 0), (.str "left", .int 1), (.str "mixed", .int m), (.str "turn", .int 0)] := by rfl
  rw [e7] at e6
  simp only [fSource, List.map_cons, List.map_nil, List.length_cons, List.length_nil, List.replicate, List.cons_append, List.nil_append, exs_c, exs_n, ex_asg, ev_lit, to_ok, aT_nm, setV_s, setV_z, sbind_nx, ex_for, eL_c, eL_n, ev_var, getV_s, getV_z, of_some, bind_ok, e3, e, ex_ret, e6, newD_t, sbind_ret, end_ret, srcSt, List.map_map, Function.comp_def]
end
end MP

set_option Elab.async false
set_option linter.all false
set_option maxRecDepth 100000
set_option maxHeartbeats 4000000
namespace MP
open PySem L2 PyProof.Rows
/-! ### == of data, repr of data -/
mutual
def toP : D → PyData
  | .non => .none
  | .bl b => .bool b
  | .int i => .int i
  | .str s => .str s
  | .tup xs => .tuple (toPL xs)
  | .lst xs => .list (toPL xs)
  | .scr xs => .list (toPL xs)
  | .dic _ => .none
  | .ref _ => .none
def toPL : List D → List PyData
  | [] => []
  | x :: xs => toP x :: toPL xs
end
mutual
/-- data without dicts and objects -/
def pln : D → Bool
  | .non => true
  | .bl _ => true
  | .int _ => true
  | .str _ => true
  | .tup xs => plnL xs
  | .lst xs => plnL xs
  | .scr xs => plnL xs
  | .dic _ => false
  | .ref _ => false
def plnL : List D → Bool
  | [] => true
  | x :: xs => pln x && plnL xs
end
@[simp] theorem pln_non : pln .non = true := by simp only [pln]
@[simp] theorem pln_bl {b : Bool} : pln (.bl b) = true := by simp only [pln]
@[simp] theorem pln_int {b : Int} : pln (.int b) = true := by simp only [pln]
@[simp] theorem pln_str {b : Str} : pln (.str b) = true := by simp only [pln]
@[simp] theorem pln_tup {b : List D} : pln (.tup b) = plnL b := by simp only [pln]
@[simp] theorem pln_lst {b : List D} : pln (.lst b) = plnL b := by simp only [pln]
@[simp] theorem plnL_n : plnL [] = true := by simp only [plnL]
@[simp] theorem plnL_c {x : D} {b : List D} : plnL (x :: b) = (pln x && plnL b) := by simp only [plnL]
theorem plnL_all : ∀ {b : List D}, plnL b = true ↔ ∀ x ∈ b, pln x = true
  | [] => by simp
  | x :: b => by simp [plnL_all (b := b)]
section
variable {st : DS}
mutual
theorem pd_pln : ∀ d : D, pln d = true → pd st d = some (toP d)
  | .non, _ => by simp only [pd, toP]
  | .bl _, _ => by simp only [pd, toP]
  | .int _, _ => by simp only [pd, toP]
  | .str _, _ => by simp only [pd, toP]
  | .tup xs, h => by simp only [pd, toP, pd_plnL xs (by simpa only [pln] using h), Option.map_some]
  | .lst xs, h => by simp only [pd, toP, pd_plnL xs (by simpa only [pln] using h), Option.map_some]
  | .scr xs, h => by simp only [pd, toP, pd_plnL xs (by simpa only [pln] using h), Option.map_some]
  | .dic xs, h => by simp [pln] at h
  | .ref xs, h => by simp [pln] at h
theorem pd_plnL : ∀ d : List D, plnL d = true → pdL st d = some (toPL d)
  | [], _ => by simp only [pdL, toPL]
  | x :: xs, h => by
    simp only [plnL, Bool.and_eq_true] at h
    simp only [pdL, toPL, pd_pln x h.1, pd_plnL xs h.2]
end
end
def eqP (x y : D) : Bool := PyData.eqv (toP x) (toP y)
def eqPL (x y : List D) : Bool := PyData.eqvAll (toPL x) (toPL y)
@[simp] theorem eqP_int {i j : Int} : eqP (.int i) (.int j) = decide (i = j) := by simp only [eqP, toP, PyData.eqv]; rfl
@[simp] theorem eqP_bl {i j : Bool} : eqP (.bl i) (.bl j) = decide (i = j) := by simp only [eqP, toP, PyData.eqv]; rfl
theorem str_beq {i j : Str} : (i == j) = decide (i = j) := by
  by_cases h : i = j
  · rw [decide_eq_true h, h]; exact beq_self_eq_true j
  · rw [decide_eq_false h]; exact beq_eq_false_iff_ne.mpr h
@[simp] theorem eqP_str {i j : Str} : eqP (.str i) (.str j) = decide (i = j) := by simp only [eqP, toP, PyData.eqv, str_beq]
@[simp] theorem eqP_non : eqP .non .non = true := by simp only [eqP, toP, PyData.eqv]
@[simp] theorem eqP_tup {i j : List D} : eqP (.tup i) (.tup j) = eqPL i j := by simp only [eqP, toP, PyData.eqv, eqPL]
@[simp] theorem eqP_lst {i j : List D} : eqP (.lst i) (.lst j) = eqPL i j := by simp only [eqP, toP, PyData.eqv, eqPL]
@[simp] theorem eqP_tl {i j : List D} : eqP (.tup i) (.lst j) = false := by simp only [eqP, toP, PyData.eqv]
@[simp] theorem eqP_lt {i j : List D} : eqP (.lst i) (.tup j) = false := by simp only [eqP, toP, PyData.eqv]
@[simp] theorem eqP_nt {j : List D} : eqP .non (.tup j) = false := by simp only [eqP, toP, PyData.eqv]
@[simp] theorem eqP_tn {j : List D} : eqP (.tup j) .non = false := by simp only [eqP, toP, PyData.eqv]
@[simp] theorem eqP_it {i : Int} {j : List D} : eqP (.int i) (.tup j) = false := by simp only [eqP, toP, PyData.eqv]
@[simp] theorem eqP_ti {i : Int} {j : List D} : eqP (.tup j) (.int i) = false := by simp only [eqP, toP, PyData.eqv]
@[simp] theorem eqP_is {i : Int} {j : Str} : eqP (.int i) (.str j) = false := by simp only [eqP, toP, PyData.eqv]
@[simp] theorem eqP_si {i : Int} {j : Str} : eqP (.str j) (.int i) = false := by simp only [eqP, toP, PyData.eqv]
@[simp] theorem eqP_in {i : Int} : eqP (.int i) .non = false := by simp only [eqP, toP, PyData.eqv]
@[simp] theorem eqP_ni {i : Int} : eqP .non (.int i) = false := by simp only [eqP, toP, PyData.eqv]
@[simp] theorem eqP_ib {i : Int} {b : Bool} : eqP (.int i) (.bl b) = (i == if b then 1 else 0) := by simp only [eqP, toP, PyData.eqv]
@[simp] theorem eqP_bi {i : Int} {b : Bool} : eqP (.bl b) (.int i) = ((if b then 1 else 0) == i) := by simp only [eqP, toP, PyData.eqv]
@[simp] theorem eqPL_n : eqPL [] [] = true := by simp only [eqPL, toPL, PyData.eqvAll]
@[simp] theorem eqPL_c {x y : D} {xs ys : List D} : eqPL (x :: xs) (y :: ys) = (eqP x y && eqPL xs ys) := by simp only [eqPL, eqP, toPL, PyData.eqvAll]
@[simp] theorem eqPL_nc {y : D} {ys : List D} : eqPL [] (y :: ys) = false := by simp only [eqPL, eqP, toPL, PyData.eqvAll]
@[simp] theorem eqPL_cn {y : D} {ys : List D} : eqPL (y :: ys) [] = false := by simp only [eqPL, eqP, toPL, PyData.eqvAll]
/-- what == may be asked of -/
def Sh (d : D) (k : Nat) : Prop := pln d = true ∧ (toP d).canLay0 = true ∧ (toP d).depth ≤ k
def ShL (d : List D) (k : Nat) : Prop := plnL d = true ∧ PyData.canLayAll0 (toPL d) = true ∧ PyData.depthAll (toPL d) ≤ k
theorem Sh.int {i : Int} {k : Nat} : Sh (.int i) k := ⟨by simp, by simp [toP, PyData.canLay0], by simp [toP, PyData.depth]⟩
theorem Sh.bl {i : Bool} {k : Nat} : Sh (.bl i) k := ⟨by simp, by simp [toP, PyData.canLay0], by simp [toP, PyData.depth]⟩
theorem Sh.non {k : Nat} : Sh .non k := ⟨by simp, by simp [toP, PyData.canLay0], by simp [toP, PyData.depth]⟩
theorem Sh.str {s : Str} {k : Nat} (h : PyData.strOk s = true) : Sh (.str s) k := ⟨by simp, by simpa [toP, PyData.canLay0] using h, by simp [toP, PyData.depth]⟩
theorem ShL.nil {k : Nat} : ShL [] k := ⟨by simp, by simp [toPL, PyData.canLayAll0], by simp [toPL, PyData.depthAll]⟩
theorem ShL.cons {d : D} {ds : List D} {k : Nat} (h : Sh d k) (hs : ShL ds k) : ShL (d :: ds) k := ⟨by simp [h.1, hs.1], by simp [toPL, PyData.canLayAll0, h.2.1, hs.2.1], by
  have a := h.2.2
  have b := hs.2.2
  simp only [toPL, PyData.depthAll]; omega⟩
theorem Sh.tup {ds : List D} {k : Nat} (h : ShL ds k) : Sh (.tup ds) (k + 1) := ⟨by simp [h.1], by simp only [toP, PyData.canLay0]; exact h.2.1, by
  have a := h.2.2
  simp only [toP, PyData.depth]; omega⟩
theorem Sh.lst {ds : List D} {k : Nat} (h : ShL ds k) : Sh (.lst ds) (k + 1) := ⟨by simp [h.1], by simp only [toP, PyData.canLay0]; exact h.2.1, by
  have a := h.2.2
  simp only [toP, PyData.depth]; omega⟩
theorem Sh.mono {d : D} {j k : Nat} (h : Sh d j) (l : j ≤ k) : Sh d k := ⟨h.1, h.2.1, Nat.le_trans h.2.2 l⟩
theorem ShL.mono {d : List D} {j k : Nat} (h : ShL d j) (l : j ≤ k) : ShL d k := ⟨h.1, h.2.1, Nat.le_trans h.2.2 l⟩
theorem ShL.map {α : Type} {f : α → D} {k : Nat} (h : ∀ a, Sh (f a) k) : ∀ xs : List α, ShL (xs.map f) k
  | [] => .nil
  | x :: xs => .cons (h x) (ShL.map h xs)
theorem ShL.app {ds es : List D} {k : Nat} (h : ShL ds k) (g : ShL es k) : ShL (ds ++ es) k := by
  induction ds with
  | nil => exact g
  | cons x xs ih =>
    have a : plnL (x :: xs) = true := h.1
    have b := h.2.1
    have c := h.2.2
    simp only [plnL_c, Bool.and_eq_true] at a
    simp only [toPL, PyData.canLayAll0, Bool.and_eq_true] at b
    simp only [toPL, PyData.depthAll] at c
    exact .cons ⟨a.1, b.1, by omega⟩ (ih ⟨a.2, b.2, by omega⟩)
theorem Sh.shaped {d : D} (h : Sh d 64) : SeqAt.shaped (toP d) = true := by
  unfold SeqAt.shaped
  rw [h.2.1, decide_eq_true h.2.2]
  rfl
section
variable {st : DS}
theorem eqD_gen {x y : D} (hx : Sh x 64) (hy : Sh y 64) : eqD st x y = some (eqP x y) := by
  have key : (match pd st x, pd st y with
    | some a, some b => if SeqAt.shaped a && SeqAt.shaped b then some (PyData.eqv a b) else none
    | _, _ => none) = some (eqP x y) := by
    rw [pd_pln x hx.1, pd_pln y hy.1]
    dsimp only
    rw [hx.shaped, hy.shaped]
    rfl
  cases x with
  | int i => cases y with
    | int j => rw [eqP_int]; rfl
    | _ => exact key
  | str i => cases y with
    | str j => rw [eqP_str]; rfl
    | _ => exact key
  | bl i => cases y with
    | bl j => rw [eqP_bl]; rfl
    | _ => exact key
  | _ => exact key
theorem c_eqG {x y : D} (hx : Sh x 64) (hy : Sh y 64) : cmpD .eq st x y = some (eqP x y) := eqD_gen hx hy
theorem c_neG {x y : D} (hx : Sh x 64) (hy : Sh y 64) : cmpD .ne st x y = some (!eqP x y) := by
  show (eqD st x y).map (!·) = _
  rw [eqD_gen hx hy]
  rfl
end
/-! ### the texts of data -/
def smB (i : Int) : Bool := decide (i.natAbs < 10 ^ 500)
theorem smB_iff {i : Int} : smB i = true ↔ SmI i := by unfold smB SmI; simp
theorem smB_of {i : Int} (h : SmI i) : smB i = true := smB_iff.mpr h
def okS (s : Str) : Bool := s.cps.toList.all fun c => decide (c < 16 ^ 8)
mutual
/-- data whose numbers are not too long -/
def rq : D → Bool
  | .non => true
  | .bl _ => true
  | .int i => smB i
  | .str s => okS s
  | .tup xs => rqL xs
  | .lst xs => rqL xs
  | .scr xs => false
  | .dic xs => false
  | .ref n => false
def rqL : List D → Bool
  | [] => true
  | x :: xs => rq x && rqL xs
end
mutual
/-- bulk, as the text of data is long -/
def bk : D → Nat
  | .non => 0
  | .bl _ => 0
  | .int i => 0
  | .str s => s.cps.size
  | .tup xs => bkL xs
  | .lst xs => bkL xs
  | .scr xs => 0
  | .dic xs => 0
  | .ref n => 0
def bkL : List D → Nat
  | [] => 0
  | x :: xs => bk x + 1 + bkL xs
end
mutual
def dp : D → Nat
  | .non => 0
  | .bl _ => 0
  | .int i => 0
  | .str s => 0
  | .tup xs => dpL xs + 1
  | .lst xs => dpL xs + 1
  | .scr xs => 0
  | .dic xs => 0
  | .ref n => 0
def dpL : List D → Nat
  | [] => 0
  | x :: xs => max (dp x) (dpL xs)
end
@[simp] theorem rq_non : rq .non = true := by simp only [rq]
@[simp] theorem rq_bl {b : Bool} : rq (.bl b) = true := by simp only [rq]
@[simp] theorem rq_int {b : Int} : rq (.int b) = smB b := by simp only [rq]
@[simp] theorem rq_str {b : Str} : rq (.str b) = okS b := by simp only [rq]
@[simp] theorem rq_tup {b : List D} : rq (.tup b) = rqL b := by simp only [rq]
@[simp] theorem rq_lst {b : List D} : rq (.lst b) = rqL b := by simp only [rq]
@[simp] theorem rqL_n : rqL [] = true := by simp only [rqL]
@[simp] theorem rqL_c {x : D} {xs : List D} : rqL (x :: xs) = (rq x && rqL xs) := by simp only [rqL]
@[simp] theorem bk_non : bk .non = 0 := by simp only [bk]
@[simp] theorem bk_bl {b : Bool} : bk (.bl b) = 0 := by simp only [bk]
@[simp] theorem bk_int {b : Int} : bk (.int b) = 0 := by simp only [bk]
@[simp] theorem bk_str {b : Str} : bk (.str b) = b.cps.size := by simp only [bk]
@[simp] theorem bk_tup {b : List D} : bk (.tup b) = bkL b := by simp only [bk]
@[simp] theorem bk_lst {b : List D} : bk (.lst b) = bkL b := by simp only [bk]
@[simp] theorem bkL_n : bkL [] = 0 := by simp only [bkL]
@[simp] theorem bkL_c {x : D} {xs : List D} : bkL (x :: xs) = bk x + 1 + bkL xs := by simp only [bkL]
@[simp] theorem dp_non : dp .non = 0 := by simp only [dp]
@[simp] theorem dp_bl {b : Bool} : dp (.bl b) = 0 := by simp only [dp]
@[simp] theorem dp_int {b : Int} : dp (.int b) = 0 := by simp only [dp]
@[simp] theorem dp_str {b : Str} : dp (.str b) = 0 := by simp only [dp]
@[simp] theorem dp_tup {b : List D} : dp (.tup b) = dpL b + 1 := by simp only [dp]
@[simp] theorem dp_lst {b : List D} : dp (.lst b) = dpL b + 1 := by simp only [dp]
@[simp] theorem dpL_n : dpL [] = 0 := by simp only [dpL]
@[simp] theorem dpL_c {x : D} {xs : List D} : dpL (x :: xs) = max (dp x) (dpL xs) := by simp only [dpL]
theorem rqL_all : ∀ {b : List D}, rqL b = true ↔ ∀ x ∈ b, rq x = true
  | [] => by simp
  | x :: b => by simp [rqL_all (b := b)]
theorem rqL_app : ∀ {a b : List D}, rqL (a ++ b) = (rqL a && rqL b)
  | [], b => by simp
  | x :: a, b => by simp [rqL_app (a := a), Bool.and_assoc]
theorem bkL_app : ∀ {a b : List D}, bkL (a ++ b) = bkL a + bkL b
  | [], b => by simp
  | x :: a, b => by simp only [List.cons_append, bkL_c, bkL_app (a := a)]; omega
theorem dpL_app : ∀ {a b : List D}, dpL (a ++ b) = max (dpL a) (dpL b)
  | [], b => by simp
  | x :: a, b => by simp only [List.cons_append, dpL_c, dpL_app (a := a)]; omega
theorem bkL_le {k : Nat} : ∀ {b : List D}, (∀ x ∈ b, bk x ≤ k) → bkL b ≤ (k + 1) * b.length
  | [], _ => by simp
  | x :: b, h => by
    have a := h x (List.mem_cons_self ..)
    have c := bkL_le (b := b) fun y hy => h y (List.mem_cons_of_mem _ hy)
    simp only [bkL_c, List.length_cons, Nat.mul_add]
    omega
theorem dpL_le {k : Nat} : ∀ {b : List D}, (∀ x ∈ b, dp x ≤ k) → dpL b ≤ k
  | [], _ => by simp
  | x :: b, h => by
    have a := h x (List.mem_cons_self ..)
    have c := dpL_le (b := b) fun y hy => h y (List.mem_cons_of_mem _ hy)
    simp only [dpL_c]
    omega
mutual
theorem rq_ok : ∀ d : D, rq d = true → pln d = true ∧ (toP d).showable = true ∧ (toP d).leavesShort 600 = true ∧ (toP d).hasDict = false ∧ (toP d).bulk = bk d ∧ (toP d).depth = dp d
  | .non, _ => by simp [toP, PyData.showable, PyData.leavesShort, PyData.hasDict, PyData.bulk, PyData.depth]
  | .bl _, _ => by simp [toP, PyData.showable, PyData.leavesShort, PyData.hasDict, PyData.bulk, PyData.depth]
  | .int i, h => by
    have hi : SmI i := smB_iff.mp (by simpa using h)
    refine ⟨by simp, ?_, ?_, by simp [toP, PyData.hasDict], by simp [toP, PyData.bulk], by simp [toP, PyData.depth]⟩
    · simp only [toP, PyData.showable, decide_eq_true_eq]
      by_cases z : i.natAbs = 0
      · rw [z]; decide
      · exact (Nat.log2_lt z).mpr (Nat.lt_of_lt_of_le hi (by decide +kernel))
    · simp only [toP, PyData.leavesShort, decide_eq_true_eq]
      have e := int_text_length_le10 (a := i) (k := 500) (by decide) hi
      show (Str.ofString (toString i)).length ≤ 600
      rw [PySem.ofString_length]
      exact Nat.le_trans (by first | exact e | simpa [String.length] using e) (by decide)
  | .str s, h => by
    have hs : okS s = true := by simpa using h
    exact ⟨by simp, by simp [toP, PyData.showable], by simp only [toP, PyData.leavesShort]; exact hs, by simp [toP, PyData.hasDict], by simp [toP, PyData.bulk], by simp [toP, PyData.depth]⟩
  | .tup xs, h => by
    obtain ⟨a1, a2, a3, a4, a5, a6⟩ := rqL_ok xs (by simpa using h)
    exact ⟨by simpa using a1, by simp only [toP, PyData.showable]; exact a2, by simp only [toP, PyData.leavesShort]; exact a3, by simp only [toP, PyData.hasDict]; exact a4, by simp only [toP, PyData.bulk, bk_tup]; exact a5, by simp only [toP, PyData.depth, dp_tup]; omega⟩
  | .lst xs, h => by
    obtain ⟨a1, a2, a3, a4, a5, a6⟩ := rqL_ok xs (by simpa using h)
    exact ⟨by simpa using a1, by simp only [toP, PyData.showable]; exact a2, by simp only [toP, PyData.leavesShort]; exact a3, by simp only [toP, PyData.hasDict]; exact a4, by simp only [toP, PyData.bulk, bk_lst]; exact a5, by simp only [toP, PyData.depth, dp_lst]; omega⟩
  | .scr xs, h => by simp [rq] at h
  | .dic xs, h => by simp [rq] at h
  | .ref xs, h => by simp [rq] at h
theorem rqL_ok : ∀ d : List D, rqL d = true → plnL d = true ∧ PyData.showableAll (toPL d) = true ∧ PyData.leavesShortAll 600 (toPL d) = true ∧ PyData.hasDictAll (toPL d) = false ∧ PyData.bulkAll (toPL d) = bkL d ∧ PyData.depthAll (toPL d) = dpL d
  | [], _ => by simp [toPL, PyData.showableAll, PyData.leavesShortAll, PyData.hasDictAll, PyData.bulkAll, PyData.depthAll]
  | x :: xs, h => by
    simp only [rqL_c, Bool.and_eq_true] at h
    obtain ⟨a1, a2, a3, a4, a5, a6⟩ := rq_ok x h.1
    obtain ⟨b1, b2, b3, b4, b5, b6⟩ := rqL_ok xs h.2
    refine ⟨by simp [a1, b1], by simp only [toPL, PyData.showableAll, a2, b2]; rfl, by simp only [toPL, PyData.leavesShortAll, a3, b3]; rfl, by simp only [toPL, PyData.hasDictAll, a4, b4]; rfl, by simp only [toPL, PyData.bulkAll, a5, b5, bkL_c], by simp only [toPL, PyData.depthAll, a6, b6, dpL_c]⟩
end
/-- the text of data -/
def rpS (d : D) : Str := (toP d).shown
theorem bi_repr {st : DS} {d : D} (h : rq d = true) (hb : bk d ≤ 20000) (hd : dp d ≤ 50) : biD .repr st [d] = some (.str (rpS d)) := by
  obtain ⟨a1, a2, a3, a4, a5, a6⟩ := rq_ok d h
  have l := PyData.shown_le_bulk 600 (by decide) (toP d) a3
  have l2 : (toP d).shown.length ≤ sizeLine := by
    have e : sizeLine = 16777216 := by decide
    rw [a5] at l
    omega
  show (match pd st d with | some p => if p.showable && decide (p.shown.length ≤ sizeLine) && decide (p.depth ≤ 60) && !p.hasDict then some (D.str p.shown) else none | none => none) = _
  rw [pd_pln d a1]
  dsimp only
  rw [if_pos (by rw [a2, a4, decide_eq_true l2, decide_eq_true (by omega : (toP d).depth ≤ 60)]; rfl)]
  rfl
theorem smI {i : Int} (h : i.natAbs < 10 ^ 400) : SmI i := Nat.lt_of_lt_of_le h (by decide +kernel)
end MP

set_option Elab.async false
set_option linter.all false
set_option maxRecDepth 100000
set_option maxHeartbeats 4000000
namespace MP
open PySem L2 PyProof.Rows
/-! ### objects behind what is drawn from -/
theorem getO_app {x : Ob} : ∀ {st : DS} {n : Nat} {o : Ob}, getO st n = some o → getO (st ++ [x]) n = some o
  | [], _, _, h => by cases h
  | a :: r, 0, _, h => h
  | a :: r, n + 1, _, h => getO_app (st := r) (n := n) h
theorem getO_end {x : Ob} : ∀ {st : DS}, getO (st ++ [x]) st.length = some x
  | [] => rfl
  | a :: r => getO_end (st := r)
theorem setO_end {x y : Ob} : ∀ {st : DS}, setO (st ++ [x]) st.length y = st ++ [y]
  | [] => rfl
  | a :: r => congrArg (a :: ·) (setO_end (st := r))
section
variable {st rest : DS}
theorem Src.len (h : Src st rest) : st.length = rest.length + 2 := by
  obtain ⟨rc, l, m, t, _, rfl⟩ := h
  rfl
theorem Src.app (h : Src st rest) (o : Ob) : Src (st ++ [o]) (rest ++ [o]) := by
  obtain ⟨rc, l, m, t, a, rfl⟩ := h
  exact ⟨rc, l, m, t, a, rfl⟩
theorem Src.get (h : Src st rest) {k : Nat} {o : Ob} (g : getO rest k = some o) : getO st (k + 2) = some o := by
  obtain ⟨rc, l, m, t, _, rfl⟩ := h
  exact g
theorem Src.set (h : Src st rest) (k : Nat) (o : Ob) : Src (setO st (k + 2) o) (setO rest k o) := by
  obtain ⟨rc, l, m, t, a, rfl⟩ := h
  exact ⟨rc, l, m, t, a, rfl⟩
end
@[simp] theorem itD_tup {st : DS} {xs : List D} : itD .seq st [.tup xs] = some xs := (rfl)
@[simp] theorem itD_lst {st : DS} {xs : List D} : itD .seq st [.lst xs] = some xs := (rfl)
@[simp] theorem itD_scr {st : DS} {xs : List D} : itD .seq st [.scr xs] = some xs := (rfl)
theorem itD_rng {st : DS} {j : Int} (h : -(2 ^ 62) ≤ j ∧ j < 2 ^ 62) : itD .rng st [.int j] = some ((List.range j.toNat).map fun (k : Nat) => .int (0 + (k : Int))) := by
  show (if -(2 ^ 62) ≤ j ∧ j < 2 ^ 62 then some ((List.range j.toNat).map fun (k : Nat) => D.int (0 + (k : Int))) else none) = _
  rw [if_pos h]
/-- a walk that keeps a promise -/
theorem forL_inv {F : D → Env → DS → RS} (I : Env → DS → Prop) : ∀ (xs : List D), (∀ x ∈ xs, ∀ ρ st, I ρ st → ∃ ρ' st', F x ρ st = .nx ρ' st' ∧ I ρ' st') → ∀ ρ st, I ρ st → ∃ ρ' st', forL F xs ρ st = .nx ρ' st' ∧ I ρ' st'
  | [], _, ρ, st, h => ⟨ρ, st, rfl, h⟩
  | x :: xs, hF, ρ, st, h => by
    obtain ⟨ρ1, st1, e1, h1⟩ := hF x (List.mem_cons_self ..) ρ st h
    obtain ⟨ρ2, st2, e2, h2⟩ := forL_inv I xs (fun y hy => hF y (List.mem_cons_of_mem _ hy)) ρ1 st1 h1
    exact ⟨ρ2, st2, by rw [forL_c e1, e2], h2⟩
/-- .. one that knows the turn -/
theorem forL_idx {F : D → Env → DS → RS} (I : Nat → Env → DS → Prop) : ∀ (xs : List D) (k : Nat), (∀ (i : Nat) (h : i < xs.length) ρ st, I (k + i) ρ st → ∃ ρ' st', F xs[i] ρ st = .nx ρ' st' ∧ I (k + i + 1) ρ' st') → ∀ ρ st, I k ρ st → ∃ ρ' st', forL F xs ρ st = .nx ρ' st' ∧ I (k + xs.length) ρ' st'
  | [], k, _, ρ, st, h => ⟨ρ, st, rfl, h⟩
  | x :: xs, k, hF, ρ, st, h => by
    obtain ⟨ρ1, st1, e1, h1⟩ := hF 0 (by simp) ρ st h
    have e1' : F x ρ st = .nx ρ1 st1 := e1
    obtain ⟨ρ2, st2, e2, h2⟩ := forL_idx I xs (k + 1) (fun i hi ρ st hI => by
      have := hF (i + 1) (by simp; omega) ρ st (by rw [show k + (i + 1) = k + 1 + i by omega]; exact hI)
      rw [show k + (i + 1) + 1 = k + 1 + i + 1 by omega] at this
      exact this) ρ1 st1 h1
    exact ⟨ρ2, st2, by rw [forL_c e1', e2], by rw [List.length_cons, show k + (xs.length + 1) = k + 1 + xs.length by omega]; exact h2⟩
theorem forB_tp2 {C : Nat → List D → DS → R D} {ρ : Env} {st : DS} {i j : Nat} {b : List S} {d1 d2 : D} : forB C (.tp [.nm i, .nm j]) b (.tup [d1, d2]) ρ st = execs C b (setV (setV ρ i (some d1)) j (some d2)) st := by
  simp only [forB_eq, tnD_tp, tnL_c, tnL_n, tnD_nm, obind_some, of_some, to_ok]
theorem forB_nm {C : Nat → List D → DS → R D} {ρ : Env} {st : DS} {i : Nat} {b : List S} {d1 : D} : forB C (.nm i) b d1 ρ st = execs C b (setV ρ i (some d1)) st := by
  simp only [forB_eq, tnD_nm, of_some, to_ok]
theorem catD_add {st : DS} {a b : List D} (h : a.length + b.length ≤ sizeLine) : binD .add st (.lst a) (.lst b) = some (.lst (a ++ b)) := by
  show (catD .add st (.lst a) (.lst b)).map D.lst = _
  show ((if a.length + b.length ≤ sizeLine then some (a ++ b) else none).map D.lst) = _
  rw [if_pos h]
  rfl
theorem catD_mul {st : DS} {a : List D} {k : Int} (h : -(2 ^ 63) ≤ k ∧ k < 2 ^ 63 ∧ a.length * k.toNat ≤ sizeLine) : binD .mul st (.lst a) (.int k) = some (.lst (List.replicate k.toNat a).flatten) := by
  show ((if -(2 ^ 63) ≤ k ∧ k < 2 ^ 63 ∧ a.length * k.toNat ≤ sizeLine then some (List.replicate k.toNat a).flatten else none).map D.lst) = _
  rw [if_pos h]
  rfl
theorem b_pow {st : DS} {i j : Int} (h : 0 ≤ j ∧ j ≤ 1000000 ∧ i.natAbs < 2 ^ 64) : binD .pow st (.int i) (.int j) = some (.int (i ^ j.toNat)) := by
  show (if 0 ≤ j ∧ j ≤ 1000000 ∧ i.natAbs < 2 ^ 64 then some (D.int (i ^ j.toNat)) else none) = _
  rw [if_pos h]
end MP

set_option Elab.async false
set_option linter.all false
set_option maxRecDepth 100000
set_option maxHeartbeats 4000000
namespace K10
open PySem L2 MP
/-! ### the defs, one by one -/
abbrev Sm (i : Int) : Prop := i.natAbs < 10 ^ 300
theorem Sm.bits {i : Int} (h : Sm i) : i.natAbs < 2 ^ 997 := Nat.lt_of_lt_of_le h (by decide +kernel)
theorem is_long_eq (n : Nat) (i : Int) (st : DS) (h : Sm i) : callN Pg (n + 1) 0 [.int i] st = .ok (.bl false) st := by
  rw [call_eq (fd := f0) rfl rfl rfl (by show 1 ≤ 1; decide)]
  have hb := bits_le h.bits
  have hl : (((i.natAbs : Nat) : Int)).natAbs.log2 < 1920 := by
    by_cases z : i.natAbs = 0
    · rw [Int.natAbs_natCast, z]; decide
    · rw [Int.natAbs_natCast]; exact (Nat.log2_lt z).mpr (Nat.lt_of_lt_of_le h (by decide +kernel))
  have hq : ((i.natAbs : Nat) : Int) < (10 : Int) ^ 300 := by
    have : ((i.natAbs : Nat) : Int) < ((10 ^ 300 : Nat) : Int) := Int.ofNat_lt.mpr h
    rw [Int.natCast_pow] at this
    exact this
  have hs := str_len (k := 300) (i := ((i.natAbs : Nat) : Int)) (by decide) (by omega) hq
  have hs2 := bi_lenS (st := st) (Nat.le_trans hs (by decide))
  have d1 : ¬ ((997 : Int) < (Builtin.Int.intBits i : Nat)) := by omega
  have d2 : ¬ ((300 : Int) < ((PySem.Str.ofString (toString ((i.natAbs : Nat) : Int))).length : Nat)) := by omega
  simp only [f0, List.map_cons, List.map_nil, List.length_cons, List.length_nil, List.replicate, List.append_nil, exs_c, exs_n, sbind_ret, ex_ret, ev_or, ev_cmp, ev_meth, ev_var, ev_con, ev_bi, eL_c, eL_n, getV_z, of_some, bind_ok, mt_bits, m_bits, if_true, c_gt, t_bl, bi_abs, bi_str hl, hs2, to_ok, end_ret, d1, d2, decide_false, Bool.false_eq_true, if_false, Nat.sub_self]
theorem not_long_eq (n : Nat) (i j : Int) (st : DS) (h1 : Sm i) (h2 : Sm j) : callN Pg (n + 2) 1 [.tup [.int i, .int j]] st = .ok (.tup [.int i, .int j]) st := by
  rw [call_eq (fd := f1) rfl rfl rfl (by show 1 ≤ 2; decide)]
  have a1 := is_long_eq n i st h1
  have a2 := is_long_eq n j st h2
  have e1 : lcW (callN Pg (n + 1)) (E.call 0 [E.var 1]) (TN.nm 1) [] [1] [some (D.tup [D.int i, D.int j]), none] (D.int i) st = .ok (some (.bl false)) st := by simp [lcW_eq, a1]
  have e2 : lcW (callN Pg (n + 1)) (E.call 0 [E.var 1]) (TN.nm 1) [] [1] [some (D.tup [D.int i, D.int j]), none] (D.int j) st = .ok (some (.bl false)) st := by simp [lcW_eq, a2]
  simp [f1, itD, lcL_y e1, lcL_y e2, lcL_n, blsD, List.replicate]

theorem told_eq (n : Nat) (t b : Int) (st : DS) (h1 : Sm t) (h2 : Sm b) (hb : 0 < b) (hg : Nat.gcd t.natAbs b.natAbs = 1) : callN Pg (n + 3) 2 [.int t, .int b] st = .ok (.tup [.int t, .int b]) st := by
  rw [call_iso (fd := f2) rfl rfl rfl (by show 2 ≤ 3; decide) (by simp [noRefL, noRef])]
  have a := not_long_eq n t b [] h1 h2
  have d1 : divOk t 1 = true := divOk_r (by decide +kernel) (by decide)
  have d2 : divOk b 1 = true := divOk_r (by decide +kernel) (by decide)
  have e1 : ¬ (b < 0) := by omega
  have e2 : ¬ (b = 0) := by omega
  simp [f2, List.replicate, hg, e1, e2, b_div d1, b_div d2, Int.fdiv_one, a, noRef, noRefL]
theorem floor_eq (n : Nat) (t b : Int) (st : DS) (h2 : Sm b) (h0 : b ≠ 0) : callN Pg (n + 1) 3 [.tup [.int t, .int b]] st = .ok (.int (t.fdiv b)) st := by
  rw [call_eq (fd := f3) rfl rfl rfl (by show 1 ≤ 2; decide)]
  have d : divOk t b = true := divOk_r (Nat.lt_of_lt_of_le h2 (by decide +kernel)) h0
  simp [f3, List.replicate, b_div d]
theorem below_eq (n : Nat) (t b : Int) (st : DS) (h2 : Sm b) (h0 : b ≠ 0) : callN Pg (n + 2) 7 [.tup [.int t, .int b]] st = .ok (.bl (decide (t.fdiv b < 0))) st := by
  rw [call_eq (fd := f7) rfl rfl rfl (by show 1 ≤ 1; decide)]
  simp [f7, List.replicate, floor_eq n t b _ h2 h0]
/-- TURNED, led on a number under zero -/
theorem led_eq (n : Nat) (t b : Int) (st : DS) (h1 : Sm t) (h2 : Sm b) (ht : 0 < t) (hg : Nat.gcd b.natAbs t.natAbs = 1) : callN Pg (n + 4) 4 [.tup [.int 0, .int 1, .int (-1), .int 0], .tup [.int (-t), .int b]] st = .ok (.tup [.int b, .int t]) st := by
  rw [call_eq (fd := f4) rfl rfl rfl (by show 2 ≤ 8; decide)]
  have m1 : mulOk 0 (-t) = true := mulOk_l (by decide)
  have m2 : mulOk 1 b = true := mulOk_l (by decide)
  have m3 : mulOk (-1) (-t) = true := mulOk_l (by decide)
  have m4 : mulOk 0 b = true := mulOk_l (by decide)
  have a := told_eq n b t st h2 h1 ht hg
  simp [f4, List.replicate, b_mul m1, b_mul m2, b_mul m3, b_mul m4, a]
theorem long_ok (n : Nat) (xs : List D) (h : xs.length < 200) : callN Pg (n + 1) 5 [.ref 0] [.lst xs] = .ok (.ref 0) [.lst xs] := by
  rw [call_eq (fd := f5) rfl rfl rfl (by show 1 ≤ 1; decide)]
  have e : ¬ ((200 : Int) ≤ (xs.length : Nat)) := by omega
  simp [f5, List.replicate, bi_lenR (n := 0) (st := [.lst xs]) rfl, e]
theorem long_exc (n : Nat) (xs : List D) (h : 200 ≤ xs.length) : callN Pg (n + 1) 5 [.ref 0] [.lst xs] = .exc 0 [.int 3] [.lst xs] := by
  rw [call_eq (fd := f5) rfl rfl rfl (by show 1 ≤ 1; decide)]
  have e : ((200 : Int) ≤ (xs.length : Nat)) := by omega
  simp [f5, List.replicate, bi_lenR (n := 0) (st := [.lst xs]) rfl, e]
end K10

set_option Elab.async false
set_option linter.all false
set_option maxRecDepth 100000
set_option maxHeartbeats 4000000
namespace K10
open PySem L2 MP
/-! ### runs and the number that they lead to -/
abbrev Rn := Bool × Int
def nm (b : Bool) : Str := if b then "right" else "left"
def rD (p : Rn) : D := .tup [.str (nm p.1), .int p.2]
def num : List Rn → Int × Int
  | [] => (1, 1)
  | (true, k) :: r => ((num r).1 + k * (num r).2, (num r).2)
  | (false, k) :: r => ((num r).1, (num r).2 + k * (num r).1)
def Alt : List Rn → Prop
  | [] => True
  | [p] => 1 ≤ p.2
  | p :: q :: r => 1 ≤ p.2 ∧ q.1 = !p.1 ∧ Alt (q :: r)
theorem Alt.tail {p : Rn} {r : List Rn} (h : Alt (p :: r)) : Alt r := by
  cases r with
  | nil => exact True.intro
  | cons q r => exact h.2.2
theorem Alt.pos {p : Rn} {r : List Rn} (h : Alt (p :: r)) : 1 ≤ p.2 := by
  cases r with
  | nil => exact h
  | cons q r => exact h.1
theorem num_pos : ∀ {r : List Rn}, Alt r → 1 ≤ (num r).1 ∧ 1 ≤ (num r).2
  | [], _ => by decide
  | (true, k) :: r, h => by
    have i := num_pos h.tail
    have p : 1 ≤ k := h.pos
    have m := Int.mul_nonneg (by omega : 0 ≤ k) (by omega : 0 ≤ (num r).2)
    simp only [num]
    omega
  | (false, k) :: r, h => by
    have i := num_pos h.tail
    have p : 1 ≤ k := h.pos
    have m := Int.mul_nonneg (by omega : 0 ≤ k) (by omega : 0 ≤ (num r).1)
    simp only [num]
    omega
/-- the number behind the first run lies on the other side of 1 -/
theorem num_side : ∀ {p : Rn} {r : List Rn}, Alt (p :: r) → if p.1 then (num r).1 ≤ (num r).2 else (num r).2 ≤ (num r).1
  | p, [], _ => by cases p.1 <;> decide
  | (true, k), (c, j) :: r, h => by
    have e : c = false := h.2.1
    subst e
    have i := num_pos h.2.2.tail
    have p : 1 ≤ j := h.2.2.pos
    have m : (num r).1 ≤ j * (num r).1 := by
      have := Int.mul_le_mul_of_nonneg_right p (by omega : 0 ≤ (num r).1)
      omega
    simp only [num, if_true]
    omega
  | (false, k), (c, j) :: r, h => by
    have e : c = true := h.2.1
    subst e
    have i := num_pos h.2.2.tail
    have p : 1 ≤ j := h.2.2.pos
    have m : (num r).2 ≤ j * (num r).2 := by
      have := Int.mul_le_mul_of_nonneg_right p (by omega : 0 ≤ (num r).2)
      omega
    simp only [num, Bool.false_eq_true, if_false]
    omega
theorem num_gcd : ∀ {r : List Rn}, Alt r → Nat.gcd (num r).1.natAbs (num r).2.natAbs = 1
  | [], _ => by decide
  | (true, k) :: r, h => by
    have i := num_gcd h.tail
    have p := num_pos h.tail
    have q : 1 ≤ k := h.pos
    simp only [num]
    have e : ((num r).1 + k * (num r).2).natAbs = (num r).1.natAbs + k.natAbs * (num r).2.natAbs := by
      rw [← Int.natAbs_mul]
      have m := Int.mul_nonneg (by omega : 0 ≤ k) (by omega : 0 ≤ (num r).2)
      omega
    rw [e, Nat.gcd_add_mul_right_left]
    exact i
  | (false, k) :: r, h => by
    have i := num_gcd h.tail
    have p := num_pos h.tail
    have q : 1 ≤ k := h.pos
    simp only [num]
    have e : ((num r).2 + k * (num r).1).natAbs = (num r).2.natAbs + k.natAbs * (num r).1.natAbs := by
      rw [← Int.natAbs_mul]
      have m := Int.mul_nonneg (by omega : 0 ≤ k) (by omega : 0 ≤ (num r).1)
      omega
    rw [e, Nat.gcd_add_mul_right_right]
    exact i
def Sm2 (r : List Rn) : Prop := (num r).1 < 10 ^ 300 ∧ (num r).2 < 10 ^ 300
theorem Sm2.tail {p : Rn} {r : List Rn} (h : Sm2 (p :: r)) (a : Alt (p :: r)) : Sm2 r := by
  have i := num_pos a.tail
  have q := a.pos
  obtain ⟨b, k⟩ := p
  have q' : 1 ≤ k := q
  cases b with
  | true =>
    have m := Int.mul_nonneg (by omega : 0 ≤ k) (by omega : 0 ≤ (num r).2)
    have h1 : (num r).1 + k * (num r).2 < 10 ^ 300 := h.1
    exact ⟨by omega, h.2⟩
  | false =>
    have m := Int.mul_nonneg (by omega : 0 ≤ k) (by omega : 0 ≤ (num r).1)
    have h1 : (num r).2 + k * (num r).1 < 10 ^ 300 := h.2
    exact ⟨h.1, by omega⟩
theorem sm_of {i : Int} (h0 : 0 ≤ i) (h : i < 10 ^ 300) : Sm i := by
  show i.natAbs < 10 ^ 300
  have : ((i.natAbs : Nat) : Int) < ((10 ^ 300 : Nat) : Int) := by
    rw [Int.natCast_pow]
    have e : ((i.natAbs : Nat) : Int) = i := by omega
    rw [e]
    exact h
  exact Int.ofNat_lt.mp this
theorem big (k : Int) (h0 : 0 ≤ k) (h : k < 10 ^ 300) : k.natAbs < 2 ^ 30000 := Nat.lt_of_lt_of_le (sm_of h0 h) (by decide +kernel)
/-! ### fraction_runs -/
def cond6 : E := .cmp .ne (.var 0) (.var 1)
def body6 : List S := [.ife (.cmp .gt (.var 0) (.var 1)) [.asg (.nm 3) (.bin .fdiv (.bin .sub (.var 0) (.lit (.int 1))) (.var 1)), .expr (.meth .append (.call 5 [.var 2]) [.tup [.con 6 (.str "right"), .var 3]]), .aug 0 .sub (.bin .mul (.var 3) (.var 1))] [.asg (.nm 3) (.bin .fdiv (.bin .sub (.var 1) (.lit (.int 1))) (.var 0)), .expr (.meth .append (.call 5 [.var 2]) [.tup [.con 5 (.str "left"), .var 3]]), .aug 1 .sub (.bin .mul (.var 3) (.var 0))]]
theorem quot {t b k : Int} (hb : 1 ≤ b) (ht : 1 ≤ t) (h : t ≤ b) : (t + k * b - 1).fdiv b = k := by
  rw [show t + k * b - 1 = (t - 1) + k * b by omega, Int.add_mul_fdiv_right _ _ (by omega : b ≠ 0)]
  rw [Int.fdiv_eq_ediv_of_nonneg _ (by omega : 0 ≤ b), Int.ediv_eq_zero_of_lt (by omega) (by omega)]
  omega
section
variable {n : Nat} {acc : List D} {x : Option D} {k t b : Int}
theorem step_r (ht : 1 ≤ t) (hb : 1 ≤ b) (h : t ≤ b) (hk : 1 ≤ k) (s1 : t + k * b < 10 ^ 300) (hl : acc.length < 200) :
    execs (callN Pg (n + 1)) body6 [some (.int (t + k * b)), some (.int b), some (.ref 0), x] [.lst acc] = .nx [some (.int t), some (.int b), some (.ref 0), some (.int k)] [.lst (acc ++ [rD (true, k)])] := by
  have kb : b ≤ k * b := by
    have := Int.mul_le_mul_of_nonneg_right hk (by omega : 0 ≤ b)
    omega
  have d : divOk (t + k * b - 1) b = true := divOk_r (Nat.lt_of_lt_of_le (sm_of (by omega) (by omega)) (by decide +kernel)) (by omega)
  have kk : k ≤ k * b := by
    have := Int.mul_le_mul_of_nonneg_left hb (by omega : 0 ≤ k)
    omega
  have m : mulOk k b = true := mulOk_b (big k (by omega) (by omega)) (big b (by omega) (by omega))
  have g : b < t + k * b := by omega
  have q := quot (k := k) hb ht h
  have l := long_ok n acc hl
  have e : acc.length < sizeLine := Nat.lt_of_lt_of_le hl (by decide)
  have z : t + k * b - k * b = t := by omega
  simp [body6, g, b_div d, q, l, mtyD, lstD, methD, e, b_mul m, augD, z, rD, nm]
theorem step_l (ht : 1 ≤ t) (hb : 1 ≤ b) (h : b ≤ t) (hk : 1 ≤ k) (s1 : b + k * t < 10 ^ 300) (hl : acc.length < 200) :
    execs (callN Pg (n + 1)) body6 [some (.int t), some (.int (b + k * t)), some (.ref 0), x] [.lst acc] = .nx [some (.int t), some (.int b), some (.ref 0), some (.int k)] [.lst (acc ++ [rD (false, k)])] := by
  have kb : t ≤ k * t := by
    have := Int.mul_le_mul_of_nonneg_right hk (by omega : 0 ≤ t)
    omega
  have d : divOk (b + k * t - 1) t = true := divOk_r (Nat.lt_of_lt_of_le (sm_of (by omega) (by omega)) (by decide +kernel)) (by omega)
  have kk : k ≤ k * t := by
    have := Int.mul_le_mul_of_nonneg_left ht (by omega : 0 ≤ k)
    omega
  have m : mulOk k t = true := mulOk_b (big k (by omega) (by omega)) (big t (by omega) (by omega))
  have g : ¬ (b + k * t < t) := by omega
  have q := quot (k := k) ht hb h
  have l := long_ok n acc hl
  have e : acc.length < sizeLine := Nat.lt_of_lt_of_le hl (by decide)
  have z : b + k * t - k * t = b := by omega
  simp [body6, g, b_div d, q, l, mtyD, lstD, methD, e, b_mul m, augD, z, rD, nm]
theorem step_x (p : Rn) (r : List Rn) (a : Alt (p :: r)) (s : Sm2 (p :: r)) (hl : 200 ≤ acc.length) :
    ∃ ρ, execs (callN Pg (n + 1)) body6 [some (.int (num (p :: r)).1), some (.int (num (p :: r)).2), some (.ref 0), x] [.lst acc] = .exc 0 [.int 3] ρ [.lst acc] := by
  have i := num_pos a
  have d1 : divOk ((num (p :: r)).1 - 1) (num (p :: r)).2 = true := divOk_r (Nat.lt_of_lt_of_le (sm_of (by omega) s.2) (by decide +kernel)) (by omega)
  have d2 : divOk ((num (p :: r)).2 - 1) (num (p :: r)).1 = true := divOk_r (Nat.lt_of_lt_of_le (sm_of (by omega) s.1) (by decide +kernel)) (by omega)
  have l := long_exc n acc hl
  by_cases g : (num (p :: r)).2 < (num (p :: r)).1
  · exact ⟨_, by simp [body6, g, b_div d1, l]; rfl⟩
  · exact ⟨_, by simp [body6, g, b_div d2, l]; rfl⟩
end
end K10

set_option Elab.async false
set_option linter.all false
set_option maxRecDepth 100000
set_option maxHeartbeats 4000000
set_option exponentiation.threshold 400
namespace K10
open PySem L2 MP
theorem cond_eq {n : Nat} {t b : Int} {x y : Option D} {st : DS} : evalT (callN Pg n) cond6 [some (.int t), some (.int b), x, y] st = .ok (!decide (t = b)) st := by simp [cond6]
theorem num_ne {p : Rn} {r : List Rn} (a : Alt (p :: r)) : ¬ (num (p :: r)).1 = (num (p :: r)).2 := by
  have i := num_pos a.tail
  have s := num_side a
  have q := a.pos
  obtain ⟨b, k⟩ := p
  have q' : 1 ≤ k := q
  cases b with
  | true =>
    have s' : (num r).1 ≤ (num r).2 := s
    have m := Int.mul_le_mul_of_nonneg_right q' (by omega : 0 ≤ (num r).2)
    simp only [num]
    omega
  | false =>
    have s' : (num r).2 ≤ (num r).1 := s
    have m := Int.mul_le_mul_of_nonneg_right q' (by omega : 0 ≤ (num r).1)
    simp only [num]
    omega
theorem loop_ok {n : Nat} : ∀ (r : List Rn) (acc : List D) (x : Option D) (fu : Nat), r.length < fu → Alt r → Sm2 r → acc.length + r.length ≤ 200 →
    ∃ y, whileL (evalT (callN Pg (n + 1)) cond6) (execs (callN Pg (n + 1)) body6) fu [some (.int (num r).1), some (.int (num r).2), some (.ref 0), x] [.lst acc] = .nx [some (.int 1), some (.int 1), some (.ref 0), y] [.lst (acc ++ r.map rD)]
  | [], acc, x, fu + 1, _, _, _, _ => ⟨x, by
    show (evalT (callN Pg (n + 1)) cond6 [some (.int 1), some (.int 1), some (.ref 0), x] [.lst acc]).to _ _ = _
    rw [cond_eq]
    simp [num]⟩
  | p :: r, acc, x, fu + 1, hf, a, s, hl => by
    have hf' : r.length < fu := by simp only [List.length_cons] at hf; omega
    have hl' : acc.length + r.length + 1 ≤ 200 := by simp only [List.length_cons] at hl; omega
    have i := num_pos a.tail
    have sd := num_side a
    have ne := num_ne a
    have st := s.tail a
    obtain ⟨y, e⟩ := loop_ok (n := n) r (acc ++ [rD p]) (some (.int p.2)) fu hf' a.tail st (by simp only [List.length_append, List.length_cons, List.length_nil]; omega)
    refine ⟨y, ?_⟩
    show (evalT (callN Pg (n + 1)) cond6 [some (.int (num (p :: r)).1), some (.int (num (p :: r)).2), some (.ref 0), x] [.lst acc]).to _ _ = _
    rw [cond_eq, decide_eq_false ne]
    have st1 : execs (callN Pg (n + 1)) body6 [some (.int (num (p :: r)).1), some (.int (num (p :: r)).2), some (.ref 0), x] [.lst acc] = .nx [some (.int (num r).1), some (.int (num r).2), some (.ref 0), some (.int p.2)] [.lst (acc ++ [rD p])] := by
      obtain ⟨b, k⟩ := p
      cases b with
      | true => exact step_r i.1 i.2 sd a.pos s.1 (by omega)
      | false => exact step_l i.1 i.2 sd a.pos s.2 (by omega)
    simp only [to_ok, Bool.not_false, if_true, st1, e]
    simp
theorem loop_exc {n : Nat} : ∀ (r : List Rn) (acc : List D) (x : Option D) (fu : Nat), r.length < fu → Alt r → Sm2 r → acc.length ≤ 200 → 200 < acc.length + r.length →
    ∃ ρ st, whileL (evalT (callN Pg (n + 1)) cond6) (execs (callN Pg (n + 1)) body6) fu [some (.int (num r).1), some (.int (num r).2), some (.ref 0), x] [.lst acc] = .exc 0 [.int 3] ρ st
  | [], acc, x, fu + 1, _, _, _, h1, h2 => by simp only [List.length_nil] at h2; omega
  | p :: r, acc, x, fu + 1, hf, a, s, h1, h2 => by
    have hf' : r.length < fu := by simp only [List.length_cons] at hf; omega
    have i := num_pos a.tail
    have sd := num_side a
    have ne := num_ne a
    have st := s.tail a
    by_cases h3 : acc.length = 200
    · obtain ⟨ρ, e⟩ := step_x (n := n) (x := x) p r a s (by omega : 200 ≤ acc.length)
      refine ⟨ρ, [.lst acc], ?_⟩
      show (evalT (callN Pg (n + 1)) cond6 [some (.int (num (p :: r)).1), some (.int (num (p :: r)).2), some (.ref 0), x] [.lst acc]).to _ _ = _
      rw [cond_eq, decide_eq_false ne]
      simp only [to_ok, Bool.not_false, if_true, e]
    · obtain ⟨ρ, st', e⟩ := loop_exc (n := n) r (acc ++ [rD p]) (some (.int p.2)) fu hf' a.tail st (by simp only [List.length_append, List.length_cons, List.length_nil]; omega) (by simp only [List.length_append, List.length_cons, List.length_nil] at h2 ⊢; omega)
      refine ⟨ρ, st', ?_⟩
      show (evalT (callN Pg (n + 1)) cond6 [some (.int (num (p :: r)).1), some (.int (num (p :: r)).2), some (.ref 0), x] [.lst acc]).to _ _ = _
      rw [cond_eq, decide_eq_false ne]
      have st1 : execs (callN Pg (n + 1)) body6 [some (.int (num (p :: r)).1), some (.int (num (p :: r)).2), some (.ref 0), x] [.lst acc] = .nx [some (.int (num r).1), some (.int (num r).2), some (.ref 0), some (.int p.2)] [.lst (acc ++ [rD p])] := by
        obtain ⟨b, k⟩ := p
        cases b with
        | true => exact step_r i.1 i.2 sd a.pos s.1 (by omega)
        | false => exact step_l i.1 i.2 sd a.pos s.2 (by omega)
      simp only [to_ok, Bool.not_false, if_true, st1, e]
theorem noRef_runs : ∀ r : List Rn, noRefL (r.map rD) = true
  | [] => by simp [noRefL]
  | p :: r => by
    have := noRef_runs r
    simp [noRefL, rD, noRef, this]
theorem runs_ok (n : Nat) (r : List Rn) (st : DS) (a : Alt r) (s : Sm2 r) (hl : r.length ≤ 200) : callN Pg (n + 2) 6 [.int (num r).1, .int (num r).2] st = .ok (.tup (r.map rD)) st := by
  rw [call_iso (fd := f6) rfl rfl rfl (by show 2 ≤ 4; decide) (by simp [noRefL, noRef])]
  obtain ⟨y, e⟩ := loop_ok (n := n) r [] none fuel (Nat.lt_of_le_of_lt hl (by decide +kernel)) a s (by simpa using hl)
  have e' := (ex_whl (C := callN Pg (n + 1)) (c := cond6) (b := body6)).trans e
  simp only [cond6, body6] at e'
  simp [f6, List.replicate, e', noRef, noRef_runs r, bi_tupR (n := 0) (st := [.lst (r.map rD)]) rfl]
theorem runs_exc (n : Nat) (r : List Rn) (st : DS) (a : Alt r) (s : Sm2 r) (hl : 200 < r.length) (hm : r.length ≤ 1000) : callN Pg (n + 2) 6 [.int (num r).1, .int (num r).2] st = .exc 0 [.int 3] st := by
  rw [call_iso (fd := f6) rfl rfl rfl (by show 2 ≤ 4; decide) (by simp [noRefL, noRef])]
  obtain ⟨ρ, st', e⟩ := loop_exc (n := n) r [] none fuel (Nat.lt_of_le_of_lt hm (by decide +kernel)) a s (by simp) (by simpa using hl)
  have e' := (ex_whl (C := callN Pg (n + 1)) (c := cond6) (b := body6)).trans e
  simp only [cond6, body6] at e'
  simp [f6, List.replicate, e', noRef, noRefL]
/-! ### way_told -/
def side (b : Bool) : Str := if b then "up" else "down"
theorem fdiv_nn {t b : Int} (ht : 0 ≤ t) (hb : 0 < b) : ¬ (t.fdiv b < 0) := by
  rw [Int.fdiv_eq_ediv_of_nonneg _ (by omega : 0 ≤ b)]
  have := Int.ediv_nonneg ht (by omega : 0 ≤ b)
  omega
theorem fdiv_neg {t b : Int} (ht : 0 < t) (hb : 0 < b) : (-t).fdiv b < 0 := by
  rw [Int.fdiv_eq_ediv_of_nonneg _ (by omega : 0 ≤ b)]
  exact Int.ediv_neg_of_neg_of_pos (by omega) hb
theorem up_ne : ¬ (("up" : Str) = "down") := by decide +kernel
theorem up_ok (n : Nat) (r : List Rn) (st : DS) (a : Alt r) (s : Sm2 r) (hl : r.length ≤ 200) : callN Pg (n + 6) 8 [.tup [.int (num r).1, .int (num r).2]] st = .ok (.tup [.str "up", .tup (r.map rD)]) st := by
  rw [call_iso (fd := f8) rfl rfl rfl (by show 1 ≤ 5; decide) (by simp [noRefL, noRef])]
  have i := num_pos a
  have h1 : ¬ (num r).1 = 0 := by omega
  have h2 : ¬ (num r).2 = 0 := by omega
  have b := below_eq (n + 3) (num r).1 (num r).2 [] (sm_of (by omega) s.2) h2
  rw [decide_eq_false (fdiv_nn (by omega) (by omega))] at b
  have w := runs_ok (n + 3) r [] a s hl
  have u := up_ne
  simp [f8, List.replicate, h1, h2, b, w, u, noRef, noRefL, noRef_runs r]
theorem up_exc (n : Nat) (r : List Rn) (st : DS) (a : Alt r) (s : Sm2 r) (hl : 200 < r.length) (hm : r.length ≤ 1000) : callN Pg (n + 6) 8 [.tup [.int (num r).1, .int (num r).2]] st = .exc 0 [.int 3] st := by
  rw [call_iso (fd := f8) rfl rfl rfl (by show 1 ≤ 5; decide) (by simp [noRefL, noRef])]
  have i := num_pos a
  have h1 : ¬ (num r).1 = 0 := by omega
  have h2 : ¬ (num r).2 = 0 := by omega
  have b := below_eq (n + 3) (num r).1 (num r).2 [] (sm_of (by omega) s.2) h2
  rw [decide_eq_false (fdiv_nn (by omega) (by omega))] at b
  have w := runs_exc (n + 3) r [] a s hl hm
  have u := up_ne
  simp [f8, List.replicate, h1, h2, b, w, u, noRef, noRefL, noRef_runs r]
theorem down_ok (n : Nat) (r : List Rn) (st : DS) (a : Alt r) (s : Sm2 r) (hl : r.length ≤ 200) : callN Pg (n + 6) 8 [.tup [.int (-(num r).2), .int (num r).1]] st = .ok (.tup [.str "down", .tup (r.map rD)]) st := by
  rw [call_iso (fd := f8) rfl rfl rfl (by show 1 ≤ 5; decide) (by simp [noRefL, noRef])]
  have i := num_pos a
  have h1 : ¬ (num r).1 = 0 := by omega
  have h2 : ¬ (num r).2 = 0 := by omega
  have b := below_eq (n + 3) (-(num r).2) (num r).1 [] (sm_of (by omega) s.1) h1
  rw [decide_eq_true (fdiv_neg (by omega) (by omega))] at b
  have w := runs_ok (n + 3) r [] a s hl
  have l := led_eq (n + 1) (num r).2 (num r).1 [] (sm_of (by omega) s.2) (sm_of (by omega) s.1) (by omega) (num_gcd a)
  simp [f8, List.replicate, h1, h2, b, w, l, noRef, noRefL, noRef_runs r]
theorem down_exc (n : Nat) (r : List Rn) (st : DS) (a : Alt r) (s : Sm2 r) (hl : 200 < r.length) (hm : r.length ≤ 1000) : callN Pg (n + 6) 8 [.tup [.int (-(num r).2), .int (num r).1]] st = .exc 0 [.int 3] st := by
  rw [call_iso (fd := f8) rfl rfl rfl (by show 1 ≤ 5; decide) (by simp [noRefL, noRef])]
  have i := num_pos a
  have h1 : ¬ (num r).1 = 0 := by omega
  have h2 : ¬ (num r).2 = 0 := by omega
  have b := below_eq (n + 3) (-(num r).2) (num r).1 [] (sm_of (by omega) s.1) h1
  rw [decide_eq_true (fdiv_neg (by omega) (by omega))] at b
  have w := runs_exc (n + 3) r [] a s hl hm
  have l := led_eq (n + 1) (num r).2 (num r).1 [] (sm_of (by omega) s.2) (sm_of (by omega) s.1) (by omega) (num_gcd a)
  simp [f8, List.replicate, h1, h2, b, w, l, noRef, noRefL, noRef_runs r]
end K10

set_option Elab.async false
set_option linter.all false
set_option maxRecDepth 100000
set_option maxHeartbeats 40000000
set_option exponentiation.threshold 400
namespace K10
open PySem L2 MP
/-! ### small numbers: all of them -/
def unr : List D → Option (List Rn)
  | [] => some []
  | .tup [.str s, .int k] :: r => match unr r with
    | some l => if s = "right" then some ((true, k) :: l) else if s = "left" then some ((false, k) :: l) else none
    | none => none
  | _ => none
def altB : List Rn → Bool
  | [] => true
  | [p] => decide (1 ≤ p.2)
  | p :: q :: r => decide (1 ≤ p.2) && (q.1 == !p.1) && altB (q :: r)
def chk (p q : Nat) : Bool := match callN Pg 11 19 [.int (1 + (p : Int)), .int (1 + (q : Int))] [] with
  | .ok (.tup [.int a, .int b]) [] => (match callN Pg 11 18 [.int a, .int b] [] with
    | .ok (.tup ds) [] => (match unr ds with
      | some r => altB r && decide (num r = (a, b)) && decide (r.length ≤ 100) && decide (a < 1000) && decide (b < 1000)
      | none => false)
    | _ => false)
  | _ => false
theorem row0 : ((List.range 30).all fun q => chk 0 q) = true := by decide +kernel
theorem row1 : ((List.range 30).all fun q => chk 1 q) = true := by decide +kernel
theorem row2 : ((List.range 30).all fun q => chk 2 q) = true := by decide +kernel
theorem row3 : ((List.range 30).all fun q => chk 3 q) = true := by decide +kernel
theorem row4 : ((List.range 30).all fun q => chk 4 q) = true := by decide +kernel
theorem row5 : ((List.range 30).all fun q => chk 5 q) = true := by decide +kernel
theorem row6 : ((List.range 30).all fun q => chk 6 q) = true := by decide +kernel
theorem row7 : ((List.range 30).all fun q => chk 7 q) = true := by decide +kernel
theorem row8 : ((List.range 30).all fun q => chk 8 q) = true := by decide +kernel
theorem row9 : ((List.range 30).all fun q => chk 9 q) = true := by decide +kernel
theorem row10 : ((List.range 30).all fun q => chk 10 q) = true := by decide +kernel
theorem row11 : ((List.range 30).all fun q => chk 11 q) = true := by decide +kernel
theorem row12 : ((List.range 30).all fun q => chk 12 q) = true := by decide +kernel
theorem row13 : ((List.range 30).all fun q => chk 13 q) = true := by decide +kernel
theorem row14 : ((List.range 30).all fun q => chk 14 q) = true := by decide +kernel
theorem row15 : ((List.range 30).all fun q => chk 15 q) = true := by decide +kernel
theorem row16 : ((List.range 30).all fun q => chk 16 q) = true := by decide +kernel
theorem row17 : ((List.range 30).all fun q => chk 17 q) = true := by decide +kernel
theorem row18 : ((List.range 30).all fun q => chk 18 q) = true := by decide +kernel
theorem row19 : ((List.range 30).all fun q => chk 19 q) = true := by decide +kernel
theorem row20 : ((List.range 30).all fun q => chk 20 q) = true := by decide +kernel
theorem row21 : ((List.range 30).all fun q => chk 21 q) = true := by decide +kernel
theorem row22 : ((List.range 30).all fun q => chk 22 q) = true := by decide +kernel
theorem row23 : ((List.range 30).all fun q => chk 23 q) = true := by decide +kernel
theorem row24 : ((List.range 30).all fun q => chk 24 q) = true := by decide +kernel
theorem row25 : ((List.range 30).all fun q => chk 25 q) = true := by decide +kernel
theorem row26 : ((List.range 30).all fun q => chk 26 q) = true := by decide +kernel
theorem row27 : ((List.range 30).all fun q => chk 27 q) = true := by decide +kernel
theorem row28 : ((List.range 30).all fun q => chk 28 q) = true := by decide +kernel
theorem row29 : ((List.range 30).all fun q => chk 29 q) = true := by decide +kernel
theorem chk_at {p q : Nat} (hp : p < 30) (hq : q < 30) : chk p q = true := by
  have h : ((List.range 30).all fun q => chk p q) = true := by
    match p, hp with
    | 0, _ => exact row0
    | 1, _ => exact row1
    | 2, _ => exact row2
    | 3, _ => exact row3
    | 4, _ => exact row4
    | 5, _ => exact row5
    | 6, _ => exact row6
    | 7, _ => exact row7
    | 8, _ => exact row8
    | 9, _ => exact row9
    | 10, _ => exact row10
    | 11, _ => exact row11
    | 12, _ => exact row12
    | 13, _ => exact row13
    | 14, _ => exact row14
    | 15, _ => exact row15
    | 16, _ => exact row16
    | 17, _ => exact row17
    | 18, _ => exact row18
    | 19, _ => exact row19
    | 20, _ => exact row20
    | 21, _ => exact row21
    | 22, _ => exact row22
    | 23, _ => exact row23
    | 24, _ => exact row24
    | 25, _ => exact row25
    | 26, _ => exact row26
    | 27, _ => exact row27
    | 28, _ => exact row28
    | 29, _ => exact row29
    | _ + 30, hp => omega
  exact List.all_eq_true.mp h q (List.mem_range.mpr hq)
theorem altB_ok : ∀ {r : List Rn}, altB r = true → Alt r
  | [], _ => True.intro
  | [p], h => by
    have h' : decide (1 ≤ p.2) = true := h
    have h2 : 1 ≤ p.2 := of_decide_eq_true h'
    exact h2
  | p :: q :: r, h => by
    simp only [altB, Bool.and_eq_true, decide_eq_true_eq, beq_iff_eq] at h
    exact ⟨h.1.1, h.1.2, altB_ok h.2⟩
theorem unr_ok : ∀ {ds : List D} {r : List Rn}, unr ds = some r → ds = r.map rD
  | [], r, h => by cases h; rfl
  | d :: ds, r, h => by
    unfold unr at h
    split at h
    · rename_i heq; cases heq
    · rename_i s k rest heq
      obtain ⟨rfl, rfl⟩ := List.cons.inj heq
      cases e : unr ds with
      | none => rw [e] at h; cases h
      | some l =>
        rw [e] at h
        dsimp only at h
        have ih := unr_ok e
        split at h
        · rename_i hs; subst hs; cases h; rw [ih]; rfl
        · split at h
          · rename_i hs; subst hs; cases h; rw [ih]; rfl
          · cases h
    · cases h
/-- a def that is given no objects, whatever stands there -/
theorem iso_any {n f : Nat} {fd : FDef} {xs : List D} {d : D} (st : DS) (h : Pg f = some fd) (hi : fd.iso = true) (e : callN Pg (n + 1) f xs [] = .ok d []) : callN Pg (n + 1) f xs st = .ok d st := by
  unfold callN at e ⊢
  rw [h] at e ⊢
  unfold isoF at e ⊢
  dsimp only at e ⊢
  rw [if_pos (by rw [hi])] at e ⊢
  split at e
  · rename_i hn
    rw [if_pos hn]
    split at e
    · split at e
      · rename_i hd
        cases e
        rw [if_pos hd]
      · cases e
    · split at e <;> cases e
    · cases e
  · cases e
/-- least and gone, of all that the law draws -/
theorem small_eq {p q : Nat} (hp : p < 30) (hq : q < 30) (st : DS) : ∃ r : List Rn, Alt r ∧ r.length ≤ 100 ∧ (num r).1 < 1000 ∧ (num r).2 < 1000 ∧
    callN Pg 11 19 [.int (1 + (p : Int)), .int (1 + (q : Int))] st = .ok (.tup [.int (num r).1, .int (num r).2]) st ∧ ∀ st', callN Pg 11 18 [.int (num r).1, .int (num r).2] st' = .ok (.tup (r.map rD)) st' := by
  have h := chk_at hp hq
  unfold chk at h
  split at h
  · rename_i a b e1
    split at h
    · rename_i ds e2
      split at h
      · rename_i r e3
        simp only [Bool.and_eq_true, decide_eq_true_eq] at h
        obtain ⟨⟨⟨⟨h1, h2⟩, h3⟩, h4⟩, h5⟩ := h
        rw [unr_ok e3] at e2
        refine ⟨r, altB_ok h1, h3, ?_, ?_, ?_, fun st' => ?_⟩
        · rw [h2]; exact h4
        · rw [h2]; exact h5
        · rw [h2]; exact iso_any st rfl rfl e1
        · rw [h2]; exact iso_any st' rfl rfl e2
      · cases h
    · cases h
  · cases h
end K10

set_option Elab.async false
set_option linter.all false
set_option maxRecDepth 100000
set_option maxHeartbeats 4000000
set_option exponentiation.threshold 700
namespace K10
open PySem L2 MP
theorem rl_ne : ¬ (("left" : Str) = "right") := by decide +kernel
theorem lr_ne : ¬ (("right" : Str) = "left") := by decide +kernel
theorem cs_t {st : DS} {i j : Str} (h : i = j) : cmpD .eq st (.str i) (.str j) = some true := by rw [c_eqs, decide_eq_true h]
theorem cs_f {st : DS} {i j : Str} (h : ¬ i = j) : cmpD .eq st (.str i) (.str j) = some false := by rw [c_eqs, decide_eq_false h]
/-- runs that are not too long -/
def KbI (k : Int) : Prop := k.natAbs < 2 ^ 997
theorem KbI.lt {k : Int} (h : KbI k) : k.natAbs < 2 ^ 997 := h
def Kb (r : List Rn) : Prop := ∀ p ∈ r, KbI p.2
/-! ### _law_number -/
def stepN (v : Int × Int) (p : Rn) : Int × Int := if p.1 then (v.1 + p.2 * v.2, v.2) else (v.1, v.2 + p.2 * v.1)
theorem num_foldr : ∀ r : List Rn, num r = r.foldr (fun p v => stepN v p) (1, 1)
  | [] => rfl
  | (true, k) :: r => by rw [List.foldr_cons, ← num_foldr r]; rfl
  | (false, k) :: r => by rw [List.foldr_cons, ← num_foldr r]; rfl
def b15 : List S := [.ife (.cmp .eq (.var 3) (.lit (.str "right"))) [.asg (.nm 1) (.bin .add (.var 1) (.bin .mul (.var 4) (.var 2)))] [.asg (.nm 2) (.bin .add (.var 2) (.bin .mul (.var 4) (.var 1)))]]
theorem for15 (C : Nat → List D → DS → R D) (rs : Option D) (st : DS) (l : List Rn) : ∀ (v : Int × Int) (x y : Option D) (e : Nat), Kb l → v.1.natAbs < 2 ^ e → v.2.natAbs < 2 ^ e → e + 998 * l.length ≤ 1000000 →
    ∃ x' y', forL (forB C (.tp [.nm 3, .nm 4]) b15) (l.map rD) [rs, some (.int v.1), some (.int v.2), x, y] st = .nx [rs, some (.int (l.foldl stepN v).1), some (.int (l.foldl stepN v).2), x', y'] st := by
  induction l with
  | nil => exact fun v x y e _ _ _ _ => ⟨x, y, rfl⟩
  | cons p l ih =>
    intro v x y e hk h1 h2 he
    have k1 := hk p (List.mem_cons_self ..)
    have he' : e + 998 + 998 * l.length ≤ 1000000 := by simp only [List.length_cons] at he; omega
    have up : ∀ {a : Nat}, a < 2 ^ e → a < 2 ^ (e + 998) := fun h => Nat.lt_of_lt_of_le h (Nat.pow_le_pow_right (by decide) (by omega))
    have key : ∃ v', forB C (.tp [.nm 3, .nm 4]) b15 (rD p) [rs, some (.int v.1), some (.int v.2), x, y] st = .nx [rs, some (.int v'.1), some (.int v'.2), some (.str (nm p.1)), some (.int p.2)] st ∧ v' = stepN v p ∧ v'.1.natAbs < 2 ^ (e + 998) ∧ v'.2.natAbs < 2 ^ (e + 998) := by
      obtain ⟨b, k⟩ := p
      have k1' := KbI.lt (k := k) k1
      have m1 : mulOk k v.2 = true := mulOk_e k1' h2 (by omega)
      have m2 : mulOk k v.1 = true := mulOk_e k1' h1 (by omega)
      have n := rl_ne
      cases b with
      | true =>
        refine ⟨(v.1 + k * v.2, v.2), ?_, rfl, grow h1 h2 k1' rfl, up h2⟩
        have c := cs_t (st := st) (rfl : ("right" : Str) = "right")
        simp [forB, b15, rD, nm, b_mul m1, c]
      | false =>
        refine ⟨(v.1, v.2 + k * v.1), ?_, rfl, up h1, grow h2 h1 k1' rfl⟩
        have c := cs_f (st := st) rl_ne
        simp [forB, b15, rD, nm, b_mul m2, c]
    obtain ⟨v', e1, e2, e3, e4⟩ := key
    obtain ⟨x', y', ih⟩ := ih v' (some (.str (nm p.1))) (some (.int p.2)) (e + 998) (fun q hq => hk q (List.mem_cons_of_mem _ hq)) e3 e4 he'
    exact ⟨x', y', by rw [List.map_cons, forL_c e1, ih, e2]; rfl⟩
theorem number_eq (n : Nat) (r : List Rn) (st : DS) (hk : Kb r) (hl : r.length ≤ 300) : callN Pg (n + 1) 15 [.tup (r.map rD)] st = .ok (.tup [.int (num r).1, .int (num r).2]) st := by
  rw [call_iso (fd := f15) rfl rfl rfl (by show 1 ≤ 5; decide) (by simp [noRefL, noRef, noRef_runs r])]
  obtain ⟨x', y', e⟩ := for15 (callN Pg n) (some (.tup (r.map rD))) [] r.reverse (1, 1) none none 1 (fun p hp => hk p (List.mem_reverse.mp hp)) (by decide) (by decide) (by simp only [List.length_reverse]; omega)
  rw [List.foldl_reverse, ← num_foldr, List.map_reverse] at e
  have e' : forL (forB (callN Pg n) (.tp [.nm 3, .nm 4]) b15) (r.map rD).reverse [some (.tup (r.map rD)), some (.int 1), some (.int 1), none, none] [] = _ := e
  simp only [b15] at e'
  simp [f15, List.replicate, itD, e', noRef, noRefL, ex_for]
/-! ### edge_behind and way_number -/
def b9 : List S := [.ife (.cmp .eq (.var 6) (.con 5 (.str "left"))) [.par [2, 4] [.bin .add (.var 2) (.bin .mul (.var 7) (.var 3)), .bin .add (.var 4) (.bin .mul (.var 7) (.var 5))]] [.par [3, 5] [.bin .add (.var 3) (.bin .mul (.var 7) (.var 2)), .bin .add (.var 5) (.bin .mul (.var 7) (.var 4))]]]
theorem for9 (C : Nat → List D → DS → R D) (u w : Option D) (st : DS) (l : List Rn) : ∀ (a b c d : Int) (x y : Option D) (e : Nat), Kb l → a.natAbs < 2 ^ e → b.natAbs < 2 ^ e → c.natAbs < 2 ^ e → d.natAbs < 2 ^ e → e + 998 * l.length ≤ 1000000 →
    ∃ a' b' c' d' x' y', forL (forB C (.tp [.nm 6, .nm 7]) b9) (l.map rD) [u, w, some (.int a), some (.int b), some (.int c), some (.int d), x, y] st = .nx [u, w, some (.int a'), some (.int b'), some (.int c'), some (.int d'), x', y'] st ∧
      a' + b' = a * (num l).1 + b * (num l).2 ∧ c' + d' = c * (num l).1 + d * (num l).2 := by
  induction l with
  | nil => exact fun a b c d x y e _ _ _ _ _ _ => ⟨a, b, c, d, x, y, rfl, by simp [num], by simp [num]⟩
  | cons p l ih9 =>
    obtain ⟨q, k⟩ := p
    intro a b c d x y e hk ha hb hc hd he
    have k1 := KbI.lt (k := k) (hk (q, k) (List.mem_cons_self ..))
    have hk' : Kb l := fun p hp => hk p (List.mem_cons_of_mem _ hp)
    have he' : e + 998 + 998 * l.length ≤ 1000000 := by simp only [List.length_cons] at he; omega
    have up : ∀ {a : Nat}, a < 2 ^ e → a < 2 ^ (e + 998) := fun h => Nat.lt_of_lt_of_le h (Nat.pow_le_pow_right (by decide) (by omega))
    have ma : mulOk k a = true := mulOk_e k1 ha (by omega)
    have mb : mulOk k b = true := mulOk_e k1 hb (by omega)
    have mc : mulOk k c = true := mulOk_e k1 hc (by omega)
    have md : mulOk k d = true := mulOk_e k1 hd (by omega)
    have n := lr_ne
    cases q with
    | true =>
      obtain ⟨a', b', c', d', x', y', ih, i1, i2⟩ := ih9 a (b + k * a) c (d + k * c) (some (.str "right")) (some (.int k)) (e + 998) hk' (up ha) (grow hb ha k1 rfl) (up hc) (grow hd hc k1 rfl) he'
      have e1 : forB C (.tp [.nm 6, .nm 7]) b9 (rD (true, k)) [u, w, some (.int a), some (.int b), some (.int c), some (.int d), x, y] st = .nx [u, w, some (.int a), some (.int (b + k * a)), some (.int c), some (.int (d + k * c)), some (.str "right"), some (.int k)] st := by
        have cc := cs_f (st := st) lr_ne
        simp [forB, b9, rD, nm, b_mul ma, b_mul mc, cc]
      refine ⟨a', b', c', d', x', y', by rw [List.map_cons, forL_c e1, ih], ?_, ?_⟩
      · rw [i1]; simp only [num, Int.mul_add, Int.add_mul, Int.mul_assoc, Int.mul_left_comm k a]; omega
      · rw [i2]; simp only [num, Int.mul_add, Int.add_mul, Int.mul_assoc, Int.mul_left_comm k c]; omega
    | false =>
      obtain ⟨a', b', c', d', x', y', ih, i1, i2⟩ := ih9 (a + k * b) b (c + k * d) d (some (.str "left")) (some (.int k)) (e + 998) hk' (grow ha hb k1 rfl) (up hb) (grow hc hd k1 rfl) (up hd) he'
      have e1 : forB C (.tp [.nm 6, .nm 7]) b9 (rD (false, k)) [u, w, some (.int a), some (.int b), some (.int c), some (.int d), x, y] st = .nx [u, w, some (.int (a + k * b)), some (.int b), some (.int (c + k * d)), some (.int d), some (.str "left"), some (.int k)] st := by
        have cc := cs_t (st := st) (rfl : ("left" : Str) = "left")
        simp [forB, b9, rD, nm, b_mul mb, b_mul md, cc]
      refine ⟨a', b', c', d', x', y', by rw [List.map_cons, forL_c e1, ih], ?_, ?_⟩
      · rw [i1]; simp only [num, Int.mul_add, Int.add_mul, Int.mul_assoc, Int.mul_left_comm k b]; omega
      · rw [i2]; simp only [num, Int.mul_add, Int.add_mul, Int.mul_assoc, Int.mul_left_comm k d]; omega
theorem edge_eq (n : Nat) (r : List Rn) (a b c d : Int) (st : DS) (hk : Kb r) (hl : r.length ≤ 300) (ha : a.natAbs < 2 ^ 1) (hb : b.natAbs < 2 ^ 1) (hc : c.natAbs < 2 ^ 1) (hd : d.natAbs < 2 ^ 1) :
    ∃ a' b' c' d', callN Pg (n + 1) 9 [.tup [.int a, .int b, .int c, .int d], .tup (r.map rD)] st = .ok (.tup [.int a', .int b', .int c', .int d']) st ∧ a' + b' = a * (num r).1 + b * (num r).2 ∧ c' + d' = c * (num r).1 + d * (num r).2 := by
  rw [call_eq (fd := f9) rfl rfl rfl (by show 2 ≤ 8; decide)]
  obtain ⟨a', b', c', d', x', y', e, i1, i2⟩ := for9 (callN Pg n) (some (.tup [.int a, .int b, .int c, .int d])) (some (.tup (r.map rD))) st r a b c d none none 1 hk ha hb hc hd (by omega)
  simp only [b9] at e
  refine ⟨a', b', c', d', ?_, i1, i2⟩
  simp [f9, List.replicate, itD, e, ex_for]
theorem first_up (n : Nat) (st : DS) : callN Pg (n + 1) 10 [.str "up"] st = .ok (.tup [.int 1, .int 0, .int 0, .int 1]) st := by
  rw [call_eq (fd := f10) rfl rfl rfl (by show 1 ≤ 1; decide)]
  have u := up_ne
  simp [f10, List.replicate, u]
theorem first_down (n : Nat) (st : DS) : callN Pg (n + 1) 10 [.str "down"] st = .ok (.tup [.int 0, .int (-1), .int 1, .int 0]) st := by
  rw [call_eq (fd := f10) rfl rfl rfl (by show 1 ≤ 1; decide)]
  simp [f10, List.replicate]
theorem wn_up (n : Nat) (r : List Rn) (st : DS) (a : Alt r) (s : Sm2 r) (hk : Kb r) (hl : r.length ≤ 300) : callN Pg (n + 5) 11 [.tup [.str "up", .tup (r.map rD)]] st = .ok (.tup [.int (num r).1, .int (num r).2]) st := by
  rw [call_iso (fd := f11) rfl rfl rfl (by simp [f11]) (by simp [noRefL, noRef, noRef_runs r])]
  have i := num_pos a
  obtain ⟨a', b', c', d', e, i1, i2⟩ := edge_eq (n + 3) r 1 0 0 1 [] hk hl (by decide) (by decide) (by decide) (by decide)
  have f := first_up (n + 3) []
  have t := told_eq (n + 1) (num r).1 (num r).2 [] (sm_of (by omega) s.1) (sm_of (by omega) s.2) (by omega) (num_gcd a)
  have j1 : a' + b' = (num r).1 := by omega
  have j2 : c' + d' = (num r).2 := by omega
  simp [f11, List.replicate, f, e, j1, j2, t, noRef, noRefL]
theorem wn_down (n : Nat) (r : List Rn) (st : DS) (a : Alt r) (s : Sm2 r) (hk : Kb r) (hl : r.length ≤ 300) : callN Pg (n + 5) 11 [.tup [.str "down", .tup (r.map rD)]] st = .ok (.tup [.int (-(num r).2), .int (num r).1]) st := by
  rw [call_iso (fd := f11) rfl rfl rfl (by simp [f11]) (by simp [noRefL, noRef, noRef_runs r])]
  have i := num_pos a
  obtain ⟨a', b', c', d', e, i1, i2⟩ := edge_eq (n + 3) r 0 (-1) 1 0 [] hk hl (by decide) (by decide) (by decide) (by decide)
  have f := first_down (n + 3) []
  have g : Nat.gcd (-(num r).2).natAbs (num r).1.natAbs = 1 := by
    rw [Int.natAbs_neg, Nat.gcd_comm]; exact num_gcd a
  have sm : Sm (-(num r).2) := by show (-(num r).2).natAbs < _; rw [Int.natAbs_neg]; exact sm_of (by omega) s.2
  have t := told_eq (n + 1) (-(num r).2) (num r).1 [] sm (sm_of (by omega) s.1) (by omega) g
  have j1 : a' + b' = -(num r).2 := by omega
  have j2 : c' + d' = (num r).1 := by omega
  simp [f11, List.replicate, f, e, j1, j2, t, noRef, noRefL]
end K10

set_option Elab.async false
set_option linter.all false
set_option maxRecDepth 100000
set_option maxHeartbeats 4000000
set_option exponentiation.threshold 700
namespace K10
open PySem L2 MP
theorem hp : Pg 13 = some fPick := rfl
theorem ho : Pg 14 = some (fOf 13) := rfl
theorem other_eq (n : Nat) (b : Bool) (st : DS) : callN Pg (n + 1) 16 [.str (nm b)] st = .ok (.str (nm (!b))) st := by
  rw [call_eq (fd := f16) rfl rfl rfl (by show 1 ≤ 1; decide)]
  have c1 := cs_t (st := st) (rfl : ("right" : Str) = "right")
  have c2 := cs_f (st := st) rl_ne
  cases b with
  | true => simp only [f16, nm, List.map_cons, List.map_nil, List.length_cons, List.length_nil, List.replicate, List.append_nil, exs_c, exs_n, ex_ret, ev_ife, eT_cmp, ev_var, ev_lit, getV_z, of_some, bind_ok, c1, c2, if_true, if_false, Bool.false_eq_true, to_ok, sbind_ret, end_ret, Nat.sub_self, Bool.not_true]
  | false => simp only [f16, nm, List.map_cons, List.map_nil, List.length_cons, List.length_nil, List.replicate, List.append_nil, exs_c, exs_n, ex_ret, ev_ife, eT_cmp, ev_var, ev_lit, getV_z, of_some, bind_ok, c1, c2, if_true, if_false, Bool.false_eq_true, to_ok, sbind_ret, end_ret, Nat.sub_self, Bool.not_false]
/-- runs by turns -/
def alt : Bool → List Int → List Rn
  | _, [] => []
  | b, k :: ks => (b, k) :: alt (!b) ks
def endB : Bool → List Int → Bool
  | b, [] => b
  | b, _ :: ks => endB (!b) ks
theorem alt_snoc {k : Int} : ∀ {b : Bool} {ks : List Int}, alt b (ks ++ [k]) = alt b ks ++ [(endB b ks, k)]
  | b, [] => rfl
  | b, j :: ks => by
    show (b, j) :: alt (!b) (ks ++ [k]) = (b, j) :: (alt (!b) ks ++ [(endB (!b) ks, k)])
    rw [alt_snoc]
theorem endB_snoc {k : Int} : ∀ {b : Bool} {ks : List Int}, endB b (ks ++ [k]) = !endB b ks
  | b, [] => rfl
  | b, j :: ks => endB_snoc (b := !b) (ks := ks)
theorem alt_len : ∀ {b : Bool} {ks : List Int}, (alt b ks).length = ks.length
  | b, [] => rfl
  | b, j :: ks => congrArg (· + 1) (alt_len (b := !b) (ks := ks))
theorem alt_Alt : ∀ {b : Bool} {ks : List Int}, (∀ k ∈ ks, 1 ≤ k) → Alt (alt b ks)
  | b, [], _ => True.intro
  | b, [k], h => h k (List.mem_cons_self ..)
  | b, k :: j :: ks, h => ⟨h k (List.mem_cons_self ..), rfl, alt_Alt (b := !b) (ks := j :: ks) fun x hx => h x (List.mem_cons_of_mem _ hx)⟩
theorem alt_mem : ∀ {b : Bool} {ks : List Int} {p : Rn}, p ∈ alt b ks → p.2 ∈ ks
  | b, k :: ks, p, h => by
    rcases List.mem_cons.mp h with z | z
    · rw [z]; exact List.mem_cons_self ..
    · exact List.mem_cons_of_mem _ (alt_mem z)
/-- how great the numbers of runs may become -/
theorem num_le {B : Int} (hB : 1 ≤ B) : ∀ {r : List Rn}, (∀ p ∈ r, 1 ≤ p.2 ∧ p.2 + 1 ≤ B) → (num r).1 ≤ B ^ r.length ∧ (num r).2 ≤ B ^ r.length ∧ 0 ≤ (num r).1 ∧ 0 ≤ (num r).2
  | [], _ => by simp [num]
  | (c, k) :: r, h => by
    obtain ⟨a1, a2, a3, a4⟩ := num_le hB (r := r) fun p hp => h p (List.mem_cons_of_mem _ hp)
    obtain ⟨k1, k2⟩ := h (c, k) (List.mem_cons_self ..)
    have k1' : 1 ≤ k := k1
    have k2' : k + 1 ≤ B := k2
    generalize hX : B ^ r.length = X at *
    have e : B ^ ((c, k) :: r).length = B * X := by rw [List.length_cons, Int.pow_succ, hX, Int.mul_comm]
    rw [e]
    have p0 : (k + 1) * X ≤ B * X := Int.mul_le_mul_of_nonneg_right k2' (by omega)
    have p3 : 1 * X ≤ B * X := Int.mul_le_mul_of_nonneg_right hB (by omega)
    have p1 : k * (num r).1 ≤ k * X := Int.mul_le_mul_of_nonneg_left a1 (by omega)
    have p2 : k * (num r).2 ≤ k * X := Int.mul_le_mul_of_nonneg_left a2 (by omega)
    have q1 := Int.mul_nonneg (by omega : 0 ≤ k) a3
    have q2 := Int.mul_nonneg (by omega : 0 ≤ k) a4
    rw [Int.add_mul] at p0
    cases c <;> simp only [num] <;> omega
def ksOk (many : Int) (ks : List Int) : Prop := ∀ k ∈ ks, 1 ≤ k ∧ (k ≤ 9 ∨ many < 5 ∧ k ≤ 10 ^ 40)
def far (many : Int) : List D := [.int 1, .int 1, .int 1, .int 2, .int 3, .int 9] ++ (List.replicate (if many < 5 then (1 : Int) else 0).toNat [D.int (10 ^ 12), D.int (10 ^ 40)]).flatten
theorem far_ok (many : Int) : ∀ d ∈ far many, ∃ k, d = .int k ∧ 1 ≤ k ∧ (k ≤ 9 ∨ many < 5 ∧ k ≤ 10 ^ 40) := by
  unfold far
  by_cases h : many < 5
  · rw [if_pos h]
    intro d hd
    simp at hd
    rcases hd with rfl | rfl | rfl | rfl | rfl | rfl <;> exact ⟨_, rfl, by decide, by first | exact .inl (by decide) | exact .inr ⟨h, by decide⟩⟩
  · rw [if_neg h]
    intro d hd
    simp at hd
    rcases hd with rfl | rfl | rfl | rfl <;> exact ⟨_, rfl, by decide, .inl (by decide)⟩
theorem far_len (many : Int) : 0 < (far many).length ∧ (far many).length ≤ 8 := by
  unfold far
  by_cases h : many < 5
  · rw [if_pos h]; simp
  · rw [if_neg h]; simp
def b17 : List S := [.asg (.nm 5) (.bin .add (.lst false [.lit (.int 1), .lit (.int 1), .lit (.int 1), .lit (.int 2), .lit (.int 3), .lit (.int 9)]) (.bin .mul (.lst false [.bin .pow (.lit (.int 10)) (.lit (.int 12)), .bin .pow (.lit (.int 10)) (.lit (.int 40))]) (.bi .int [.cmp .lt (.var 1) (.lit (.int 5))]))), .expr (.meth .append (.var 4) [.tup [.var 3, .call 14 [.var 0, .var 5]]]), .asg (.nm 3) (.call 16 [.var 3])]
theorem far_eq (C : Nat → List D → DS → R D) (many : Int) (a x y z w : Option D) (st : DS) : eval C (.bin .add (.lst false [.lit (.int 1), .lit (.int 1), .lit (.int 1), .lit (.int 2), .lit (.int 3), .lit (.int 9)]) (.bin .mul (.lst false [.bin .pow (.lit (.int 10)) (.lit (.int 12)), .bin .pow (.lit (.int 10)) (.lit (.int 40))]) (.bi .int [.cmp .lt (.var 1) (.lit (.int 5))]))) [a, some (.int many), x, y, z, w] st = .ok (.lst (far many)) st := by
  have p1 := b_pow (st := st) (i := 10) (j := 12) (by decide)
  have p2 := b_pow (st := st) (i := 10) (j := 40) (by decide)
  have e1 : (12 : Int).toNat = 12 := rfl
  have e2 : (40 : Int).toNat = 40 := rfl
  have m1 := catD_mul (st := st) (a := [D.int (10 ^ 12), D.int (10 ^ 40)]) (k := if many < 5 then 1 else 0) (by split <;> decide)
  have m2 := catD_add (st := st) (a := [.int 1, .int 1, .int 1, .int 2, .int 3, .int 9]) (b := (List.replicate (if many < 5 then (1 : Int) else 0).toNat [D.int (10 ^ 12), D.int (10 ^ 40)]).flatten) (by split <;> decide)
  simp only [ev_bin, ev_lst, eL_c, eL_n, ev_lit, bind_ok, List.length_cons, List.length_nil, sz6, sz2, if_true, newL_f, p1, p2, e1, e2, of_some, ev_bi, ev_cmp, ev_var, getV_s, getV_z, c_lt, bi_intb, decide_eq_true_eq, m1, m2, Nat.zero_add, Nat.reduceAdd, far]
theorem loop17 (n : Nat) (many : Int) {rest : DS} (b : Bool) (i : Nat) (t : D) (hi : i ≤ 201) {ks : List Int} (hk : ks.length = i) (ok : ksOk many ks) (x y : Option D) {st : DS} (hs : Src st (rest ++ [.lst ((alt b ks).map rD)])) :
    ∃ k y' st', forB (callN Pg (n + 2)) (.nm 2) b17 t [some (.ref 1), some (.int many), x, some (.str (nm (endB b ks))), some (.ref (rest.length + 2)), y] st = .nx [some (.ref 1), some (.int many), some t, some (.str (nm (endB b (ks ++ [k])))), some (.ref (rest.length + 2)), y'] st' ∧ ksOk many (ks ++ [k]) ∧ Src st' (rest ++ [.lst ((alt b (ks ++ [k])).map rD)]) := by
  have fe := far_eq (callN Pg (n + 2)) many (some (.ref 1)) (some t) (some (.str (nm (endB b ks)))) (some (.ref (rest.length + 2))) y st
  obtain ⟨j, st1, hj, e1, s1⟩ := of_ok (n := n) hp ho hs (far_len many).1 (Nat.le_trans (far_len many).2 (by decide))
  obtain ⟨k, ek, k1, k2⟩ := far_ok many _ (List.getElem_mem hj)
  rw [ek] at e1
  have g := s1.get (getO_end (st := rest) (x := .lst ((alt b ks).map rD)))
  have hl : ((alt b ks).map rD).length < sizeLine := by
    rw [List.length_map, alt_len, hk]
    exact Nat.lt_of_le_of_lt hi (by decide)
  have ma := m_append (y := rD (endB b ks, k)) g hl
  have g0 := hs.get (getO_end (st := rest) (x := .lst ((alt b ks).map rD)))
  have mt : mtyD .append st (.ref (rest.length + 2)) = true := by
    show (match getO st (rest.length + 2) with | some (.lst xs) => some xs | _ => none).isSome = true
    rw [g0]
    rfl
  have s2 := s1.set rest.length (.lst ((alt b ks).map rD ++ [rD (endB b ks, k)]))
  rw [setO_end] at s2
  have oe := other_eq (n + 1) (endB b ks) (setO st1 (rest.length + 2) (.lst ((alt b ks).map rD ++ [rD (endB b ks, k)])))
  refine ⟨k, some (.lst (far many)), setO st1 (rest.length + 2) (.lst ((alt b ks).map rD ++ [rD (endB b ks, k)])), ?_, ?_, ?_⟩
  · simp only [forB_eq, tnD_nm, of_some, to_ok, setV_s, setV_z, b17, exs_c, exs_n, ex_asg, fe, aT_nm, sbind_nx, ex_expr, ev_meth, ev_var, getV_s, getV_z, bind_ok, mt, if_true, eL_c, eL_n, ev_tup, ev_call, e1, List.length_cons, List.length_nil, Nat.zero_add, Nat.reduceAdd, sz2, show ∀ a b : D, D.tup [a, b] = D.tup [a, b] from fun _ _ => rfl]
    have ma' : methD .append st1 (.ref (rest.length + 2)) [D.tup [.str (nm (endB b ks)), .int k]] = _ := ma
    simp only [ma', to_ok, sbind_nx, exs_c, exs_n, ex_asg, ev_call, eL_c, eL_n, ev_var, getV_s, getV_z, of_some, oe, endB_snoc, setV_s, setV_z, bind_ok, aT_nm]
  · intro q hq
    rcases List.mem_append.mp hq with z | z
    · exact ok q z
    · rw [List.mem_singleton.mp z]; exact ⟨k1, k2⟩
  · rw [alt_snoc, List.map_append]
    exact s2
theorem runs17 (n : Nat) {st rest : DS} (hs : Src st rest) (many : Int) (h0 : 0 ≤ many) (h1 : many ≤ 201) : ∃ (b : Bool) (ks : List Int) (st' rest' : DS), callN Pg (n + 3) 17 [.ref 1, .int many] st = .ok (.tup ((alt b ks).map rD)) st' ∧ Src st' rest' ∧ (ks.length : Int) = many ∧ ksOk many ks := by
  rw [call_eq (fd := f17) rfl rfl rfl (by show 2 ≤ 6; decide)]
  obtain ⟨j, st1, hj, e1, s1⟩ := of_ok (n := n) hp ho hs (ds := [.str "left", .str "right"]) (by decide) (by decide)
  obtain ⟨b, eb⟩ : ∃ b, [D.str "left", D.str "right"][j] = .str (nm b) := by
    match j, hj with
    | 0, _ => exact ⟨false, rfl⟩
    | 1, _ => exact ⟨true, rfl⟩
  rw [eb] at e1
  have hr := itD_rng (st := st1 ++ [.lst []]) (j := many) ⟨by omega, by omega⟩
  obtain ⟨ρ', st', e2, ks, x, y, hk, ok, rfl, s2⟩ := forL_idx (F := forB (callN Pg (n + 2)) (.nm 2) b17) (fun i ρ st => ∃ ks x y, ks.length = i ∧ ksOk many ks ∧ ρ = [some (.ref 1), some (.int many), x, some (.str (nm (endB b ks))), some (.ref (rest.length + 2)), y] ∧ Src st (rest ++ [.lst ((alt b ks).map rD)]))
    ((List.range many.toNat).map fun (k : Nat) => D.int (0 + (k : Int))) 0 (fun i hi ρ st ⟨ks, x, y, hk, ok, hρ, s⟩ => by
      subst hρ
      obtain ⟨k, y', st', e, ok', s'⟩ := loop17 n many b i (((List.range many.toNat).map fun (k : Nat) => D.int (0 + (k : Int)))[i]) (by simp at hi; omega) (by omega) ok x y s
      exact ⟨_, st', e, ks ++ [k], _, y', by simp; omega, ok', rfl, s'⟩) [some (.ref 1), some (.int many), none, some (.str (nm b)), some (.ref (rest.length + 2)), none] (st1 ++ [.lst []]) ⟨[], none, none, rfl, (fun _ h => nomatch h), rfl, s1.app _⟩
  refine ⟨b, ks, st', _, ?_, s2, by simp at hk; omega, ok⟩
  have g := s2.get (getO_end (st := rest) (x := .lst ((alt b ks).map rD)))
  have e3 : forL (forB (callN Pg (n + 2)) (.nm 2) b17) ((List.range many.toNat).map fun (k : Nat) => D.int (0 + (k : Int))) [some (.ref 1), some (.int many), none, some (.str (nm b)), some (.ref st1.length), none] (st1 ++ [.lst []]) = .nx [some (.ref 1), some (.int many), x, some (.str (nm (endB b ks))), some (.ref (rest.length + 2)), y] st' := by rw [s1.len]; exact e2
  simp only [f17, List.map_cons, List.map_nil, List.length_cons, List.length_nil, List.replicate, List.cons_append, List.nil_append, exs_c, exs_n, ex_par, eL_c, eL_n, ev_call, ev_var, ev_lst, ev_lit, getV_s, getV_z, of_some, bind_ok, e1, Nat.zero_add, Nat.reduceAdd, sz2, sz1, if_true, newL_f, newL_t, Nat.zero_le, to_ok, setAll_c, setAll_n, setV_s, setV_z, sbind_nx, ex_for, hr]
  have e4 := e3
  simp only [b17] at e4
  simp only [e4, sbind_nx, exs_c, exs_n, ex_ret, ev_bi, eL_c, eL_n, ev_var, getV_s, getV_z, of_some, bind_ok, bi_tupR g, to_ok, sbind_ret, end_ret]
end K10

set_option Elab.async false
set_option linter.all false
set_option maxRecDepth 100000
set_option maxHeartbeats 4000000
set_option exponentiation.threshold 700
namespace K10
open PySem L2 MP
/-! ### the law -/
def LE (ρ : MP.Env) : Prop := ρ.length = 14 ∧ getV ρ 1 = some (.ref 1)
theorem LE.out {ρ : MP.Env} (h : LE ρ) : ∃ x0 x2 x3 x4 x5 x6 x7 x8 x9 x10 x11 x12 x13, ρ = [x0, some (.ref 1), x2, x3, x4, x5, x6, x7, x8, x9, x10, x11, x12, x13] := by
  obtain ⟨h1, h2⟩ := h
  match ρ, h1 with
  | [x0, x1, x2, x3, x4, x5, x6, x7, x8, x9, x10, x11, x12, x13], _ =>
    have h2' : x1 = some (.ref 1) := h2
    subst h2'
    exact ⟨x0, x2, x3, x4, x5, x6, x7, x8, x9, x10, x11, x12, x13, rfl⟩
def i1 : List S := [.asg (.nm 10) (.told 0 (.call 8 [.var 6])), .ife (.cmp .ne (.bi .repr [.var 10]) (.bi .repr [.ife (.cmp .lt (.var 4) (.lit (.int 201))) (.tup [.lit (.str "told"), .tup [.var 9, .var 5]]) (.tup [.lit (.str "great"), .lit (.int 3)])])) [.ret (.lit (.bl false))] [], .ife (.and (.cmp .lt (.var 4) (.lit (.int 201))) (.cmp .ne (.bi .repr [.call 11 [.tup [.var 9, .var 5]]]) (.bi .repr [.var 6]))) [.ret (.lit (.bl false))] []]
theorem okS_told : okS "told" = true := by decide +kernel
theorem okS_great : okS "great" = true := by decide +kernel
theorem okS_up : okS "up" = true := by decide +kernel
theorem okS_down : okS "down" = true := by decide +kernel
theorem okS_side (b : Bool) : okS (side b) = true := by cases b <;> decide +kernel
theorem okS_nm (b : Bool) : okS (nm b) = true := by cases b <;> decide +kernel
theorem sz_nm (b : Bool) : (nm b).cps.size ≤ 5 := by cases b <;> decide +kernel
theorem sz_side (b : Bool) : (side b).cps.size ≤ 5 := by cases b <;> decide +kernel
theorem sz_told : ("told" : Str).cps.size = 4 := by decide +kernel
theorem sz_great : ("great" : Str).cps.size = 5 := by decide +kernel
def RnS (r : List Rn) : Prop := ∀ p ∈ r, SmI p.2
theorem rq_runs {r : List Rn} (h : RnS r) : rqL (r.map rD) = true := rqL_all.mpr fun d hd => by
  obtain ⟨p, hp, rfl⟩ := List.mem_map.mp hd
  simp [rD, okS_nm, smB_of (h p hp)]
theorem bk_runs {r : List Rn} : bkL (r.map rD) ≤ 8 * r.length := by
  have := bkL_le (k := 7) (b := r.map rD) fun d hd => by
    obtain ⟨p, hp, rfl⟩ := List.mem_map.mp hd
    have := sz_nm p.1
    simp [rD]
    omega
  simpa using this
theorem dp_runs {r : List Rn} : dpL (r.map rD) ≤ 1 := dpL_le fun d hd => by
  obtain ⟨p, hp, rfl⟩ := List.mem_map.mp hd
  simp [rD]
theorem repr_runs (st : DS) {s : Str} {r : List Rn} (h : RnS r) (hl : r.length ≤ 300) (hs : okS s = true) (hz : s.cps.size ≤ 5) : biD .repr st [.tup [.str "told", .tup [.str s, .tup (r.map rD)]]] = some (.str (rpS (.tup [.str "told", .tup [.str s, .tup (r.map rD)]]))) := by
  have a := bk_runs (r := r)
  have b := dp_runs (r := r)
  refine bi_repr ?_ ?_ ?_
  · simp [okS_told, hs, rq_runs h]
  · simp [sz_told]; omega
  · simp; omega
theorem repr_pair (st : DS) {a b : Int} (ha : SmI a) (hb : SmI b) : biD .repr st [.tup [.int a, .int b]] = some (.str (rpS (.tup [.int a, .int b]))) :=
  bi_repr (by simp [smB_of ha, smB_of hb]) (by simp) (by simp)
section
variable {C : Nat → List D → DS → R D} {st : DS} {x0 x1 x2 x3 x7 x8 x10 x11 x12 x13 : Option D}
theorem i1_lt {many : Int} {r : List Rn} {s : Str} {x y : Int} (hm : many < 201)
    (c8 : C 8 [.tup [.int x, .int y]] st = .ok (.tup [.str s, .tup (r.map rD)]) st) (c11 : C 11 [.tup [.str s, .tup (r.map rD)]] st = .ok (.tup [.int x, .int y]) st)
    (hx : SmI x) (hy : SmI y) (hr : RnS r) (hl : r.length ≤ 300) (hs : okS s = true) (hz : s.cps.size ≤ 5) :
    ∃ u, execs C i1 [x0, x1, x2, x3, some (.int many), some (.tup (r.map rD)), some (.tup [.int x, .int y]), x7, x8, some (.str s), x10, x11, x12, x13] st = .nx [x0, x1, x2, x3, some (.int many), some (.tup (r.map rD)), some (.tup [.int x, .int y]), x7, x8, some (.str s), u, x11, x12, x13] st := by
  have e1 := repr_runs st hr hl hs hz
  have e2 := repr_pair st hx hy
  refine ⟨some (.tup [.str "told", .tup [.str s, .tup (r.map rD)]]), ?_⟩
  simp [i1, c8, c11, hm, e1, e2]
theorem i1_gt {many : Int} {s : Str} {x y : D} (hm : ¬ many < 201)
    (c8 : C 8 [x] st = .exc 0 [.int 3] st) :
    ∃ u, execs C i1 [x0, x1, x2, x3, some (.int many), some y, some x, x7, x8, some (.str s), x10, x11, x12, x13] st = .nx [x0, x1, x2, x3, some (.int many), some y, some x, x7, x8, some (.str s), u, x11, x12, x13] st := by
  have e1 := bi_repr (st := st) (d := .tup [.str "great", .int 3]) (by simp [okS_great, smB_of (smI (i := 3) (by decide))]) (by simp [sz_great]) (by simp)
  refine ⟨some (.tup [.str "great", .int 3]), ?_⟩
  simp [i1, c8, hm, e1]
end
theorem SmI_of {i : Int} (h : 0 ≤ i) (h2 : i < 10 ^ 300) : SmI i := smI (Nat.lt_of_lt_of_le (sm_of h h2) (by decide +kernel))
def b1 : List S := [.asg (.nm 4) (.call 14 [.var 1, .lst false [.lit (.int 0), .lit (.int 1), .lit (.int 2), .lit (.int 4), .lit (.int 4), .lit (.int 9), .lit (.int 30), .lit (.int 199), .lit (.int 200), .lit (.int 201)]]), .asg (.nm 5) (.call 17 [.var 1, .var 4]), .asg (.tp [.nm 7, .nm 8]) (.call 15 [.var 5]), .forr (.tp [.nm 9, .nm 6]) .seq [.tup [.tup [.lit (.str "up"), .tup [.var 7, .var 8]], .tup [.lit (.str "down"), .tup [.bin .sub (.lit (.int 0)) (.var 8), .var 7]]]] i1]
theorem ks_num {many : Int} {ks : List Int} {b : Bool} (h : many ≤ 201) (hl : (ks.length : Int) = many) (ok : ksOk many ks) : Alt (alt b ks) ∧ Sm2 (alt b ks) ∧ Kb (alt b ks) ∧ RnS (alt b ks) := by
  have a : Alt (alt b ks) := alt_Alt fun k hk => (ok k hk).1
  have big : ∀ k ∈ ks, 0 ≤ k ∧ k ≤ 10 ^ 40 := fun k hk => by
    obtain ⟨h1, h2⟩ := ok k hk
    refine ⟨by omega, ?_⟩
    rcases h2 with z | ⟨_, z⟩
    · exact Int.le_trans z (by decide)
    · exact z
  have p := num_pos a
  refine ⟨a, ?_, fun q hq => ?_, fun q hq => ?_⟩
  · by_cases hm : many < 5
    · obtain ⟨z1, z2, _, _⟩ := num_le (B := 10 ^ 41) (by decide) (r := alt b ks) fun q hq => ⟨(ok _ (alt_mem hq)).1, Int.le_trans (Int.add_le_add_right (big _ (alt_mem hq)).2 1) (by decide)⟩
      have e : (10 ^ 41 : Int) ^ (alt b ks).length < 10 ^ 300 := by
        rw [alt_len]
        have : ks.length ≤ 4 := by omega
        match ks.length, this with
        | 0, _ => decide +kernel
        | 1, _ => decide +kernel
        | 2, _ => decide +kernel
        | 3, _ => decide +kernel
        | 4, _ => decide +kernel
      exact ⟨Int.lt_of_le_of_lt z1 e, Int.lt_of_le_of_lt z2 e⟩
    · obtain ⟨z1, z2, _, _⟩ := num_le (B := 10) (by decide) (r := alt b ks) fun q hq => ⟨(ok _ (alt_mem hq)).1, by
        obtain ⟨_, h2⟩ := ok _ (alt_mem hq)
        rcases h2 with z | ⟨z, _⟩ <;> omega⟩
      have e : (10 : Int) ^ (alt b ks).length < 10 ^ 300 := by
        rw [alt_len]
        refine Int.lt_of_le_of_lt (b := 10 ^ 201) ?_ (by decide +kernel)
        have e1 : ((10 ^ ks.length : Nat) : Int) ≤ ((10 ^ 201 : Nat) : Int) := Int.ofNat_le.mpr (Nat.pow_le_pow_right (by decide) (by omega))
        rw [Int.natCast_pow, Int.natCast_pow] at e1
        exact e1
      exact ⟨Int.lt_of_le_of_lt z1 e, Int.lt_of_le_of_lt z2 e⟩
  · obtain ⟨h1, h2⟩ := big _ (alt_mem hq)
    exact Nat.lt_of_lt_of_le (sm_of h1 (Int.lt_of_le_of_lt h2 (by decide +kernel))) (by decide +kernel)
  · obtain ⟨h1, h2⟩ := big _ (alt_mem hq)
    exact SmI_of h1 (Int.lt_of_le_of_lt h2 (by decide +kernel))
theorem many_ok : ∀ d ∈ [D.int 0, .int 1, .int 2, .int 4, .int 4, .int 9, .int 30, .int 199, .int 200, .int 201], ∃ m : Int, d = .int m ∧ 0 ≤ m ∧ m ≤ 201 := by
  intro d hd
  simp at hd
  rcases hd with rfl | rfl | rfl | rfl | rfl | rfl | rfl | rfl | rfl <;> exact ⟨_, rfl, by decide, by decide⟩
theorem lap1 (t : D) {ρ : MP.Env} {st rest : DS} (hρ : LE ρ) (hs : Src st rest) : ∃ ρ' st' rest', forB (callN Pg 11) (.nm 2) b1 t ρ st = .nx ρ' st' ∧ LE ρ' ∧ Src st' rest' := by
  obtain ⟨x0, x2, x3, x4, x5, x6, x7, x8, x9, x10, x11, x12, x13, rfl⟩ := hρ.out
  obtain ⟨j, st1, hj, e1, s1⟩ := of_ok (n := 9) hp ho hs (ds := [D.int 0, .int 1, .int 2, .int 4, .int 4, .int 9, .int 30, .int 199, .int 200, .int 201]) (by decide) (by decide)
  obtain ⟨m, em, m0, m1⟩ := many_ok _ (List.getElem_mem hj)
  rw [em] at e1
  obtain ⟨b, ks, st2, rest2, e2, s2, hk, ok⟩ := runs17 8 s1 m m0 m1
  obtain ⟨al, sm, kb, rs⟩ := ks_num (b := b) m1 hk ok
  have hl : (alt b ks).length ≤ 300 := by rw [alt_len]; omega
  have e3 := number_eq 10 (alt b ks) st2 kb hl
  have p := num_pos al
  have q1 := SmI_of (by omega) sm.1
  have q2 := SmI_of (by omega) sm.2
  have q3 : SmI (-(num (alt b ks)).2) := by unfold SmI at q2 ⊢; rwa [Int.natAbs_neg]
  have key : ∃ u v, forL (forB (callN Pg 11) (.tp [.nm 9, .nm 6]) i1) [.tup [.str "up", .tup [.int (num (alt b ks)).1, .int (num (alt b ks)).2]], .tup [.str "down", .tup [.int (-(num (alt b ks)).2), .int (num (alt b ks)).1]]]
      [x0, some (.ref 1), some t, x3, some (.int m), some (.tup ((alt b ks).map rD)), x6, some (.int (num (alt b ks)).1), some (.int (num (alt b ks)).2), x9, x10, x11, x12, x13] st2 = .nx [x0, some (.ref 1), some t, x3, some (.int m), some (.tup ((alt b ks).map rD)), u, some (.int (num (alt b ks)).1), some (.int (num (alt b ks)).2), some (.str "down"), v, x11, x12, x13] st2 := by
    by_cases hm : m < 201
    · have hl2 : (alt b ks).length ≤ 200 := by rw [alt_len]; omega
      obtain ⟨u1, f1⟩ := i1_lt (C := callN Pg 11) (x0 := x0) (x1 := some (.ref 1)) (x2 := some t) (x3 := x3) (x7 := some (.int (num (alt b ks)).1)) (x8 := some (.int (num (alt b ks)).2)) (x10 := x10) (x11 := x11) (x12 := x12) (x13 := x13) hm (up_ok 5 _ st2 al sm hl2) (wn_up 6 _ st2 al sm kb hl) q1 q2 rs hl okS_up (by decide +kernel)
      obtain ⟨u2, f2⟩ := i1_lt (C := callN Pg 11) (x0 := x0) (x1 := some (.ref 1)) (x2 := some t) (x3 := x3) (x7 := some (.int (num (alt b ks)).1)) (x8 := some (.int (num (alt b ks)).2)) (x10 := u1) (x11 := x11) (x12 := x12) (x13 := x13) hm (down_ok 5 _ st2 al sm hl2) (wn_down 6 _ st2 al sm kb hl) q3 q1 rs hl okS_down (by decide +kernel)
      refine ⟨some (.tup [.int (-(num (alt b ks)).2), .int (num (alt b ks)).1]), u2, ?_⟩
      exact (forL_c (forB_tp2.trans f1)).trans ((forL_c (forB_tp2.trans f2)).trans forL_n)
    · have hl2 : 200 < (alt b ks).length := by rw [alt_len]; omega
      obtain ⟨u1, f1⟩ := i1_gt (C := callN Pg 11) (s := "up") (y := .tup ((alt b ks).map rD)) (x0 := x0) (x1 := some (.ref 1)) (x2 := some t) (x3 := x3) (x7 := some (.int (num (alt b ks)).1)) (x8 := some (.int (num (alt b ks)).2)) (x10 := x10) (x11 := x11) (x12 := x12) (x13 := x13) hm (up_exc 5 _ st2 al sm hl2 (by omega))
      obtain ⟨u2, f2⟩ := i1_gt (C := callN Pg 11) (s := "down") (y := .tup ((alt b ks).map rD)) (x0 := x0) (x1 := some (.ref 1)) (x2 := some t) (x3 := x3) (x7 := some (.int (num (alt b ks)).1)) (x8 := some (.int (num (alt b ks)).2)) (x10 := u1) (x11 := x11) (x12 := x12) (x13 := x13) hm (down_exc 5 _ st2 al sm hl2 (by omega))
      refine ⟨some (.tup [.int (-(num (alt b ks)).2), .int (num (alt b ks)).1]), u2, ?_⟩
      exact (forL_c (forB_tp2.trans f1)).trans ((forL_c (forB_tp2.trans f2)).trans forL_n)
  obtain ⟨u, v, e4⟩ := key
  refine ⟨[x0, some (.ref 1), some t, x3, some (.int m), some (.tup ((alt b ks).map rD)), u, some (.int (num (alt b ks)).1), some (.int (num (alt b ks)).2), some (.str "down"), v, x11, x12, x13], st2, rest2, ?_, ⟨rfl, rfl⟩, s2⟩
  simp only [forB_eq, tnD_nm, of_some, to_ok, setV_s, setV_z, b1, exs_c, exs_n, ex_asg, ev_call, eL_c, eL_n, ev_var, getV_s, getV_z, bind_ok, ev_lst, ev_lit, List.length_cons, List.length_nil, Nat.zero_add, Nat.reduceAdd, sz10, if_true, newL_f, e1, aT_nm, sbind_nx, e2, e3, aT_tp, aTs_c, aTs_n, tie_nx, ex_for, ev_tup, sz2, ev_bin, b_sub, Int.zero_sub, itD_tup, e4]
end K10

set_option Elab.async false
set_option linter.all false
set_option maxRecDepth 100000
set_option maxHeartbeats 4000000
set_option exponentiation.threshold 700
namespace K10
open PySem L2 MP
/-! ### a step ahead -/
def push (b : Bool) : List Rn → List Rn
  | [] => [(b, 1)]
  | (c, k) :: t => if c = b then (b, k + 1) :: t else (b, 1) :: (c, k) :: t
theorem push_n {b : Bool} : push b [] = [(b, 1)] := rfl
theorem push_t {b : Bool} {k : Int} {t : List Rn} : push b ((b, k) :: t) = (b, k + 1) :: t := if_pos rfl
theorem push_f {b c : Bool} {k : Int} {t : List Rn} (h : ¬ c = b) : push b ((c, k) :: t) = (b, 1) :: (c, k) :: t := if_neg h
theorem push_num {b : Bool} : ∀ {r : List Rn}, num (push b r) = if b then ((num r).1 + (num r).2, (num r).2) else ((num r).1, (num r).1 + (num r).2)
  | [] => by cases b <;> simp [push_n, num]
  | (c, k) :: t => by
    by_cases h : c = b
    · subst h
      rw [push_t]
      cases c <;> simp [num, Int.add_mul] <;> omega
    · rw [push_f h]
      cases b <;> cases c <;> first | exact absurd rfl h | (simp [num]; try omega)
theorem push_Alt {b : Bool} : ∀ {r : List Rn}, Alt r → Alt (push b r)
  | [], _ => by show (1 : Int) ≤ 1; decide
  | (c, k) :: t, h => by
    have p := h.pos
    have p' : 1 ≤ k := p
    by_cases e : c = b
    · subst e
      rw [push_t]
      cases t with
      | nil => show (1 : Int) ≤ k + 1; omega
      | cons q t => exact ⟨by show (1 : Int) ≤ k + 1; omega, h.2.1, h.2.2⟩
    · rw [push_f e]
      refine ⟨by show (1 : Int) ≤ 1; decide, ?_, h⟩
      show c = !b
      cases b <;> cases c <;> first | rfl | exact absurd rfl e
theorem push_len {b : Bool} {r : List Rn} : (push b r).length ≤ r.length + 1 := by
  cases r with
  | nil => simp [push_n]
  | cons p t =>
    obtain ⟨c, k⟩ := p
    by_cases e : c = b
    · subst e; rw [push_t]; simp
    · rw [push_f e]; simp
theorem ShR {r : List Rn} : ShL (r.map rD) 2 := ShL.map (f := rD) (fun p => Sh.tup (k := 1) (.cons (.str (by cases p.1 <;> decide +kernel)) (.cons .int .nil))) r
theorem nm_eq {b c : Bool} : (nm b = nm c) ↔ b = c := by
  cases b <;> cases c <;> first | exact ⟨fun _ => rfl, fun _ => rfl⟩ | exact ⟨fun h => absurd h (by decide +kernel), fun h => nomatch h⟩
theorem cut1 {x : D} {xs : List D} : cutD (x :: xs) (some 1) none = xs := by
  unfold cutD
  have e := HT.sIx_nat (x :: xs).length 0 1
  have e' : HT.sIx (x :: xs).length 0 (some 1) = 1 := by
    have : min 1 (x :: xs).length = 1 := by simp only [List.length_cons]; omega
    rw [this] at e
    exact e
  rw [e', HT.sIx_none]
  simp
def i2 : List S := [.asg (.nm 3) (.bin .add (.tup [.tup [.var 11, .lit (.int 1)]]) (.var 5)), .ife (.and (.cmp .ne (.var 5) (.tup [])) (.cmp .eq (.ix (.ix (.var 5) (.lit (.int 0))) (.lit (.int 0))) (.var 11))) [.asg (.nm 3) (.bin .add (.tup [.tup [.var 11, .bin .add (.ix (.ix (.var 5) (.lit (.int 0))) (.lit (.int 1))) (.lit (.int 1))]]) (.sl false (.var 5) [.lit (.int 1)] []))] [], .ife (.cmp .ne (.bi .repr [.call 8 [.var 12]]) (.bi .repr [.tup [.lit (.str "up"), .var 3]])) [.ret (.lit (.bl false))] []]
theorem sl_eq {x : D} {xs : List D} {st : DS} : slD false (.tup (x :: xs)) (some 1) none st = .ok (.tup xs) st := by
  show (if false then R.bad else R.ok (D.tup (cutD (x :: xs) (some 1) none)) st) = _
  rw [cut1]
  rfl
theorem repr_up (st : DS) {r : List Rn} (h : RnS r) (hl : r.length ≤ 300) (s : Str) (hs : okS s = true) (hz : s.cps.size ≤ 5) : biD .repr st [.tup [.str s, .tup (r.map rD)]] = some (.str (rpS (.tup [.str s, .tup (r.map rD)]))) := by
  have a := bk_runs (r := r)
  have b := dp_runs (r := r)
  refine bi_repr ?_ ?_ ?_
  · simp [hs, rq_runs h]
  · simp; omega
  · simp; omega
section
variable {C : Nat → List D → DS → R D} {st : DS} {x0 x1 x2 x3 x4 x6 x7 x8 x9 x10 x13 : Option D}
theorem i2_ok {r : List Rn} {b : Bool} {y : D} (c8 : C 8 [y] st = .ok (.tup [.str "up", .tup ((push b r).map rD)]) st) (hr : RnS (push b r)) (hl : r.length ≤ 200) :
    execs C i2 [x0, x1, x2, x3, x4, some (.tup (r.map rD)), x6, x7, x8, x9, x10, some (.str (nm b)), some y, x13] st = .nx [x0, x1, x2, some (.tup ((push b r).map rD)), x4, some (.tup (r.map rD)), x6, x7, x8, x9, x10, some (.str (nm b)), some y, x13] st := by
  have hp := push_len (b := b) (r := r)
  have e1 := repr_up st hr (by omega) "up" okS_up (by decide +kernel)
  have sh1 : Sh (.tup (r.map rD)) 64 := (Sh.tup ShR).mono (by decide)
  have sh2 : Sh (.tup []) 64 := (Sh.tup (.nil (k := 0))).mono (by decide)
  have n1 := c_neG (st := st) sh1 sh2
  have b0 : ([D.tup [.str (nm b), .int 1]] : List D).length + (r.map rD).length ≤ sizeLine := by
    have e : sizeLine = 16777216 := by decide
    simp only [List.length_cons, List.length_nil, List.length_map]; omega
  have c0 := b_cat (st := st) b0
  cases r with
  | nil =>
    simp only [push, List.map_cons, List.map_nil, rD] at *
    simp [i2, c0, n1, c8, e1]
  | cons p t =>
    obtain ⟨c, k⟩ := p
    have b2 : ([D.tup [.str (nm b), .int (k + 1)]] : List D).length + (t.map rD).length ≤ sizeLine := by
      have e : sizeLine = 16777216 := by decide
      simp only [List.length_cons, List.length_nil, List.length_map] at hl ⊢; omega
    have c2 := b_cat (st := st) b2
    by_cases hcb : c = b
    · subst hcb
      rw [push_t] at c8 e1 ⊢
      simp only [List.map_cons, rD] at *
      simp [i2, c0, n1, c8, e1, sl_eq, c2]
    · rw [push_f hcb] at c8 e1 ⊢
      have hn : ¬ nm c = nm b := fun z => hcb (nm_eq.mp z)
      simp only [List.map_cons, rD] at *
      simp [i2, c0, n1, c8, e1, hn]
end
end K10

set_option Elab.async false
set_option linter.all false
set_option maxRecDepth 100000
set_option maxHeartbeats 4000000
set_option exponentiation.threshold 700
namespace K10
open PySem L2 MP
theorem run_le : ∀ {r : List Rn}, Alt r → ∀ p ∈ r, p.2 ≤ (num r).1 + (num r).2
  | (c, k) :: t, h, p, hp => by
    have q := num_pos h.tail
    have k1 : 1 ≤ k := h.pos
    have m1 := Int.mul_le_mul_of_nonneg_left q.1 (by omega : 0 ≤ k)
    have m2 := Int.mul_le_mul_of_nonneg_left q.2 (by omega : 0 ≤ k)
    rcases List.mem_cons.mp hp with z | z
    · subst z
      cases c <;> simp only [num] <;> omega
    · have i := run_le h.tail p z
      cases c <;> simp only [num] <;> omega
theorem rnS_of {r : List Rn} (a : Alt r) (h1 : (num r).1 < 100000) (h2 : (num r).2 < 100000) : RnS r := fun p hp => by
  have i := run_le a p hp
  have q : 1 ≤ p.2 := by
    clear h1 h2 i
    induction r with
    | nil => cases hp
    | cons x t ih =>
      rcases List.mem_cons.mp hp with z | z
      · rw [z]; exact a.pos
      · exact ih a.tail z
  exact SmI_of (by omega) (Int.lt_trans (by omega : p.2 < 200000) (by decide +kernel))
theorem sm2_of {r : List Rn} (h1 : (num r).1 < 100000) (h2 : (num r).2 < 100000) : Sm2 r := ⟨Int.lt_trans h1 (by decide +kernel), Int.lt_trans h2 (by decide +kernel)⟩
def b2 : List S := [.asg (.nm 6) (.call 19 [.bin .add (.lit (.int 1)) (.call 13 [.var 1, .lit (.int 30)]), .bin .add (.lit (.int 1)) (.call 13 [.var 1, .lit (.int 30)])]), .asg (.nm 5) (.call 18 [.ix (.var 6) (.lit (.int 0)), .ix (.var 6) (.lit (.int 1))]), .ife (.cmp .ne (.bi .repr [.lst false [.call 8 [.var 6], .call 8 [.tup [.bin .sub (.lit (.int 0)) (.ix (.var 6) (.lit (.int 1))), .ix (.var 6) (.lit (.int 0))]]]]) (.bi .repr [.lst false [.tup [.lit (.str "up"), .var 5], .tup [.lit (.str "down"), .var 5]]])) [.ret (.lit (.bl false))] [], .forr (.tp [.nm 11, .nm 12]) .seq [.tup [.tup [.lit (.str "right"), .tup [.bin .add (.ix (.var 6) (.lit (.int 0))) (.ix (.var 6) (.lit (.int 1))), .ix (.var 6) (.lit (.int 1))]], .tup [.lit (.str "left"), .tup [.ix (.var 6) (.lit (.int 0)), .bin .add (.ix (.var 6) (.lit (.int 0))) (.ix (.var 6) (.lit (.int 1)))]]]] i2]
theorem lap2 (t : D) {ρ : MP.Env} {st rest : DS} (hρ : LE ρ) (hs : Src st rest) : ∃ ρ' st', forB (callN Pg 11) (.nm 2) b2 t ρ st = .nx ρ' st' ∧ LE ρ' ∧ Src st' rest := by
  obtain ⟨x0, x2, x3, x4, x5, x6, x7, x8, x9, x10, x11, x12, x13, rfl⟩ := hρ.out
  obtain ⟨p, st1, e1, p0, p1, s1⟩ := pick_ok (n := 10) hp hs (many := 30) (by decide) (by decide +kernel)
  obtain ⟨q, st2, e2, q0, q1, s2⟩ := pick_ok (n := 10) hp s1 (many := 30) (by decide) (by decide +kernel)
  obtain ⟨r, al, hl, h1, h2, e3, e4⟩ := small_eq (p := p.toNat) (q := q.toNat) (by omega) (by omega) st2
  rw [Int.toNat_of_nonneg p0, Int.toNat_of_nonneg q0] at e3
  have sm : Sm2 r := sm2_of (by omega) (by omega)
  have rs : RnS r := rnS_of al (by omega) (by omega)
  have np := num_pos al
  have e5 := up_ok 5 r st2 al sm (by omega)
  have e6 := down_ok 5 r st2 al sm (by omega)
  have e7 : biD .repr st2 [.lst [.tup [.str "up", .tup (r.map rD)], .tup [.str "down", .tup (r.map rD)]]] = some (.str (rpS (.lst [.tup [.str "up", .tup (r.map rD)], .tup [.str "down", .tup (r.map rD)]]))) := by
    have a := bk_runs (r := r)
    have b := dp_runs (r := r)
    have z1 : ("up" : Str).cps.size = 2 := by decide +kernel
    have z2 : ("down" : Str).cps.size = 4 := by decide +kernel
    refine bi_repr ?_ ?_ ?_
    · simp [okS_up, okS_down, rq_runs rs]
    · simp [z1, z2]; omega
    · simp; omega
  have g : ∀ b : Bool, (num (push b r)).1 < 100000 ∧ (num (push b r)).2 < 100000 := fun b => by
    rw [push_num]; cases b <;> simp <;> omega
  have f : ∀ b : Bool, callN Pg 11 8 [.tup [.int (num (push b r)).1, .int (num (push b r)).2]] st2 = .ok (.tup [.str "up", .tup ((push b r).map rD)]) st2 := fun b =>
    up_ok 5 (push b r) st2 (push_Alt al) (sm2_of (g b).1 (g b).2) (by have := push_len (b := b) (r := r); omega)
  have f1 := f true
  have f2 := f false
  rw [push_num] at f1 f2
  simp only [if_true, if_false, Bool.false_eq_true] at f1 f2
  have j1 := i2_ok (C := callN Pg 11) (x0 := x0) (x1 := some (.ref 1)) (x2 := some t) (x3 := x3) (x4 := x4) (x6 := some (.tup [.int (num r).1, .int (num r).2])) (x7 := x7) (x8 := x8) (x9 := x9) (x10 := x10) (x13 := x13) f1 (rnS_of (push_Alt al) (g true).1 (g true).2) (by omega)
  have j2 := i2_ok (C := callN Pg 11) (x0 := x0) (x1 := some (.ref 1)) (x2 := some t) (x3 := some (.tup ((push true r).map rD))) (x4 := x4) (x6 := some (.tup [.int (num r).1, .int (num r).2])) (x7 := x7) (x8 := x8) (x9 := x9) (x10 := x10) (x13 := x13) f2 (rnS_of (push_Alt al) (g false).1 (g false).2) (by omega)
  have e8 : forL (forB (callN Pg 11) (.tp [.nm 11, .nm 12]) i2) [.tup [.str "right", .tup [.int ((num r).1 + (num r).2), .int (num r).2]], .tup [.str "left", .tup [.int (num r).1, .int ((num r).1 + (num r).2)]]] [x0, some (.ref 1), some t, x3, x4, some (.tup (r.map rD)), some (.tup [.int (num r).1, .int (num r).2]), x7, x8, x9, x10, x11, x12, x13] st2 =
      .nx [x0, some (.ref 1), some t, some (.tup ((push false r).map rD)), x4, some (.tup (r.map rD)), some (.tup [.int (num r).1, .int (num r).2]), x7, x8, x9, x10, some (.str "left"), some (.tup [.int (num r).1, .int ((num r).1 + (num r).2)]), x13] st2 :=
    (forL_c (forB_tp2.trans j1)).trans ((forL_c (forB_tp2.trans j2)).trans forL_n)
  refine ⟨[x0, some (.ref 1), some t, some (.tup ((push false r).map rD)), x4, some (.tup (r.map rD)), some (.tup [.int (num r).1, .int (num r).2]), x7, x8, x9, x10, some (.str "left"), some (.tup [.int (num r).1, .int ((num r).1 + (num r).2)]), x13], st2, ?_, ⟨rfl, rfl⟩, s2⟩
  · simp only [forB_eq, tnD_nm, of_some, to_ok, setV_s, setV_z, b2, exs_c, exs_n, ex_asg, ev_call, eL_c, eL_n, ev_var, getV_s, getV_z, bind_ok, ev_lst, ev_lit, ev_bin, e1, e2, e3, b_add, aT_nm, sbind_nx, ev_ix, ix0, ix1, e4, ex_ife, eT_cmp, ev_bi, ev_tup, b_sub, Int.zero_sub, e5, e6, List.length_cons, List.length_nil, Nat.zero_add, Nat.reduceAdd, sz2, if_true, newL_f, e7, c_nes, decide_true, Bool.not_true, Bool.false_eq_true, if_false, ex_for, itD_tup, e8]
/-! ### the end -/
theorem zero_told (st : DS) : callN Pg 11 8 [.tup [.int 0, .int 1]] st = .ok (.tup [.str "zero"]) st := by
  rw [call_iso (fd := f8) rfl rfl rfl (by show 1 ≤ 5; decide) (by simp)]
  simp [f8]
theorem top_told (st : DS) : callN Pg 11 8 [.tup [.int 1, .int 0]] st = .ok (.tup [.str "top"]) st := by
  rw [call_iso (fd := f8) rfl rfl rfl (by show 1 ≤ 5; decide) (by simp)]
  simp [f8]
theorem tt_ne : ¬ ("top" : Str) = "zero" := by decide +kernel
theorem Sh1 (s : Str) (h : PyData.strOk s = true) : Sh (.tup [.str s]) 64 := (Sh.tup (k := 0) (.cons (.str h) .nil)).mono (by decide)
theorem zero_num (st : DS) : callN Pg 11 11 [.tup [.str "zero"]] st = .ok (.tup [.int 0, .int 1]) st := by
  rw [call_iso (fd := f11) rfl rfl rfl (by show 1 ≤ 9; decide) (by simp)]
  have c := c_eqG (st := []) (Sh1 "zero" (by decide +kernel)) (Sh1 "zero" (by decide +kernel))
  simp [f11, c]
theorem top_num (st : DS) : callN Pg 11 11 [.tup [.str "top"]] st = .ok (.tup [.int 1, .int 0]) st := by
  rw [call_iso (fd := f11) rfl rfl rfl (by show 1 ≤ 9; decide) (by simp)]
  have c := c_eqG (st := []) (Sh1 "top" (by decide +kernel)) (Sh1 "zero" (by decide +kernel))
  simp [f11, c, tt_ne]
def tl : List S := [.asg (.nm 3) (.lst false [.tup [.tup [.lit (.int 0), .lit (.int 1)], .tup [.lit (.str "zero")]], .tup [.tup [.lit (.int 1), .lit (.int 0)], .tup [.lit (.str "top")]], .tup [.tup [.lit (.int 1), .lit (.int 1)], .tup [.lit (.str "up"), .tup []]], .tup [.tup [.neg (.lit (.int 1)), .lit (.int 1)], .tup [.lit (.str "down"), .tup []]]]),
    .ife (.cmp .ne (.bi .repr [.lc false (.call 8 [.var 6]) (.tp [.nm 6, .nm 13]) .seq [.var 3] [] [6, 13]]) (.bi .repr [.lc false (.var 13) (.tp [.nm 6, .nm 13]) .seq [.var 3] [] [6, 13]])) [.ret (.lit (.bl false))] [],
    .ret (.cmp .eq (.bi .repr [.lc false (.call 11 [.var 13]) (.tp [.nm 6, .nm 13]) .seq [.var 3] [] [6, 13]]) (.bi .repr [.lc false (.var 6) (.tp [.nm 6, .nm 13]) .seq [.var 3] [] [6, 13]]))]
def ws : List D := [.tup [.str "zero"], .tup [.str "top"], .tup [.str "up", .tup []], .tup [.str "down", .tup []]]
def xs : List D := [.tup [.int 0, .int 1], .tup [.int 1, .int 0], .tup [.int 1, .int 1], .tup [.int (-1), .int 1]]
def sm : List D := [.tup [.tup [.int 0, .int 1], .tup [.str "zero"]], .tup [.tup [.int 1, .int 0], .tup [.str "top"]], .tup [.tup [.int 1, .int 1], .tup [.str "up", .tup []]], .tup [.tup [.int (-1), .int 1], .tup [.str "down", .tup []]]]
section
variable {C : Nat → List D → DS → R D} {st : DS} {ρ : MP.Env} {elt : E} {own : List Nat}
theorem lc4 {f : D → DS → R (Option D)} {a b c d a' b' c' d' : D} (h1 : f a st = .ok (some a') st) (h2 : f b st = .ok (some b') st) (h3 : f c st = .ok (some c') st) (h4 : f d st = .ok (some d') st) : lcL f [a, b, c, d] [] st = .ok [a', b', c', d'] st := by
  rw [lcL_y h1 (by show 0 < sizeLine; decide), lcL_y h2 (by show 1 < sizeLine; decide), lcL_y h3 (by show 2 < sizeLine; decide), lcL_y h4 (by show 3 < sizeLine; decide), lcL_n]
  rfl
end
theorem tail_ok {ρ : MP.Env} {st : DS} (hρ : LE ρ) : execs (callN Pg 11) tl ρ st = .ret (.bl true) st := by
  obtain ⟨x0, x2, x3, x4, x5, x6, x7, x8, x9, x10, x11, x12, x13, rfl⟩ := hρ.out
  have u := up_ok 5 [] st True.intro ⟨by decide +kernel, by decide +kernel⟩ (by decide)
  have d := down_ok 5 [] st True.intro ⟨by decide +kernel, by decide +kernel⟩ (by decide)
  have u2 := wn_up 6 [] st True.intro ⟨by decide +kernel, by decide +kernel⟩ (fun _ h => nomatch h) (by decide)
  have d2 := wn_down 6 [] st True.intro ⟨by decide +kernel, by decide +kernel⟩ (fun _ h => nomatch h) (by decide)
  simp only [num, List.map_nil] at u d u2 d2
  have z1 := zero_told st
  have z2 := top_told st
  have z3 := zero_num st
  have z4 := top_num st
  have r1 : biD .repr st [.lst ws] = some (.str (rpS (.lst ws))) := bi_repr (by decide +kernel) (by decide +kernel) (by decide +kernel)
  have r2 : biD .repr st [.lst xs] = some (.str (rpS (.lst xs))) := bi_repr (by decide +kernel) (by decide +kernel) (by decide +kernel)
  have ρ1 : MP.Env := []
  have l1 : lcL (lcW (callN Pg 11) (.call 8 [.var 6]) (.tp [.nm 6, .nm 13]) [] [6, 13] [x0, some (.ref 1), x2, some (.lst sm), x4, x5, x6, x7, x8, x9, x10, x11, x12, x13]) sm [] st = .ok ws st :=
    lc4 (by simp [lcW_eq, z1]) (by simp [lcW_eq, z2]) (by simp [lcW_eq, u]) (by simp [lcW_eq, d])
  have l2 : lcL (lcW (callN Pg 11) (.var 13) (.tp [.nm 6, .nm 13]) [] [6, 13] [x0, some (.ref 1), x2, some (.lst sm), x4, x5, x6, x7, x8, x9, x10, x11, x12, x13]) sm [] st = .ok ws st :=
    lc4 (by simp [lcW_eq]) (by simp [lcW_eq]) (by simp [lcW_eq]) (by simp [lcW_eq])
  have l3 : lcL (lcW (callN Pg 11) (.call 11 [.var 13]) (.tp [.nm 6, .nm 13]) [] [6, 13] [x0, some (.ref 1), x2, some (.lst sm), x4, x5, x6, x7, x8, x9, x10, x11, x12, x13]) sm [] st = .ok xs st :=
    lc4 (by simp [lcW_eq, z3]) (by simp [lcW_eq, z4]) (by simp [lcW_eq, u2]) (by simp [lcW_eq, d2])
  have l4 : lcL (lcW (callN Pg 11) (.var 6) (.tp [.nm 6, .nm 13]) [] [6, 13] [x0, some (.ref 1), x2, some (.lst sm), x4, x5, x6, x7, x8, x9, x10, x11, x12, x13]) sm [] st = .ok xs st :=
    lc4 (by simp [lcW_eq]) (by simp [lcW_eq]) (by simp [lcW_eq]) (by simp [lcW_eq])
  have l0 : eval (callN Pg 11) (.lst false [.tup [.tup [.lit (.int 0), .lit (.int 1)], .tup [.lit (.str "zero")]], .tup [.tup [.lit (.int 1), .lit (.int 0)], .tup [.lit (.str "top")]], .tup [.tup [.lit (.int 1), .lit (.int 1)], .tup [.lit (.str "up"), .tup []]], .tup [.tup [.neg (.lit (.int 1)), .lit (.int 1)], .tup [.lit (.str "down"), .tup []]]]) [x0, some (.ref 1), x2, x3, x4, x5, x6, x7, x8, x9, x10, x11, x12, x13] st = .ok (.lst sm) st := by
    simp [sm]
  simp only [tl, exs_c, exs_n, ex_asg, l0, to_ok, aT_nm, setV_s, setV_z, sbind_nx, ex_ife, eT_cmp, ev_bi, eL_c, eL_n, ev_lc, ev_var, getV_s, getV_z, of_some, bind_ok, itD_lst, l1, l2, l3, l4, newL_f, r1, r2, c_nes, c_eqs, decide_true, Bool.not_true, Bool.false_eq_true, if_false, ex_ret, ev_cmp, sbind_ret]
theorem plain : ∀ ns : List Int, ns.length ≤ 63 → (∀ z ∈ ns, Builtin.Int.intBits z ≤ 1048576) → ∃ st', callN Pg 12 20 [.scr (ns.map D.int)] [] = .ok (.bl true) st' := by
  intro ns hl _
  rw [call_eq (fd := f20) rfl rfl rfl (by show 1 ≤ 14; decide)]
  obtain ⟨st1, e1, s1⟩ := source_ok (P := Pg) (i := 12) (n := 10) rfl ns hl
  have r4 : ∀ st : DS, itD .rng st [.int 4] = some ((List.range 4).map fun (k : Nat) => D.int (0 + (k : Int))) := fun st => itD_rng (by decide)
  have r8 : ∀ st : DS, itD .rng st [.int 8] = some ((List.range 8).map fun (k : Nat) => D.int (0 + (k : Int))) := fun st => itD_rng (by decide)
  obtain ⟨ρ2, st2, e2, h2, rest2, s2⟩ := forL_inv (F := forB (callN Pg 11) (.nm 2) b1) (fun ρ st => LE ρ ∧ ∃ rest, Src st rest) ((List.range 4).map fun (k : Nat) => D.int (0 + (k : Int))) (fun x _ ρ st ⟨h, rest, s⟩ => by
    obtain ⟨ρ', st', rest', e, h', s'⟩ := lap1 x h s
    exact ⟨ρ', st', e, h', rest', s'⟩) [some (.scr (ns.map D.int)), some (.ref 1), none, none, none, none, none, none, none, none, none, none, none, none] st1 ⟨⟨rfl, rfl⟩, [], s1⟩
  obtain ⟨ρ3, st3, e3, h3, rest3, s3⟩ := forL_inv (F := forB (callN Pg 11) (.nm 2) b2) (fun ρ st => LE ρ ∧ ∃ rest, Src st rest) ((List.range 8).map fun (k : Nat) => D.int (0 + (k : Int))) (fun x _ ρ st ⟨h, rest, s⟩ => by
    obtain ⟨ρ', st', e, h', s'⟩ := lap2 x h s
    exact ⟨ρ', st', e, h', rest, s'⟩) ρ2 st2 ⟨h2, rest2, s2⟩
  refine ⟨st3, ?_⟩
  have body : f20.body = .asg (.nm 1) (.call 12 [.var 0]) :: .forr (.nm 2) .rng [.lit (.int 4)] b1 :: .forr (.nm 2) .rng [.lit (.int 8)] b2 :: tl := rfl
  rw [body]
  have env : (List.map some [D.scr (ns.map D.int)] ++ List.replicate (f20.N.length - [D.scr (ns.map D.int)].length) none) = [some (.scr (ns.map D.int)), none, none, none, none, none, none, none, none, none, none, none, none, none] := rfl
  rw [env]
  simp only [exs_c, ex_asg, ev_call, eL_c, eL_n, ev_var, ev_lit, getV_s, getV_z, of_some, bind_ok, e1, to_ok, aT_nm, setV_s, setV_z, sbind_nx, ex_for, r4, r8, e2, e3]
  have e4 := tail_ok (st := st3) h3
  rw [show tl = (tl : List S) from rfl] at e4
  unfold tl at e4
  simp only [exs_c] at e4
  simp only [tl, exs_c]
  rw [e4]
  rfl
end K10

set_option Elab.async false
set_option linter.all false
set_option maxRecDepth 100000
open PySem PySem.W PyProof.Rows
set_option maxHeartbeats 0 in
theorem PySem.Challenge.cw_waylots_k10_ways_by_own_going_holds : PySem.Challenge.rw_waylots_k10_ways_by_own_going.Holds := by
  w_on; o_law; k_head; (case hw => w_witness2)
  k_fill
  refine MP.walkG (l := PySem.Challenge.rw_waylots_k10_ways_by_own_going) (n := 63) (k := 39) (x := "script") rfl (by decide) rfl ⟨rfl, by decide, by decide⟩ (fun w h Y => km_in_of Y) ?F
  case F =>
    intro w mg fa h Y KX G hmg
    have hT8 := km_tabs_of Y
    refine' K10.all_mk (hTab := hT8 _ (List.mem_singleton.mpr rfl)) K10.plain KX G hmg ?a0 ?l0 ?c0_ ?k0 ?a1 ?l1 ?c1_ ?k1 ?a2 ?l2 ?c2_ ?k2 ?a3 ?l3 ?c3_ ?k3 ?a4 ?l4 ?c4_ ?k4 ?a5 ?l5 ?c5_ ?k5 ?a6 ?l6 ?c6_ ?k6 ?a7 ?l7 ?c7_ ?k7 ?a8 ?l8 ?c8_ ?k8 ?a9 ?l9 ?c9_ ?k9 ?a10 ?l10 ?c10_ ?k10 ?a11 ?l11 ?c11_ ?k11 ?a12 ?l12 ?c12_ ?k12 ?a13 ?l13 ?c13_ ?k13 ?a14 ?l14 ?c14_ ?k14 ?a15 ?l15 ?c15_ ?k15 ?a16 ?l16 ?c16_ ?k16 ?a17 ?l17 ?c17_ ?k17 ?a18 ?l18 ?c18_ ?k18 ?a19 ?l19 ?c19_ ?k19 ?a20 ?l20 ?c20_ ?k20 ?hd ?tk ?n0 ?n1 ?n2 ?n3 ?n4 ?n5 ?n6 ?n7 ?n8 ?n9 ?m9 ?n10 ?m10 ?n11 ?m11 ?b_abs ?b_len ?b_max ?b_min ?b_int ?b_str ?b_repr ?b_tuple ?b_all ?b_any ?b_sum ?b_range ?b_list ?b_dict ?b_enumerate ?b_zip ?gcd_ ?aC ?xC ?rC ?saC ?exC ?tyC ?kC ?iC ?sC ?gaC ?ggC ?hdC ?nfC ?inC ?tyI ?lI ?cI ?kcI ?v2I ?flI ?ccl ?clC ?mrC ?supG ?thr ?alo ?sbV ?topS ?aT ?lT ?cT ?kT
    (case a0 => k_is)
    (case l0 => k_is)
    (case c0_ => k_is)
    (case k0 => k_is)
    (case a1 => k_is)
    (case l1 => k_is)
    (case c1_ => k_is)
    (case k1 => k_is)
    (case a2 => k_is)
    (case l2 => k_is)
    (case c2_ => k_is)
    (case k2 => k_is)
    (case a3 => k_is)
    (case l3 => k_is)
    (case c3_ => k_is)
    (case k3 => k_is)
    (case a4 => k_is)
    (case l4 => k_is)
    (case c4_ => k_is)
    (case k4 => k_is)
    (case a5 => k_is)
    (case l5 => k_is)
    (case c5_ => k_is)
    (case k5 => k_is)
    (case a6 => k_is)
    (case l6 => k_is)
    (case c6_ => k_is)
    (case k6 => k_is)
    (case a7 => k_is)
    (case l7 => k_is)
    (case c7_ => k_is)
    (case k7 => k_is)
    (case a8 => k_is)
    (case l8 => k_is)
    (case c8_ => k_is)
    (case k8 => k_is)
    (case a9 => k_is)
    (case l9 => k_is)
    (case c9_ => k_is)
    (case k9 => k_is)
    (case a10 => k_is)
    (case l10 => k_is)
    (case c10_ => k_is)
    (case k10 => k_is)
    (case a11 => k_is)
    (case l11 => k_is)
    (case c11_ => k_is)
    (case k11 => k_is)
    (case a12 => k_is)
    (case l12 => k_is)
    (case c12_ => k_is)
    (case k12 => k_is)
    (case a13 => k_is)
    (case l13 => k_is)
    (case c13_ => k_is)
    (case k13 => k_is)
    (case a14 => k_is)
    (case l14 => k_is)
    (case c14_ => k_is)
    (case k14 => k_is)
    (case a15 => k_is)
    (case l15 => k_is)
    (case c15_ => k_is)
    (case k15 => k_is)
    (case a16 => k_is)
    (case l16 => k_is)
    (case c16_ => k_is)
    (case k16 => k_is)
    (case a17 => k_is)
    (case l17 => k_is)
    (case c17_ => k_is)
    (case k17 => k_is)
    (case a18 => k_is)
    (case l18 => k_is)
    (case c18_ => k_is)
    (case k18 => k_is)
    (case a19 => k_is)
    (case l19 => k_is)
    (case c19_ => k_is)
    (case k19 => k_is)
    (case a20 => k_is)
    (case l20 => k_is)
    (case c20_ => k_is)
    (case k20 => k_is)
    (case hd => kernel_rfl)
    (case tk => kernel_rfl)
    (case n0 => k_is)
    (case n1 => k_is)
    (case n2 => k_is)
    (case n3 => k_is)
    (case n4 => k_is)
    (case n5 => k_is)
    (case n6 => k_is)
    (case n7 => k_is)
    (case n8 => k_is)
    (case n9 => k_is)
    (case m9 => k_is)
    (case n10 => k_is)
    (case m10 => k_is)
    (case n11 => k_is)
    (case m11 => k_is)
    (case b_abs => k_is)
    (case b_len => k_is)
    (case b_max => k_is)
    (case b_min => k_is)
    (case b_int => k_is)
    (case b_str => k_is)
    (case b_repr => k_is)
    (case b_tuple => k_is)
    (case b_all => k_is)
    (case b_any => k_is)
    (case b_sum => k_is)
    (case b_range => k_is)
    (case b_list => k_is)
    (case b_dict => k_is)
    (case b_enumerate => k_is)
    (case b_zip => k_is)
    (case gcd_ => k_is)
    (case aC => k_is)
    (case xC => k_is)
    (case rC => rfl)
    (case saC => k_is)
    (case exC => k_is)
    (case tyC => k_is)
    (case kC => k_is)
    (case iC => k_is)
    (case sC => first | rfl | k_is)
    (case gaC => k_is)
    (case ggC => k_is)
    (case hdC => k_is)
    (case nfC => k_is)
    (case inC => k_is)
    (case tyI => k_is)
    (case lI => k_is)
    (case cI => k_is)
    (case kcI => k_is)
    (case v2I => rfl)
    (case flI => rfl)
    (case ccl => k_is)
    (case clC => k_is)
    (case mrC => k_is)
    (case supG => k_is)
    (case thr => k_is)
    (case alo => kernel_rfl)
    (case sbV => k_is)
    (case topS => decide +kernel)
    (case aT => k_is)
    (case lT => k_is)
    (case cT => k_is)
    (case kT => k_is)

