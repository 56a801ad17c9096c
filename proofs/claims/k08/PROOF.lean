import PyProof.Rows.All
import Wide.All
import OpenK.AllK
import Wide.FinOn
import HandS.ForMost
import HandS.ForExc
import HandS.Wide
import HandS.Gcd
import HandS.Flow
import HandS.Style
import HandS.TupAny
import HandS.Deep
import HandS.IsInst
import HandS.Lambda
import HandS.RaiseMore
import HandS.WideBits
import KE.KMathG
import HandS.Dict
import HandS.Star
import HandS.ExcField
import HandS.TryOnly
import HandS.Small
import HandS.EndTab
import KE.KExcSuper
import KE.KSuper
import HandS.ExcInit
import HandS.Nested
import KE.KNestM
import Flt.RightSqrt
import PySem.Challenge.RW_waylots_k08_roots_against_bounds
set_option Elab.async false
set_option linter.all false
set_option maxRecDepth 100000
/-! A small Python over plain data: its values, its syntax, what it computes. -/
namespace MP
open PySem L2

/-- values: plain data told as such, a changeable object by its number -/
inductive D where
  | non | bl (b : Bool) | int (i : Int) | str (s : Str)
  | tup (xs : List D) | lst (xs : List D) | scr (xs : List D)
  | dic (kvs : List (D × D))
  | ref (n : Nat)

inductive BOp where | add | sub | mul | fdiv | mod | pow
inductive COp where | eq | ne | lt | le | gt | ge | inn | nin | isb | isnb
/-- where a program's defs, constants, errors stand -/
structure Ix where
  f : Nat → Nat
  c : Nat → Nat
inductive IK where | seq | rng | enum | enumT | zip | keys | items | vals | rev
inductive IT where | int | bool | tuple | str | list
inductive BI where | abs | len | max | min | int | str | repr | gcd | isqrt | tuple | all | any | sum
inductive MK where | append | pop | extend | dget | dget2 | join | bitlen | dupdate
inductive TN where | nm (i : Nat) | tp (ts : List TN)

inductive E where
  | var (i : Nat) | lit (d : D) | con (k : Nat) (d : D)
  | bin (op : BOp) (a b : E) | neg (a : E) | not (a : E) | and (a b : E) | or (a b : E)
  | cmp (op : COp) (a b : E) | chain (o1 o2 : COp) (a b c : E) | isN (ng : Bool) (a : E) | ife (c a b : E)
  | tup (es : List E) | tupX (bs : List Bool) (es : List E) | lst (m : Bool) (es : List E) | dic (m : Bool) (es : List E)
  | ix (a i : E) | dix (a i : E) | din (ng : Bool) (a b : E) | sl (m : Bool) (a : E) (lo hi : List E) | rev (m : Bool) (a : E)
  | call (f : Nat) (es : List E) | bi (b : BI) (es : List E) | newl (m : Bool) (a : E) | newd (m : Bool) (a : E)
  | meth (k : MK) (o : E) (es : List E) | imeth (c f : Nat) (o : E) (es : List E) | mk (c f : Nat) (es : List E) | fld (c : Nat) (o : E) (f : Str) | tv (e : E)
  | lc (m : Bool) (elt : E) (tg : TN) (ik : IK) (src : List E) (ifs : List E) (own : List Nat)
  | bad | binO (op : BOp) (a b : E) | revT (a : E) | isa (ng : List IT) (a : E) | told (f : Nat) (e : E) | emp (m : Bool)
  | lcv (m : Bool) (elt : E) (tg : TN) (en : Bool) (src : E) (ifs : List E) (own : List Nat)

inductive T where | nm (i : Nat) | sub (o i : E) | fld (c : Nat) (o : E) (f : Str) | tp (ts : List T)

inductive S where
  | expr (e : E) | ret (e : E) | retN | asg (t : T) (e : E) | aug (i : Nat) (op : BOp) (e : E)
  | ife (c : E) (a b : List S) | whl (c : E) (b : List S) | forr (tg : TN) (ik : IK) (src : List E) (b : List S)
  | pass | brk | cont | raise (c : Nat) (es : List E) | bad | par (is : List Nat) (es : List E) | slc (i : Nat) (e : E)
  | forv (tg : TN) (en : Bool) (src : E) (b : List S)

/-- a changeable object -/
inductive Ob where
  | lst (xs : List D) | dic (kvs : List (D × D)) | ins (c : Nat) (fs : List (Str × D))
abbrev DS := List Ob
abbrev Env := List (Option D)

inductive R (α : Type) where
  | ok (a : α) (st : DS) | exc (c : Nat) (fs : List D) (st : DS) | bad
def R.bind {α β : Type} (x : R α) (f : α → DS → R β) : R β := match x with
  | .ok a st => f a st
  | .exc c fs st => .exc c fs st
  | .bad => .bad
def R.of {α : Type} (o : Option α) (st : DS) : R α := match o with | some a => .ok a st | none => .bad

inductive RS where
  | nx (ρ : Env) (st : DS) | ret (d : D) (st : DS) | brk (ρ : Env) (st : DS) | cont (ρ : Env) (st : DS) | exc (c : Nat) (fs : List D) (ρ : Env) (st : DS) | bad
def RS.bind (x : RS) (f : Env → DS → RS) : RS := match x with
  | .nx ρ st => f ρ st
  | .ret d st => .ret d st
  | .brk ρ st => .brk ρ st
  | .cont ρ st => .cont ρ st
  | .exc c fs ρ st => .exc c fs ρ st
  | .bad => .bad
def R.to {α : Type} (x : R α) (ρ : Env) (f : α → DS → RS) : RS := match x with
  | .ok a st => f a st
  | .exc c fs st => .exc c fs ρ st
  | .bad => .bad

/-! ### values -/
def getV : Env → Nat → Option D
  | [], _ => none
  | x :: _, 0 => x
  | _ :: r, n + 1 => getV r n
def setV : Env → Nat → Option D → Env
  | [], _, _ => []
  | _ :: r, 0, d => d :: r
  | x :: r, n + 1, d => x :: setV r n d
def setAll : List Nat → List D → Env → Env
  | i :: is, d :: ds, ρ => setAll is ds (setV ρ i (some d))
  | _, _, ρ => ρ
def getO : DS → Nat → Option Ob
  | [], _ => none
  | x :: _, 0 => some x
  | _ :: r, n + 1 => getO r n
def setO : DS → Nat → Ob → DS
  | [], _, _ => []
  | _ :: r, 0, d => d :: r
  | x :: r, n + 1, d => x :: setO r n d
def wipeV (ρ : Env) : List Nat → Env
  | [] => ρ
  | v :: vs => setV (wipeV ρ vs) v none

mutual
def noRef : D → Bool
  | .ref _ => false
  | .tup xs => noRefL xs
  | .lst xs => noRefL xs
  | .scr xs => noRefL xs
  | .dic kvs => noRefP kvs
  | _ => true
def noRefL : List D → Bool
  | [] => true
  | x :: r => noRef x && noRefL r
def noRefP : List (D × D) → Bool
  | [] => true
  | (k, v) :: r => noRef k && noRef v && noRefP r
end
mutual
/-- as data, without changeable objects -/
def pd0 : D → Option PyData
  | .non => some .none
  | .bl b => some (.bool b)
  | .int i => some (.int i)
  | .str s => some (.str s)
  | .tup xs => (pd0L xs).map .tuple
  | .lst xs => (pd0L xs).map .list
  | .scr xs => (pd0L xs).map .list
  | .dic kvs => (pd0P kvs).map .dict
  | .ref _ => none
def pd0L : List D → Option (List PyData)
  | [] => some []
  | x :: r => match pd0 x, pd0L r with | some a, some b => some (a :: b) | _, _ => none
def pd0P : List (D × D) → Option (List (PyData × PyData))
  | [] => some []
  | (k, v) :: r => match pd0 k, pd0 v, pd0P r with | some a, some b, some c => some ((a, b) :: c) | _, _, _ => none
end
mutual
/-- as data, objects read -/
def pd (st : DS) : D → Option PyData
  | .non => some .none
  | .bl b => some (.bool b)
  | .int i => some (.int i)
  | .str s => some (.str s)
  | .tup xs => (pdL st xs).map .tuple
  | .lst xs => (pdL st xs).map .list
  | .scr xs => (pdL st xs).map .list
  | .dic kvs => (pdP st kvs).map .dict
  | .ref n => match getO st n with
    | some (.lst xs) => (pd0L xs).map .list
    | some (.dic kvs) => (pd0P kvs).map .dict
    | _ => none
def pdL (st : DS) : List D → Option (List PyData)
  | [] => some []
  | x :: r => match pd st x, pdL st r with | some a, some b => some (a :: b) | _, _ => none
def pdP (st : DS) : List (D × D) → Option (List (PyData × PyData))
  | [] => some []
  | (k, v) :: r => match pd st k, pd st v, pdP st r with | some a, some b, some c => some ((a, b) :: c) | _, _, _ => none
end
/-- a sequence's items -/
def seqD (st : DS) : D → Option (List D)
  | .tup xs => some xs
  | .lst xs => some xs
  | .scr xs => some xs
  | .ref n => match getO st n with | some (.lst xs) => some xs | _ => none
  | _ => none
/-- a list's items -/
def lisD (st : DS) : D → Option (List D)
  | .lst xs => some xs
  | .scr xs => some xs
  | .ref n => match getO st n with | some (.lst xs) => some xs | _ => none
  | _ => none
def blsD : List D → Option (List Bool)
  | [] => some []
  | .bl b :: r => (blsD r).map (b :: ·)
  | _ => none
def intsD : List D → Option (List Int)
  | [] => some []
  | .int b :: r => (intsD r).map (b :: ·)
  | _ => none
def mulOk (i j : Int) : Bool := !(decide (Builtin.Int.intBits i > shortFactorBits) && decide (Builtin.Int.intBits j > shortFactorBits) && Builtin.Int.intTooBig (Builtin.Int.intBits i + Builtin.Int.intBits j))
def divOk (i j : Int) : Bool := decide (j ≠ 0) && !Builtin.divisionGoesByPylong i j
def b2i (b : Bool) : Int := if b then 1 else 0
/-- a list that is told in full, or an object -/
def lstD (st : DS) : D → Option (List D)
  | .lst xs => some xs
  | .ref n => match getO st n with | some (.lst xs) => some xs | _ => none
  | _ => none
/-- the list that an operator gives -/
def catD (op : BOp) (st : DS) (x y : D) : Option (List D) := match op with
  | .add => match lstD st x, lstD st y with | some a, some b => if a.length + b.length ≤ sizeLine then some (a ++ b) else none | _, _ => none
  | .mul => match lstD st x, y with | some a, .int k => if -(2 ^ 63) ≤ k ∧ k < 2 ^ 63 ∧ a.length * k.toNat ≤ sizeLine then some (List.replicate k.toNat a).flatten else none | _, _ => none
  | _ => none
def binD (op : BOp) (st : DS) (x y : D) : Option D := match op, x, y with
  | .add, .int i, .int j => some (.int (i + j))
  | .sub, .int i, .int j => some (.int (i - j))
  | .mul, .int i, .int j => if mulOk i j then some (.int (i * j)) else none
  | .fdiv, .int i, .int j => if divOk i j then some (.int (i.fdiv j)) else none
  | .mod, .int i, .int j => if j ≠ 0 then some (.int (i.fmod j)) else none
  | .pow, .int i, .int j => if 0 ≤ j ∧ j ≤ 1000000 ∧ i.natAbs < 2 ^ 64 then some (.int (i ^ j.toNat)) else none
  | .add, .str a, .str b => if a.length + b.length ≤ sizeLine then some (.str (a ++ b)) else none
  | .mul, .str a, .int k => if -(2 ^ 63) ≤ k ∧ k ≤ 16777216 ∧ a.length * k.toNat ≤ 16777216 then some (.str (Txt.mul a k)) else none
  | .add, .tup a, .tup b => if a.length + b.length ≤ sizeLine then some (.tup (a ++ b)) else none
  | op, x, y => (catD op st x y).map .lst
def augD (op : BOp) (x y : D) : Option D := match op, x, y with
  | .add, .int i, .int j => some (.int (i + j))
  | .sub, .int i, .int j => some (.int (i - j))
  | _, _, _ => none
def isNon : D → Bool
  | .non => true | _ => false
def isScal : D → Bool
  | .non => true | .bl _ => true | .int _ => true | .str _ => true | _ => false
def eqD (st : DS) (x y : D) : Option Bool := match x, y with
  | .int i, .int j => some (decide (i = j))
  | .str i, .str j => some (decide (i = j))
  | .bl i, .bl j => some (decide (i = j))
  | x, y => match pd st x, pd st y with
    | some a, some b => if SeqAt.shaped a && SeqAt.shaped b then some (PyData.eqv a b) else none
    | _, _ => none
def flatD : D → Bool
  | .non => true | .bl _ => true | .int _ => true | .str _ => true | _ => false
/-- == of flat values -/
def eqF : D → D → Bool
  | .non, .non => true
  | .bl a, .bl b => a == b
  | .bl a, .int b => (if a then 1 else 0) == b
  | .int a, .bl b => a == (if b then 1 else 0)
  | .int a, .int b => a == b
  | .str a, .str b => a == b
  | _, _ => false
/-- x among the items -/
def inL (st : DS) (x : D) (ys : List D) : Option Bool := if flatD x && ys.all flatD then some (ys.any fun y => eqF y x) else none
def keyOf : D → Option Key
  | .int i => some (.inl i)
  | .str s => some (.inr s)
  | _ => none
def keysOf (kvs : List (D × D)) : Option (List (Key × D)) := match kvs with
  | [] => some []
  | (k, v) :: r => match keyOf k, keysOf r with | some a, some b => some ((a, v) :: b) | _, _ => none
def findK (k : Key) : List (Key × D) → Option D
  | [] => none
  | (a, v) :: r => if a = k then some v else findK k r
def dicD (st : DS) : D → Option (List (D × D))
  | .dic kvs => some kvs
  | .ref n => match getO st n with | some (.dic kvs) => some kvs | _ => none
  | _ => none
def inD (st : DS) (x y : D) : Option Bool := match x, y with
  | .str a, .str b => some (!(Builtin.Str.occurrences b a 0 b.length 1).isEmpty)
  | x, y => match seqD st y with | some ys => inL st x ys | none => none
def dinD (st : DS) (x y : D) : Option Bool := match dicD st y, keyOf x with
  | some kvs, some k => match keysOf kvs with | some l => some (findK k l).isSome | none => none
  | _, _ => none
def dixD (st : DS) (x y : D) : Option D := match dicD st x, keyOf y with
  | some kvs, some k => match keysOf kvs with | some l => findK k l | none => none
  | _, _ => none
def cmpD (op : COp) (st : DS) (x y : D) : Option Bool := match op with
  | .eq => eqD st x y
  | .ne => (eqD st x y).map (!·)
  | .lt => match x, y with | .int i, .int j => some (decide (i < j)) | _, _ => none
  | .le => match x, y with | .int i, .int j => some (decide (i ≤ j)) | _, _ => none
  | .gt => match x, y with | .int i, .int j => some (decide (j < i)) | _, _ => none
  | .ge => match x, y with | .int i, .int j => some (decide (j ≤ i)) | _, _ => none
  | .inn => inD st x y
  | .nin => (inD st x y).map (!·)
  | .isb => match x, y with | .bl i, .bl j => some (decide (i = j)) | _, _ => none
  | .isnb => match x, y with | .bl i, .bl j => some (!decide (i = j)) | _, _ => none
def truD (st : DS) (d : D) : Option Bool := match d with
  | .non => some false
  | .bl b => some b
  | .int i => some (i != 0)
  | .str s => if s.length ≤ sizeLine then some ((s.length : Int) != 0) else none
  | d => match seqD st d with
    | some xs => some (!xs.isEmpty)
    | none => match dicD st d with | some kvs => some (!kvs.isEmpty) | none => none
def ixD (st : DS) (x y : D) : Option D := match x, y with
  | .str s, .int i => if s.length ≤ sizeLine then (atI s.cps.toList i).map fun c => .str ⟨#[c]⟩ else none
  | x, .int i => match seqD st x with | some xs => atI xs i | none => none
  | _, _ => none
def cutD (xs : List D) (lo hi : Option Int) : List D := (xs.drop (HT.sIx xs.length 0 lo)).take (HT.sIx xs.length xs.length hi - HT.sIx xs.length 0 lo)
def bitsD (i : Int) : Nat := Builtin.Int.intBits i
def biD (b : BI) (st : DS) (xs : List D) : Option D := match b, xs with
  | .abs, [.int i] => some (.int (if i < 0 then -i else i))
  | .len, [.str s] => if s.length ≤ sizeLine then some (.int s.length) else none
  | .len, [d] => match seqD st d with
    | some ys => some (.int ys.length)
    | none => match dicD st d with | some kvs => some (.int kvs.length) | none => none
  | .max, [.int i, .int j] => some (.int (if j > i then j else i))
  | .min, [.int i, .int j] => some (.int (if j < i then j else i))
  | .int, [.int i] => some (.int i)
  | .int, [.bl k] => some (.int (if k then 1 else 0))
  | .int, [.str s] => if s.length ≤ 640 then (PySem.intText? s).map D.int else none
  | .str, [.int i] => if i.natAbs.log2 < 1920 then some (.str (toString i)) else none
  | .repr, [d] => match pd st d with
    | some p => if p.showable && decide (p.shown.length ≤ sizeLine) && decide (p.depth ≤ 60) && !p.hasDict then some (.str p.shown) else none
    | none => none
  | .gcd, [.int a, .int b] => some (.int ((Nat.gcd a.natAbs b.natAbs : Nat) : Int))
  | .isqrt, [.int a] => if 0 ≤ a ∧ a.toNat.log2 < 13000 then some (.int ((Float64.isqrt a.toNat : Nat) : Int)) else none
  | .tuple, [.tup ys] => some (.tup ys)
  | .tuple, [d] => match lisD st d with | some ys => some (.tup ys) | none => none
  | .all, [d] => match (lisD st d).bind blsD with | some bs => some (.bl (bs.all id)) | none => none
  | .any, [d] => match (lisD st d).bind blsD with | some bs => some (.bl (bs.any id)) | none => none
  | .sum, [d] => match (lisD st d).bind intsD with | some bs => some (.int bs.sum) | none => none
  | _, _ => none
/-- what a walk gives -/
def itD (ik : IK) (st : DS) (xs : List D) : Option (List D) := match ik, xs with
  | .seq, [.str s] => some (s.cps.toList.map fun c => .str ⟨#[c]⟩)
  | .seq, [.tup xs] => some xs
  | .seq, [.lst xs] => some xs
  | .seq, [.scr xs] => some xs
  | .rng, [.int j] => if -(2 ^ 62) ≤ j ∧ j < 2 ^ 62 then some ((List.range j.toNat).map fun (k : Nat) => .int (0 + (k : Int))) else none
  | .rng, [.int i, .int j] => if -(2 ^ 62) ≤ i ∧ i < 2 ^ 62 ∧ -(2 ^ 62) ≤ j ∧ j < 2 ^ 62 then some ((List.range (j - i).toNat).map fun (k : Nat) => .int (i + (k : Int))) else none
  | .enum, [.lst ys] => some (ys.zipIdx.map fun p => .tup [.int (p.2 : Int), p.1])
  | .enumT, [.tup ys] => some (ys.zipIdx.map fun p => .tup [.int (p.2 : Int), p.1])
  | _, _ => none
def putP (kvs : List (D × D)) (k : Key) (kd v : D) : List (D × D) :=
  if kvs.any (fun kv => decide (keyOf kv.1 = some k)) then kvs.map (fun kv => if keyOf kv.1 = some k then (kv.1, v) else kv) else kvs ++ [(kd, v)]
def mergeP (kvs : List (D × D)) : List (D × D) → List (D × D)
  | [] => kvs
  | (k, v) :: r => match keyOf k with
    | some a => mergeP (putP kvs a k v) r
    | none => kvs
def putFD (f : Str) (v : D) : List (Str × D) → List (Str × D)
  | [] => [(f, v)]
  | (g, u) :: r => if g = f then (g, v) :: r else (g, u) :: putFD f v r
def lookFD (f : Str) : List (Str × D) → Option D
  | [] => none
  | (g, u) :: r => if g = f then some u else lookFD f r
def pairUp : List D → Option (List (D × D))
  | [] => some []
  | k :: v :: r => (pairUp r).map fun l => (k, v) :: l
  | _ => none
/-- whether a value is of a type -/
def isaD (st : DS) (t : IT) (x : D) : Option Bool := match x with
  | .non => some false
  | .bl _ => some (match t with | .int => true | .bool => true | _ => false)
  | .int _ => some (match t with | .int => true | _ => false)
  | .str _ => some (match t with | .str => true | _ => false)
  | .tup _ => some (match t with | .tuple => true | _ => false)
  | .lst _ => some (match t with | .list => true | _ => false)
  | .scr _ => none
  | .dic _ => some false
  | .ref n => match getO st n with
    | some (.lst _) => some (match t with | .list => true | _ => false)
    | some (.dic _) => some false
    | _ => none
/-- a list comes new: told as it is, or as an object -/
def newL (m : Bool) (xs : List D) (st : DS) : R D := if m then .ok (.ref st.length) (st ++ [.lst xs]) else .ok (.lst xs) st
def slD (m : Bool) (x : D) (l h : Option Int) (st3 : DS) : R D := match x with
  | .tup xs => if m then .bad else .ok (.tup (cutD xs l h)) st3
  | .str s => if m then .bad else if s.length ≤ sizeLine then .ok (.str (cutS s l h)) st3 else .bad
  | x => match lisD st3 x with | some xs => newL m (cutD xs l h) st3 | none => .bad
def newD (m : Bool) (kvs : List (D × D)) (st : DS) : R D := if m then .ok (.ref st.length) (st ++ [.dic kvs]) else .ok (.dic kvs) st
/-- of what kind a method's object is -/
def mtyD (k : MK) (st : DS) (x : D) : Bool := match k with
  | .append => (lstD st x).isSome
  | .pop => (lstD st x).isSome
  | .extend => (lstD st x).isSome
  | .dget => (dicD st x).isSome
  | .dget2 => (dicD st x).isSome
  | .dupdate => (dicD st x).isSome
  | .bitlen => match x with | .int _ => true | _ => false
  | .join => match x with | .str _ => true | _ => false
def methD (k : MK) (st : DS) (o : D) (xs : List D) : R D := match k, o, xs with
  | .append, .ref n, [d] => match getO st n with
    | some (.lst ys) => if ys.length < sizeLine then .ok .non (setO st n (.lst (ys ++ [d]))) else .bad
    | _ => .bad
  | .pop, .ref n, [] => match getO st n with
    | some (.lst ys) => match ys[ys.length - 1]? with | some y => .ok y (setO st n (.lst ys.dropLast)) | none => .bad
    | _ => .bad
  | .dget, d, [x] => match dicD st d, keyOf x with
    | some kvs, some k => match keysOf kvs with | some l => .ok ((findK k l).getD .non) st | none => .bad
    | _, _ => .bad
  | .dget2, d, [x, y] => match dicD st d, keyOf x with
    | some kvs, some k => match keysOf kvs with | some l => .ok ((findK k l).getD y) st | none => .bad
    | _, _ => .bad
  | .bitlen, .int i, [] => .ok (.int (Builtin.Int.intBits i : Nat)) st
  | _, _, _ => .bad
mutual
def tnD : TN → D → Env → Option Env
  | .nm i, d, ρ => some (setV ρ i (some d))
  | .tp ts, .tup xs, ρ => tnL ts xs ρ
  | .tp _, _, _ => none
def tnL : List TN → List D → Env → Option Env
  | [], [], ρ => some ρ
  | t :: ts, x :: xs, ρ => match tnD t x ρ with | some ρ' => tnL ts xs ρ' | none => none
  | _, _, _ => none
end
def fuel : Nat := 18446744073709551616

/-- a walk over a list as it stands at each lap: its item number i, or its end -/
def srcD (en : Bool) (st : DS) (x : D) : Option (List D) := if en then lisD st x else seqD st x
def wkD (en : Bool) (st : DS) (x : D) (i : Nat) : Option (Option D) := match srcD en st x with
  | some xs => some (match xs[i]? with | some d => some (if en then .tup [.int (i : Int), d] else d) | none => none)
  | none => none
/-- the list of a comprehension over a list as it stands -/
def lcV (f : D → DS → R (Option D)) (en : Bool) (x : D) : Nat → Nat → List D → DS → R (List D)
  | 0, _, _, _ => .bad
  | k + 1, i, acc, st => match wkD en st x i with
    | none => .bad
    | some none => .ok acc st
    | some (some d) => match f d st with
      | .ok (some y) st1 => if acc.length < sizeLine then lcV f en x k (i + 1) (acc ++ [y]) st1 else .bad
      | .ok none st1 => lcV f en x k (i + 1) acc st1
      | _ => .bad
/-- the list of a comprehension; nothing is raised within -/
def lcL (f : D → DS → R (Option D)) : List D → List D → DS → R (List D)
  | [], acc, st => .ok acc st
  | x :: xs, acc, st => match f x st with
    | .ok (some d) st1 => if acc.length < sizeLine then lcL f xs (acc ++ [d]) st1 else .bad
    | .ok none st1 => lcL f xs acc st1
    | _ => .bad

section
variable (C : Nat → List D → DS → R D)
mutual
def eval : E → Env → DS → R D
  | .var i, ρ, st => R.of (getV ρ i) st
  | .lit d, _, st => .ok d st
  | .con _ d, _, st => .ok d st
  | .bin op a b, ρ, st => (eval a ρ st).bind fun x st1 => (eval b ρ st1).bind fun y st2 => R.of (binD op st2 x y) st2
  | .neg a, ρ, st => (eval a ρ st).bind fun x st1 => match x with | .int i => .ok (.int (-i)) st1 | _ => .bad
  | .not a, ρ, st => (eval a ρ st).bind fun x st1 => (R.of (truD st1 x) st1).bind fun k st2 => .ok (.bl (!k)) st2
  | .and a b, ρ, st => (eval a ρ st).bind fun x st1 => (R.of (truD st1 x) st1).bind fun k st2 => if k then eval b ρ st2 else .ok x st2
  | .or a b, ρ, st => (eval a ρ st).bind fun x st1 => (R.of (truD st1 x) st1).bind fun k st2 => if k then .ok x st2 else eval b ρ st2
  | .cmp op a b, ρ, st => (eval a ρ st).bind fun x st1 => (eval b ρ st1).bind fun y st2 => (R.of (cmpD op st2 x y) st2).bind fun k st3 => .ok (.bl k) st3
  | .chain o1 o2 a b c, ρ, st => (eval a ρ st).bind fun x st1 => (eval b ρ st1).bind fun y st2 => (R.of (cmpD o1 st2 x y) st2).bind fun k st3 =>
      if k then (eval c ρ st3).bind fun z st4 => (R.of (cmpD o2 st4 y z) st4).bind fun k st5 => .ok (.bl k) st5 else .ok (.bl false) st3
  | .isN ng a, ρ, st => (eval a ρ st).bind fun x st1 => .ok (.bl (xor ng (isNon x))) st1
  | .ife c a b, ρ, st => (evalT c ρ st).bind fun k st1 => if k then eval a ρ st1 else eval b ρ st1
  | .tup es, ρ, st => (evalL es ρ st).bind fun xs st1 => if xs.length ≤ sizeLine then .ok (.tup xs) st1 else .bad
  | .tupX bs es, ρ, st => (evalX bs es ρ st).bind fun xs st1 => if xs.length ≤ sizeLine then .ok (.tup xs) st1 else .bad
  | .lst m es, ρ, st => (evalL es ρ st).bind fun xs st1 => if xs.length ≤ sizeLine then newL m xs st1 else .bad
  | .dic m es, ρ, st => match evalL es ρ st with
      | .ok xs st1 => (match pairUp xs with
        | some kvs => if kvs.length ≤ 15 ∧ (keysOf kvs).isSome then newD m (mergeP [] kvs) st1 else .bad
        | none => .bad)
      | _ => .bad
  | .dix a i, ρ, st => (eval a ρ st).bind fun x st1 => (eval i ρ st1).bind fun y st2 => R.of (dixD st2 x y) st2
  | .din ng a b, ρ, st => (eval a ρ st).bind fun x st1 => (eval b ρ st1).bind fun y st2 => (R.of (dinD st2 x y) st2).bind fun k st3 => .ok (.bl (xor ng k)) st3
  | .ix a i, ρ, st => (eval a ρ st).bind fun x st1 => (eval i ρ st1).bind fun y st2 => R.of (ixD st2 x y) st2
  | .sl m a lo hi, ρ, st => (eval a ρ st).bind fun x st1 => (evalO lo ρ st1).bind fun l st2 => (evalO hi ρ st2).bind fun h st3 => slD m x l h st3
  | .rev m a, ρ, st => (eval a ρ st).bind fun x st1 => match lisD st1 x with | some xs => newL m xs.reverse st1 | none => .bad
  | .call f es, ρ, st => (evalL es ρ st).bind fun xs st1 => C f xs st1
  | .bi b es, ρ, st => (evalL es ρ st).bind fun xs st1 => R.of (biD b st1 xs) st1
  | .newl m a, ρ, st => (eval a ρ st).bind fun x st1 => match seqD st1 x with | some xs => newL m xs st1 | none => .bad
  | .newd m a, ρ, st => (eval a ρ st).bind fun x st1 => match seqD st1 x with
      | some xs => match xs.mapM (fun x => match x with | .tup [k, v] => some (k, v) | _ => none) with
        | some kvs => if (keysOf kvs).isSome then newD m (mergeP [] kvs) st1 else .bad
        | none => .bad
      | none => .bad
  | .meth k o es, ρ, st => (eval o ρ st).bind fun x st1 => if mtyD k st1 x then (evalL es ρ st1).bind fun xs st2 => methD k st2 x xs else .bad
  | .imeth c f o es, ρ, st => (eval o ρ st).bind fun x st1 => match x with
      | .ref n => match getO st1 n with
        | some (.ins c' _) => if c' = c then (evalL es ρ st1).bind fun xs st2 => C f (x :: xs) st2 else .bad
        | _ => .bad
      | _ => .bad
  | .mk c f es, ρ, st => (evalL es ρ st).bind fun xs st1 => (C f (.ref st1.length :: xs) (st1 ++ [.ins c []])).bind fun d st2 => match d with
      | .non => .ok (.ref st1.length) st2
      | _ => .bad
  | .fld c o f, ρ, st => (eval o ρ st).bind fun x st1 => match x with
      | .ref n => match getO st1 n with
        | some (.ins c' fs) => if c' = c then R.of (lookFD f fs) st1 else .bad
        | _ => .bad
      | _ => .bad
  | .tv a, ρ, st => eval a ρ st
  | .bad, _, _ => .bad
  | .emp m, _, st => newD m [] st
  | .binO op a b, ρ, st => (eval a ρ st).bind fun x st1 => (eval b ρ st1).bind fun y st2 => match catD op st2 x y with | some zs => newL true zs st2 | none => .bad
  | .revT a, ρ, st => (eval a ρ st).bind fun x st1 => match x with | .tup xs => .ok (.tup xs.reverse) st1 | _ => .bad
  | .isa ts a, ρ, st => (eval a ρ st).bind fun x st1 => match ts with | [t] => (R.of (isaD st1 t x) st1).bind fun k st2 => .ok (.bl k) st2 | _ => .bad
  | .told _ e, ρ, st => match eval e ρ st with
    | .ok d st1 => .ok (.tup [.str "told", d]) st1
    | .exc 0 [d] st1 => .ok (.tup [.str "great", d]) st1
    | _ => .bad
  | .lc m elt tg ik src ifs own, ρ, st => (evalL src ρ st).bind fun xs st1 => match itD ik st1 xs with
      | some items => (lcL (fun x st2 => match tnD tg x (wipeV ρ own) with
          | some ρ' => (evalTs ifs ρ' st2).bind fun k st3 => if k then (eval elt ρ' st3).bind fun d st4 => .ok (some d) st4 else .ok none st3
          | none => .bad) items [] st1).bind fun ys st2 => newL m ys st2
      | none => .bad
  | .lcv m elt tg en src ifs own, ρ, st => (eval src ρ st).bind fun x st1 => (lcV (fun x st2 => match tnD tg x (wipeV ρ own) with
          | some ρ' => (evalTs ifs ρ' st2).bind fun k st3 => if k then (eval elt ρ' st3).bind fun d st4 => .ok (some d) st4 else .ok none st3
          | none => .bad) en x fuel 0 [] st1).bind fun ys st2 => newL m ys st2
/-- as a test -/
def evalT : E → Env → DS → R Bool
  | .not a, ρ, st => (evalT a ρ st).bind fun k st1 => .ok (!k) st1
  | .and a b, ρ, st => (evalT a ρ st).bind fun k st1 => if k then evalT b ρ st1 else .ok false st1
  | .or a b, ρ, st => (evalT a ρ st).bind fun k st1 => if k then .ok true st1 else evalT b ρ st1
  | .cmp op a b, ρ, st => (eval a ρ st).bind fun x st1 => (eval b ρ st1).bind fun y st2 => R.of (cmpD op st2 x y) st2
  | .tv a, ρ, st => (eval a ρ st).bind fun x st1 => R.of (truD st1 x) st1
  | .isN ng a, ρ, st => (eval a ρ st).bind fun x st1 => .ok (xor ng (isNon x)) st1
  | .din ng a b, ρ, st => (eval a ρ st).bind fun x st1 => (eval b ρ st1).bind fun y st2 => (R.of (dinD st2 x y) st2).bind fun k st3 => .ok (xor ng k) st3
  | .chain o1 o2 a b c, ρ, st => (eval a ρ st).bind fun x st1 => (eval b ρ st1).bind fun y st2 => (R.of (cmpD o1 st2 x y) st2).bind fun k st3 =>
      if k then (eval c ρ st3).bind fun z st4 => R.of (cmpD o2 st4 y z) st4 else .ok false st3
  | _, _, _ => .bad
def evalL : List E → Env → DS → R (List D)
  | [], _, st => .ok [] st
  | e :: es, ρ, st => (eval e ρ st).bind fun x st1 => (evalL es ρ st1).bind fun xs st2 => .ok (x :: xs) st2
/-- items, some of them spread -/
def evalX : List Bool → List E → Env → DS → R (List D)
  | _, [], _, st => .ok [] st
  | false :: bs, e :: es, ρ, st => (eval e ρ st).bind fun x st1 => (evalX bs es ρ st1).bind fun xs st2 => .ok (x :: xs) st2
  | true :: bs, e :: es, ρ, st => (eval e ρ st).bind fun x st1 => match seqD st1 x with
    | some ys => (evalX bs es ρ st1).bind fun xs st2 => .ok (ys ++ xs) st2
    | none => .bad
  | [], _ :: _, _, _ => .bad
def evalTs : List E → Env → DS → R Bool
  | [], _, st => .ok true st
  | e :: es, ρ, st => (evalT e ρ st).bind fun k st1 => if k then evalTs es ρ st1 else .ok false st1
def evalO : List E → Env → DS → R (Option Int)
  | [], _, st => .ok none st
  | e :: _, ρ, st => (eval e ρ st).bind fun x st1 => match x with | .int i => .ok (some i) st1 | _ => .bad
end

/-! ### statements -/
def whileL (c : Env → DS → R Bool) (b : Env → DS → RS) : Nat → Env → DS → RS
  | 0, _, _ => .bad
  | n + 1, ρ, st => (c ρ st).to ρ fun k st1 => if k then (match b ρ st1 with
      | .nx ρ' st' => whileL c b n ρ' st'
      | .cont ρ' st' => whileL c b n ρ' st'
      | .brk ρ' st' => .nx ρ' st'
      | r => r) else .nx ρ st1
def forV (b : D → Env → DS → RS) (en : Bool) (x : D) : Nat → Nat → Env → DS → RS
  | 0, _, _, _ => .bad
  | k + 1, i, ρ, st => match wkD en st x i with
    | none => .bad
    | some none => .nx ρ st
    | some (some d) => match b d ρ st with
      | .nx ρ' st' => forV b en x k (i + 1) ρ' st'
      | .cont ρ' st' => forV b en x k (i + 1) ρ' st'
      | .brk ρ' st' => .nx ρ' st'
      | r => r
def forL (b : D → Env → DS → RS) : List D → Env → DS → RS
  | [], ρ, st => .nx ρ st
  | x :: xs, ρ, st => match b x ρ st with
      | .nx ρ' st' => forL b xs ρ' st'
      | .cont ρ' st' => forL b xs ρ' st'
      | .brk ρ' st' => .nx ρ' st'
      | r => r
mutual
def asgT : T → D → Env → DS → RS
  | .nm i, d, ρ, st => .nx (setV ρ i (some d)) st
  | .sub o i, d, ρ, st => (eval C o ρ st).to ρ fun od st1 => (eval C i ρ st1).to ρ fun x st2 => match od with
      | .ref n => match getO st2 n, keyOf x with
        | some (.dic kvs), some k => if kvs.length < sizeLine then .nx ρ (setO st2 n (.dic (putP kvs k x d))) else .bad
        | some (.lst xs), some (.inl i) => (match ixN xs.length i with
          | some k => .nx ρ (setO st2 n (.lst (xs.set k d)))
          | none => .bad)
        | _, _ => .bad
      | _ => .bad
  | .fld c o f, d, ρ, st => (eval C o ρ st).to ρ fun od st1 => match od with
      | .ref n => match getO st1 n with
        | some (.ins c' fs) => if c' = c ∧ fs.length < 1000 then .nx ρ (setO st1 n (.ins c (putFD f d fs))) else .bad
        | _ => .bad
      | _ => .bad
  | .tp ts, .tup xs, ρ, st => if xs.length = ts.length then asgTs ts xs ρ st else .bad
  | .tp ts, .lst xs, ρ, st => if xs.length = ts.length then asgTs ts xs ρ st else .bad
  | .tp _, _, _, _ => .bad
def asgTs : List T → List D → Env → DS → RS
  | [], [], ρ, st => .nx ρ st
  | t :: ts, x :: xs, ρ, st => match asgT t x ρ st with
      | .nx ρ' st' => asgTs ts xs ρ' st'
      | .exc c fs ρ' st' => .exc c fs ρ' st'
      | _ => .bad
  | _, _, _, _ => .bad
end
mutual
def exec : S → Env → DS → RS
  | .expr e, ρ, st => (eval C e ρ st).to ρ fun _ st1 => .nx ρ st1
  | .ret e, ρ, st => (eval C e ρ st).to ρ fun d st1 => .ret d st1
  | .retN, _, st => .ret .non st
  | .asg t e, ρ, st => (eval C e ρ st).to ρ fun d st1 => asgT C t d ρ st1
  | .aug i op e, ρ, st => match getV ρ i with
      | some x => (eval C e ρ st).to ρ fun y st1 => match augD op x y with
        | some z => .nx (setV ρ i (some z)) st1
        | none => .bad
      | none => .bad
  | .ife c a b, ρ, st => (evalT C c ρ st).to ρ fun k st1 => if k then execs a ρ st1 else execs b ρ st1
  | .whl c b, ρ, st => whileL (evalT C c) (execs b) fuel ρ st
  | .forr tg ik src b, ρ, st => (evalL C src ρ st).to ρ fun xs st1 => match itD ik st1 xs with
      | some items => forL (fun x ρ' st' => match tnD tg x ρ' with | some ρ2 => execs b ρ2 st' | none => .bad) items ρ st1
      | none => .bad
  | .forv tg en src b, ρ, st => (eval C src ρ st).to ρ fun x st1 => forV (fun x ρ' st' => match tnD tg x ρ' with | some ρ2 => execs b ρ2 st' | none => .bad) en x fuel 0 ρ st1
  | .pass, ρ, st => .nx ρ st
  | .brk, ρ, st => .brk ρ st
  | .cont, ρ, st => .cont ρ st
  | .raise c es, ρ, st => (evalL C es ρ st).to ρ fun xs st1 => .exc c xs ρ st1
  | .par is es, ρ, st => (evalL C es ρ st).to ρ fun xs st1 => if xs.length = is.length then .nx (setAll is xs ρ) st1 else .bad
  | .slc i e, ρ, st => (eval C e ρ st).to ρ fun d st1 => .nx (setV ρ i (some d)) st1
  | .bad, _, _ => .bad
def execs : List S → Env → DS → RS
  | [], ρ, st => .nx ρ st
  | s :: r, ρ, st => match exec s ρ st with
      | .nx ρ' st' => execs r ρ' st'
      | x => x
end
end
/-! ### defs -/
structure FDef where
  nm : Str
  gl : Bool
  np : Nat
  iso : Bool
  lam : Bool
  N : List Str
  body : List S
def RS.end : RS → R D
  | .nx _ st => .ok .non st
  | .ret d st => .ok d st
  | .exc c fs _ st => .exc c fs st
  | _ => .bad
def runF (C : Nat → List D → DS → R D) (f : FDef) (xs : List D) (st : DS) : R D :=
  if xs.length = f.np ∧ xs.length ≤ f.N.length then (execs C f.body (xs.map some ++ List.replicate (f.N.length - xs.length) none) st).end else .bad
/-- a def that is given no objects and hands back none: its own are let go -/
def isoF (f : FDef) (g : List D → DS → R D) (xs : List D) (st : DS) : R D := if f.iso then
    (if noRefL xs then (match g xs [] with
      | .ok d _ => if noRef d then .ok d st else .bad
      | .exc c fs _ => if noRefL fs then .exc c fs st else .bad
      | .bad => .bad) else .bad)
  else g xs st
def callN (P : Nat → Option FDef) : Nat → Nat → List D → DS → R D
  | 0, _, _, _ => .bad
  | n + 1, f, xs, st => match P f with
    | some fd => isoF fd (runF (callN P n) fd) xs st
    | none => .bad
end MP

set_option Elab.async false
set_option linter.all false
set_option maxRecDepth 100000
set_option maxHeartbeats 1000000
namespace MP
open PySem L2
/-- the classes' places, the tables of code objects -/
structure Cl where
  c : Nat → Addr
  T : List (Addr × Str)
instance : CoeFun Cl (fun _ => Nat → Addr) := ⟨Cl.c⟩
open LamX in
theorem tabs_keep {T : List (Addr × Str)} {H H' : Hp} (t : Tabs T H) (h : ∀ b o, H b = some o → (∃ ps, o = .tbl ps) ∨ (∃ q, o = .ext q) → H' b = some o) : Tabs T H' := fun p hp => by
  obtain ⟨ps, e, ok, a⟩ := t p hp
  refine ⟨ps, h _ _ e (.inl ⟨ps, rfl⟩), ok, fun pos cv hc => ?_⟩
  obtain ⟨c, e1, e2⟩ := a pos cv hc
  exact ⟨c, e1, h _ _ e2 (.inr ⟨_, rfl⟩)⟩
/-! ### how values stand in the heap -/
/-- a tuple of the written part -/
def WrT (K : PySem.W.Frag) (a : Addr) (xs : List V) : Prop :=
  ∃ (o : Obj) (its : Array Value) (n : Nat), K.lookup a = some o ∧ o.cls = .type "tuple" ∧ o.data = .seq its n ∧ its.size ≤ sizeLine ∧ Vals xs its.toList
section
variable (K : PySem.W.Frag) (F μ : List Addr) (H : Hp)
mutual
inductive Rel : D → V → Prop
  | non : Rel .non .non
  | bl (b : Bool) : Rel (.bl b) (.bl b)
  | int (i : Int) : Rel (.int i) (.int i)
  | str (s : Str) : Rel (.str s) (.str s)
  | tup {a : Addr} {xs : List V} {ds : List D} : H a = some (.tup xs) → a ∉ μ → RelL ds xs → Rel (.tup ds) (.ref a)
  | tupK {a : Addr} {xs : List V} {ds : List D} : WrT K a xs → RelL ds xs → Rel (.tup ds) (.ref a)
  | lst {a : Addr} {xs : List V} {ds : List D} : H a = some (.lst xs) → a ∉ μ → a ∉ F → RelL ds xs → Rel (.lst ds) (.ref a)
  | scr {a : Addr} {xs : List V} {o : Obj} {ds : List D} : H a = some (.frz o (.lst xs)) → a ∉ μ → RelL ds xs → Rel (.scr ds) (.ref a)
  | scrK {a : Addr} {xs : List V} {ds : List D} : (∀ H', SqL K H' a xs) → RelL ds xs → Rel (.scr ds) (.ref a)
  | dic {a : Addr} {kvs : List (D × D)} {l : List (Key × V)} : H a = some (.dK l) → a ∉ μ → a ∉ F → RelP kvs l → Rel (.dic kvs) (.ref a)
  | ref {n : Nat} {a : Addr} : μ[n]? = some a → Rel (.ref n) (.ref a)
inductive RelL : List D → List V → Prop
  | nil : RelL [] []
  | cons {d : D} {v : V} {ds : List D} {vs : List V} : Rel d v → RelL ds vs → RelL (d :: ds) (v :: vs)
inductive RelP : List (D × D) → List (Key × V) → Prop
  | nil : RelP [] []
  | cons {k : D} {d : D} {key : Key} {v : V} {ds : List (D × D)} {vs : List (Key × V)} : keyOf k = some key → Rel d v → RelP ds vs → RelP ((k, d) :: ds) ((key, v) :: vs)
end
end
/-- the world grows: old ones in μ may be written, all else that is tracked stays -/
structure Ext (μ μ' : List Addr) (H H' : Hp) : Prop where
  pre : ∃ s, μ' = μ ++ s ∧ ∀ p ∈ s, H p = none
  keep : ∀ p o, H p = some o → p ∉ μ → (∀ ps, o ≠ .tbl ps) → H' p = some o
  live : ∀ p, H p ≠ none → H' p ≠ none
theorem Ext.refl {μ : List Addr} {H : Hp} : Ext μ μ H H := ⟨⟨[], by simp, fun _ h => nomatch h⟩, fun _ _ h _ _ => h, fun _ h => h⟩
theorem Ext.trans {μ μ1 μ2 : List Addr} {H H1 H2 : Hp} (a : Ext μ μ1 H H1) (b : Ext μ1 μ2 H1 H2) : Ext μ μ2 H H2 := by
  obtain ⟨s, rfl, hs⟩ := a.pre
  obtain ⟨t, rfl, ht⟩ := b.pre
  refine ⟨⟨s ++ t, by simp, fun p hp => ?_⟩, fun p o h hn nt => ?_, fun p h => b.live p (a.live p h)⟩
  · rcases List.mem_append.mp hp with z | z
    · exact hs p z
    · cases q : H p with
      | none => rfl
      | some o => exact absurd (ht p z) (a.live p (by rw [q]; exact fun e => nomatch e))
  · refine b.keep p o (a.keep p o h hn nt) (fun z => ?_) nt
    rcases List.mem_append.mp z with z | z
    · exact hn z
    · rw [hs p z] at h; cases h
theorem Ext.nin {μ μ' : List Addr} {H H' : Hp} (e : Ext μ μ' H H') {a : Addr} {o : HO} (h : H a = some o) (hn : a ∉ μ) : a ∉ μ' := by
  obtain ⟨s, rfl, hs⟩ := e.pre
  intro z
  rcases List.mem_append.mp z with z | z
  · exact hn z
  · rw [hs a z] at h; cases h
theorem Ext.at {μ μ' : List Addr} {H H' : Hp} (e : Ext μ μ' H H') {n : Nat} {a : Addr} (h : μ[n]? = some a) : μ'[n]? = some a := by
  obtain ⟨s, rfl, hs⟩ := e.pre
  rw [List.getElem?_append_left (List.getElem?_eq_some_iff.mp h).1]
  exact h
section
variable {K : PySem.W.Frag} {F μ μ' : List Addr} {H H' : Hp}
mutual
theorem Rel.mono (e : Ext μ μ' H H') : ∀ (d : D) (v : V), Rel K F μ H d v → Rel K F μ' H' d v
  | .non, _, h => by cases h; exact .non
  | .bl _, _, h => by cases h; exact .bl _
  | .int _, _, h => by cases h; exact .int _
  | .str _, _, h => by cases h; exact .str _
  | .tup ds, _, h => by
    cases h with
    | tup h1 h2 h3 => exact .tup (e.keep _ _ h1 h2 (fun _ z => nomatch z)) (e.nin h1 h2) (RelL.mono e ds _ h3)
    | tupK h1 h3 => exact .tupK h1 (RelL.mono e ds _ h3)
  | .lst ds, _, h => by
    cases h with
    | lst h1 h2 h4 h3 => exact .lst (e.keep _ _ h1 h2 (fun _ z => nomatch z)) (e.nin h1 h2) h4 (RelL.mono e ds _ h3)
  | .scr ds, _, h => by
    cases h with
    | scr h1 h2 h3 => exact .scr (e.keep _ _ h1 h2 (fun _ z => nomatch z)) (e.nin h1 h2) (RelL.mono e ds _ h3)
    | scrK h1 h3 => exact .scrK h1 (RelL.mono e ds _ h3)
  | .dic kvs, _, h => by
    cases h with
    | dic h1 h2 h4 h3 => exact .dic (e.keep _ _ h1 h2 (fun _ z => nomatch z)) (e.nin h1 h2) h4 (RelP.mono e kvs _ h3)
  | .ref n, _, h => by
    cases h with
    | ref h1 => exact .ref (e.at h1)
theorem RelL.mono (e : Ext μ μ' H H') : ∀ (ds : List D) (vs : List V), RelL K F μ H ds vs → RelL K F μ' H' ds vs
  | [], _, h => by cases h; exact .nil
  | d :: ds, _, h => by
    cases h with
    | cons h1 h2 => exact .cons (Rel.mono e d _ h1) (RelL.mono e ds _ h2)
theorem RelP.mono (e : Ext μ μ' H H') : ∀ (ds : List (D × D)) (vs : List (Key × V)), RelP K F μ H ds vs → RelP K F μ' H' ds vs
  | [], _, h => by cases h; exact .nil
  | (k, d) :: ds, _, h => by
    cases h with
    | cons h0 h1 h2 => exact .cons h0 (Rel.mono e d _ h1) (RelP.mono e ds _ h2)
end
theorem RelL.length : ∀ {ds : List D} {vs : List V}, RelL K F μ H ds vs → ds.length = vs.length
  | [], _, h => by cases h; rfl
  | d :: ds, _, h => by
    cases h with
    | cons h1 h2 => simp [RelL.length h2]
theorem RelL.append : ∀ {ds es : List D} {vs ws : List V}, RelL K F μ H ds vs → RelL K F μ H es ws → RelL K F μ H (ds ++ es) (vs ++ ws)
  | [], _, _, _, h, g => by cases h; exact g
  | d :: ds, _, _, _, h, g => by
    cases h with
    | cons h1 h2 => exact .cons h1 (RelL.append h2 g)
theorem RelL.get : ∀ {ds : List D} {vs : List V} {i : Nat} {d : D}, RelL K F μ H ds vs → ds[i]? = some d → ∃ v, vs[i]? = some v ∧ Rel K F μ H d v
  | [], _, _, _, _, e => by simp at e
  | d :: ds, _, 0, _, h, e => by
    cases h with
    | cons h1 h2 => simp at e; subst e; exact ⟨_, rfl, h1⟩
  | d :: ds, _, i + 1, _, h, e => by
    cases h with
    | cons h1 h2 =>
      obtain ⟨v, a, b⟩ := RelL.get (i := i) h2 (by simpa using e)
      exact ⟨v, by simpa using a, b⟩
theorem RelL.get' : ∀ {ds : List D} {vs : List V} {i : Nat} {v : V}, RelL K F μ H ds vs → vs[i]? = some v → ∃ d, ds[i]? = some d ∧ Rel K F μ H d v
  | [], _, _, _, h, e => by cases h; simp at e
  | d :: ds, _, 0, _, h, e => by
    cases h with
    | cons h1 h2 => simp at e; subst e; exact ⟨_, rfl, h1⟩
  | d :: ds, _, i + 1, _, h, e => by
    cases h with
    | cons h1 h2 =>
      obtain ⟨v, a, b⟩ := RelL.get' (i := i) h2 (by simpa using e)
      exact ⟨v, by simpa using a, b⟩
theorem RelL.take : ∀ {ds : List D} {vs : List V} (n : Nat), RelL K F μ H ds vs → RelL K F μ H (ds.take n) (vs.take n)
  | [], _, n, h => by cases h; simp; exact .nil
  | d :: ds, _, 0, h => by simp; exact .nil
  | d :: ds, _, n + 1, h => by
    cases h with
    | cons h1 h2 => exact .cons h1 (RelL.take n h2)
theorem RelL.drop : ∀ {ds : List D} {vs : List V} (n : Nat), RelL K F μ H ds vs → RelL K F μ H (ds.drop n) (vs.drop n)
  | [], _, n, h => by cases h; simp; exact .nil
  | d :: ds, _, 0, h => h
  | d :: ds, _, n + 1, h => by
    cases h with
    | cons h1 h2 => exact RelL.drop n h2
theorem RelL.reverse : ∀ {ds : List D} {vs : List V}, RelL K F μ H ds vs → RelL K F μ H ds.reverse vs.reverse
  | [], _, h => by cases h; exact .nil
  | d :: ds, _, h => by
    cases h with
    | cons h1 h2 =>
      rw [List.reverse_cons, List.reverse_cons]
      exact RelL.append (RelL.reverse h2) (.cons h1 .nil)
theorem RelL.dropLast {ds : List D} {vs : List V} (h : RelL K F μ H ds vs) : RelL K F μ H ds.dropLast vs.dropLast := by
  rw [List.dropLast_eq_take, List.dropLast_eq_take, h.length]
  exact h.take _
theorem RelL.rep {ds : List D} {vs : List V} (h : RelL K F μ H ds vs) : ∀ n : Nat, RelL K F μ H (List.replicate n ds).flatten (List.replicate n vs).flatten
  | 0 => .nil
  | n + 1 => by
    rw [List.replicate_succ, List.replicate_succ, List.flatten_cons, List.flatten_cons]
    exact h.append (h.rep n)
theorem RelP.keys : ∀ {ds : List (D × D)} {l : List (Key × V)}, RelP K F μ H ds l → ∃ l', keysOf ds = some l' ∧ Paired (fun (p : Key × D) (q : Key × V) => p.1 = q.1 ∧ Rel K F μ H p.2 q.2) l' l
  | [], _, h => by cases h; exact ⟨[], rfl, .nil⟩
  | (k, d) :: ds, _, h => by
    cases h with
    | cons h0 h1 h2 =>
      obtain ⟨l', e, p⟩ := RelP.keys h2
      exact ⟨_, by unfold keysOf; rw [h0, e], .cons ⟨rfl, h1⟩ p⟩
theorem RelP.length : ∀ {ds : List (D × D)} {l : List (Key × V)}, RelP K F μ H ds l → ds.length = l.length
  | [], _, h => by cases h; rfl
  | (k, d) :: ds, _, h => by
    cases h with
    | cons h0 h1 h2 => simp [RelP.length h2]
end

/-! ### objects, environments -/
def RelFs (K : PySem.W.Frag) (F μ : List Addr) (H : Hp) (fs : List (Str × D)) (l : List (Str × V)) : Prop :=
  Paired (fun (p : Str × D) (q : Str × V) => p.1 = q.1 ∧ Rel K F μ H p.2 q.2) fs l
def ObRel (K : PySem.W.Frag) (cls : Cl) (F μ : List Addr) (H : Hp) (a : Addr) : Ob → Prop
  | .lst ds => ∃ vs, H a = some (.lst vs) ∧ RelL K F μ H ds vs
  | .dic kvs => ∃ l, H a = some (.dK l) ∧ RelP K F μ H kvs l
  | .ins c fs => ∃ dx l, H a = some (.ins (cls c) dx l) ∧ RelFs K F μ H fs l
structure StRel (K : PySem.W.Frag) (cls : Cl) (F μ : List Addr) (H : Hp) (st : DS) : Prop where
  len : μ.length = st.length
  nd : μ.Nodup
  obj : ∀ n a, μ[n]? = some a → ∃ ob, getO st n = some ob ∧ ObRel K cls F μ H a ob
  dis : ∀ a ∈ μ, a ∉ F
  fl : ∀ a ∈ F, H a ≠ none
  tb : LamX.Tabs cls.T H
def EnvRel (K : PySem.W.Frag) (F μ : List Addr) (H : Hp) (ρ : Env) (σ : St) : Prop :=
  ρ.length = σ.length ∧ ∀ i d, getV ρ i = some d → ∃ v, σ[i]? = some (some v) ∧ Rel K F μ H d v
section
variable {K : PySem.W.Frag} {cls : Cl} {F μ μ' : List Addr} {H H' : Hp} {st : DS} {ρ : Env} {σ : St}
theorem EnvRel.mono (r : EnvRel K F μ H ρ σ) (e : Ext μ μ' H H') : EnvRel K F μ' H' ρ σ := ⟨r.1, fun i d h => by
  obtain ⟨v, a, b⟩ := r.2 i d h
  exact ⟨v, a, b.mono e⟩⟩
theorem RelFs.mono (e : Ext μ μ' H H') {fs : List (Str × D)} {l : List (Str × V)} (h : RelFs K F μ H fs l) : RelFs K F μ' H' fs l := Paired.mapP h fun a b p => ⟨p.1, p.2.mono e⟩
theorem ObRel.mono {a : Addr} {ob : Ob} (x : ObRel K cls F μ H a ob) (e : Ext μ μ' H H') (h : H' a = H a) : ObRel K cls F μ' H' a ob := by
  cases ob with
  | lst ds => obtain ⟨vs, p, q⟩ := x; exact ⟨vs, h.trans p, q.mono e⟩
  | dic kvs => obtain ⟨vs, p, q⟩ := x; exact ⟨vs, h.trans p, q.mono e⟩
  | ins c fs => obtain ⟨dx, l, p, q⟩ := x; exact ⟨dx, l, h.trans p, q.mono e⟩
theorem ObRel.ne {a : Addr} {ob : Ob} (x : ObRel K cls F μ H a ob) : H a ≠ none := by
  cases ob with
  | lst ds => obtain ⟨vs, p, q⟩ := x; rw [p]; exact fun z => nomatch z
  | dic kvs => obtain ⟨vs, p, q⟩ := x; rw [p]; exact fun z => nomatch z
  | ins c fs => obtain ⟨dx, l, p, q⟩ := x; rw [p]; exact fun z => nomatch z
theorem StRel.ne (s : StRel K cls F μ H st) {a : Addr} (h : a ∈ μ) : H a ≠ none := by
  obtain ⟨n, hn, e⟩ := List.getElem_of_mem h
  obtain ⟨ob, _, r⟩ := s.obj n a (by rw [List.getElem?_eq_getElem hn, e])
  exact r.ne
theorem StRel.fresh (s : StRel K cls F μ H st) {a : Addr} (h : H a = none) : a ∉ μ := fun z => s.ne z h
theorem StRel.freshF (s : StRel K cls F μ H st) {a : Addr} (h : H a = none) : a ∉ F := fun z => s.fl a z h
/-- what is ours is no table -/
theorem ObRel.notTab {a : Addr} {ob : Ob} (x : ObRel K cls F μ H a ob) (u : HO) (e : H a = some u) (h : (∃ ps, u = .tbl ps) ∨ ∃ q, u = .ext q) : False := by
  cases ob with
  | lst ds => obtain ⟨vs, p, q⟩ := x; rw [p] at e; cases e; rcases h with ⟨_, z⟩ | ⟨_, z⟩ <;> cases z
  | dic kvs => obtain ⟨vs, p, q⟩ := x; rw [p] at e; cases e; rcases h with ⟨_, z⟩ | ⟨_, z⟩ <;> cases z
  | ins c fs => obtain ⟨dx, l, p, q⟩ := x; rw [p] at e; cases e; rcases h with ⟨_, z⟩ | ⟨_, z⟩ <;> cases z
theorem StRel.notTab (s : StRel K cls F μ H st) {a : Addr} (h : a ∈ μ) (u : HO) (e : H a = some u) (hu : (∃ ps, u = .tbl ps) ∨ ∃ q, u = .ext q) : False := by
  obtain ⟨n, hn, e1⟩ := List.getElem_of_mem h
  obtain ⟨ob, _, r⟩ := s.obj n a (by rw [List.getElem?_eq_getElem hn, e1])
  exact r.notTab u e hu
/-- a new tracked object that nothing of ours changes -/
theorem ext_new {p : Addr} {o : HO} (h : H p = none) : Ext μ μ H (upd H p o) :=
  ⟨⟨[], by simp, fun _ z => nomatch z⟩, fun q u e _ _ => by rw [upd_ne (ne_of_none e h)]; exact e, fun q z => by
    by_cases e : q = p
    · subst e; rw [upd_same]; exact fun z => nomatch z
    · rw [upd_ne e]; exact z⟩
theorem StRel.keep (s : StRel K cls F μ H st) (e : Ext μ μ H H') (h : ∀ a ∈ μ, H' a = H a) (ht : LamX.Tabs cls.T H') : StRel K cls F μ H' st :=
  ⟨s.len, s.nd, fun n a hn => by
    obtain ⟨ob, q, r⟩ := s.obj n a hn
    exact ⟨ob, q, r.mono e (h a (List.mem_of_getElem? hn))⟩, s.dis, fun a ha => e.live a (s.fl a ha), ht⟩
theorem StRel.new (s : StRel K cls F μ H st) {p : Addr} {o : HO} (h : H p = none) : StRel K cls F μ (upd H p o) st :=
  s.keep (ext_new h) (fun a ha => upd_ne fun z => s.ne ha (z ▸ h)) (s.tb.ext fun b u e => by rw [upd_ne (ne_of_none e h)]; exact e)
/-- a new object of ours -/
theorem ext_own {p : Addr} {o : HO} (h : H p = none) : Ext μ (μ ++ [p]) H (upd H p o) :=
  ⟨⟨[p], rfl, fun q z => by rw [List.mem_singleton.mp z]; exact h⟩, (ext_new (μ := μ) h).keep, (ext_new (μ := μ) (o := o) h).live⟩
theorem getO_append {st : DS} {x : Ob} : ∀ {n : Nat} {o : Ob}, getO st n = some o → getO (st ++ [x]) n = some o := by
  induction st with
  | nil => intro n o h; cases h
  | cons a r ih =>
    intro n o h
    cases n with
    | zero => exact h
    | succ n => exact ih h
theorem getO_last {st : DS} {x : Ob} : getO (st ++ [x]) st.length = some x := by
  induction st with
  | nil => rfl
  | cons a r ih => exact ih
theorem StRel.own (s : StRel K cls F μ H st) {p : Addr} {o : HO} {ob : Ob} (h : H p = none) (r : ObRel K cls F (μ ++ [p]) (upd H p o) p ob) : StRel K cls F (μ ++ [p]) (upd H p o) (st ++ [ob]) := by
  have np : p ∉ μ := s.fresh h
  refine ⟨by simp [s.len], ?_, fun n a hn => ?_, fun a ha => ?_, fun a ha => ?_, s.tb.ext fun b u e => by rw [upd_ne (ne_of_none e h)]; exact e⟩
  · rw [List.nodup_append]
    exact ⟨s.nd, by simp, fun a ha b hb z => np (by rw [← List.mem_singleton.mp hb, ← z]; exact ha)⟩
  · by_cases e : n < μ.length
    · rw [List.getElem?_append_left e] at hn
      obtain ⟨ob', q, r'⟩ := s.obj n a hn
      refine ⟨ob', getO_append q, r'.mono (ext_own h) (upd_ne fun z => np (z ▸ List.mem_of_getElem? hn))⟩
    · rw [List.getElem?_append_right (by omega)] at hn
      have e2 : n - μ.length = 0 := by
        cases q : n - μ.length with
        | zero => rfl
        | succ k => rw [q] at hn; simp at hn
      rw [e2] at hn
      simp at hn
      subst hn
      have e3 : n = st.length := by have := s.len; omega
      subst e3
      exact ⟨ob, getO_last, r⟩
  · rcases List.mem_append.mp ha with z | z
    · exact s.dis a z
    · rw [List.mem_singleton.mp z]; exact s.freshF h
  · exact (ext_own (μ := μ) (o := o) h).live a (s.fl a ha)
theorem getO_set {st : DS} {x : Ob} : ∀ {n m : Nat}, n ≠ m → getO (setO st n x) m = getO st m := by
  induction st with
  | nil => intro n m _; rfl
  | cons a r ih =>
    intro n m h
    cases n with
    | zero => cases m with
      | zero => exact absurd rfl h
      | succ m => rfl
    | succ n => cases m with
      | zero => rfl
      | succ m => exact ih (fun z => h (by rw [z]))
theorem getO_set_same {st : DS} {x y : Ob} : ∀ {n : Nat}, getO st n = some y → getO (setO st n x) n = some x := by
  induction st with
  | nil => intro n h; cases h
  | cons a r ih =>
    intro n h
    cases n with
    | zero => rfl
    | succ n => exact ih h
theorem setO_length {st : DS} {x : Ob} : ∀ {n : Nat}, (setO st n x).length = st.length := by
  induction st with
  | nil => intro n; rfl
  | cons a r ih =>
    intro n
    cases n with
    | zero => rfl
    | succ n => simp [setO, ih]
/-- an object of ours is written -/
theorem ext_set {p : Addr} {o : HO} (h : p ∈ μ) : Ext μ μ H (upd H p o) :=
  ⟨⟨[], by simp, fun _ z => nomatch z⟩, fun q u e hn _ => by rw [upd_ne fun z => hn (by rw [z]; exact h)]; exact e, fun q z => by
    by_cases e : q = p
    · subst e; rw [upd_same]; exact fun z => nomatch z
    · rw [upd_ne e]; exact z⟩
theorem StRel.set (s : StRel K cls F μ H st) {n : Nat} {p : Addr} {o : HO} {ob : Ob} (h : μ[n]? = some p) (r : ObRel K cls F μ (upd H p o) p ob) : StRel K cls F μ (upd H p o) (setO st n ob) := by
  have hp : p ∈ μ := List.mem_of_getElem? h
  refine ⟨by rw [setO_length]; exact s.len, s.nd, fun m a hm => ?_, s.dis, fun a ha => (ext_set (μ := μ) (o := o) hp).live a (s.fl a ha), tabs_keep s.tb fun b u e hu => by
    by_cases z : b = p
    · subst z; exact (s.notTab hp u e hu).elim
    · rw [upd_ne z]; exact e⟩
  obtain ⟨ob', q, r'⟩ := s.obj m a hm
  by_cases e : n = m
  · subst e
    rw [h] at hm; cases hm
    exact ⟨ob, getO_set_same q, r⟩
  · refine ⟨ob', (getO_set e).trans q, r'.mono (ext_set hp) (upd_ne fun z => e ?_)⟩
    subst z
    obtain ⟨h1, e1⟩ := List.getElem?_eq_some_iff.mp h
    obtain ⟨h2, e2⟩ := List.getElem?_eq_some_iff.mp hm
    exact (List.getElem_inj s.nd).mp (e1.trans e2.symm)
theorem getV_set {ρ : Env} {x : Option D} : ∀ {n m : Nat}, n ≠ m → getV (setV ρ n x) m = getV ρ m := by
  induction ρ with
  | nil => intro n m _; rfl
  | cons a r ih =>
    intro n m h
    cases n with
    | zero => cases m with
      | zero => exact absurd rfl h
      | succ m => rfl
    | succ n => cases m with
      | zero => rfl
      | succ m => exact ih (fun z => h (by rw [z]))
theorem setV_length {ρ : Env} {x : Option D} : ∀ {n : Nat}, (setV ρ n x).length = ρ.length := by
  induction ρ with
  | nil => intro n; rfl
  | cons a r ih =>
    intro n
    cases n with
    | zero => rfl
    | succ n => simp [setV, ih]
theorem getV_set_same {ρ : Env} {x : Option D} : ∀ {n : Nat} {d : D}, getV (setV ρ n x) n = some d → x = some d ∧ n < ρ.length := by
  induction ρ with
  | nil => intro n d h; cases h
  | cons a r ih =>
    intro n d h
    cases n with
    | zero => exact ⟨h, by simp⟩
    | succ n =>
      obtain ⟨a, b⟩ := ih h
      exact ⟨a, by simp; omega⟩
theorem EnvRel.set (r : EnvRel K F μ H ρ σ) {i : Nat} {d : D} {v : V} (h : Rel K F μ H d v) : EnvRel K F μ H (setV ρ i (some d)) (σ.set i (some v)) := by
  refine ⟨by rw [setV_length, List.length_set]; exact r.1, fun j e hj => ?_⟩
  by_cases q : i = j
  · subst q
    obtain ⟨a, b⟩ := getV_set_same hj
    cases a
    exact ⟨v, by rw [List.getElem?_set_self (by rw [← r.1]; exact b)], h⟩
  · rw [getV_set q] at hj
    obtain ⟨u, a, b⟩ := r.2 j e hj
    exact ⟨u, by rw [List.getElem?_set_ne q]; exact a, b⟩
theorem EnvRel.unset (r : EnvRel K F μ H ρ σ) {i : Nat} : EnvRel K F μ H (setV ρ i none) (σ.set i none) := by
  refine ⟨by rw [setV_length, List.length_set]; exact r.1, fun j e hj => ?_⟩
  by_cases q : i = j
  · subst q
    obtain ⟨a, b⟩ := getV_set_same hj
    cases a
  · rw [getV_set q] at hj
    obtain ⟨u, a, b⟩ := r.2 j e hj
    exact ⟨u, by rw [List.getElem?_set_ne q]; exact a, b⟩
theorem EnvRel.wipe (r : EnvRel K F μ H ρ σ) : ∀ vs : List Nat, EnvRel K F μ H (wipeV ρ vs) (wipe σ vs)
  | [] => r
  | v :: vs => (r.wipe vs).unset
end
end MP

set_option Elab.async false
set_option linter.all false
set_option maxRecDepth 100000
set_option maxHeartbeats 2000000
namespace MP
open PySem L2 PyProof.Rows
/-! ### readings -/
section
variable (K : PySem.W.Frag) (cls : Cl) (xf : Nat → List Str) (F : List Addr)
/-- an error's fields in its dict -/
def XRel (μ : List Addr) (H : Hp) (c : Nat) (fs : List D) (l : List (Str × V)) : Prop :=
  ∀ (i : Nat) (f : Str) (d : D), (xf c)[i]? = some f → fs[i]? = some d → ∃ v, l.lookup f = some v ∧ Rel K F μ H d v
def Post {α β : Type} (Rl : List Addr → Hp → α → β → Prop) (W : WX) (σ : L2.St) (μ : List Addr) (H : Hp) (r : R α) (Q : β → Hp → Prop) : Prop := match r with
  | .ok d st => ∀ μ' H' v, Ext μ μ' H H' → StRel K cls F μ' H' st → Rl μ' H' d v → Q v H'
  | .exc c fs st => ∀ μ' H' dd l, Ext μ μ' H H' → StRel K cls F μ' H' st → H' dd = some (.xd l) → XRel K xf F μ' H' c fs l → W (.ref (cls c)) (some dd) σ H'
  | .bad => False
/-- what an expression's meaning asks -/
def RD {α β : Type} (Rl : List Addr → Hp → α → β → Prop) (W : WX) (sem : Env → DS → R α) : L2.St → Hp → (β → Hp → Prop) → Prop := fun σ H Q =>
  ∃ ρ st μ, EnvRel K F μ H ρ σ ∧ StRel K cls F μ H st ∧ Post K cls xf F Rl W σ μ H (sem ρ st) Q
abbrev rlD : List Addr → Hp → D → V → Prop := fun μ H d v => Rel K F μ H d v
abbrev rlL : List Addr → Hp → List D → List V → Prop := fun μ H d v => RelL K F μ H d v
abbrev rlB : List Addr → Hp → Bool → Bool → Prop := fun _ _ b b' => b = b'
abbrev rlO : List Addr → Hp → Option Int → Option Int → Prop := fun _ _ b b' => b = b'
def TD (W : WX) (sem : Env → DS → R D) : TE := RD K cls xf F (rlD K F) W sem
def TLs (W : WX) (sem : Env → DS → R (List D)) : TA := RD K cls xf F (rlL K F) W sem
def TB (W : WX) (sem : Env → DS → R Bool) : TT := RD K cls xf F rlB W sem
end
section
variable {K : PySem.W.Frag} {cls : Cl} {xf : Nat → List Str} {F : List Addr} {W : WX} {μ : List Addr} {H : Hp} {σ : L2.St} {ρ : Env} {st : DS}
theorem Post.shift {α β : Type} {Rl : List Addr → Hp → α → β → Prop} {r : R α} {Q : β → Hp → Prop} {μ1 : List Addr} {H1 : Hp} (e : Ext μ μ1 H H1) (h : Post K cls xf F Rl W σ μ H r Q) : Post K cls xf F Rl W σ μ1 H1 r Q := by
  cases r with
  | ok d st => exact fun μ' H' v e' => h μ' H' v (e.trans e')
  | exc c fs st => exact fun μ' H' dd l e' => h μ' H' dd l (e.trans e')
  | bad => exact h
theorem RD.bind {α β γ δ : Type} {Ra : List Addr → Hp → α → β → Prop} {Rg : List Addr → Hp → γ → δ → Prop} {sa : Env → DS → R α} {k : α → DS → R γ} {Q : δ → Hp → Prop} {Q' : β → Hp → Prop}
    (hE : EnvRel K F μ H ρ σ) (hS : StRel K cls F μ H st) (hP : Post K cls xf F Rg W σ μ H ((sa ρ st).bind k) Q)
    (h : ∀ a st1 μ1 H1 v, Ext μ μ1 H H1 → StRel K cls F μ1 H1 st1 → Ra μ1 H1 a v → EnvRel K F μ1 H1 ρ σ → Post K cls xf F Rg W σ μ1 H1 (k a st1) Q → Q' v H1) : RD K cls xf F Ra W sa σ H Q' := by
  refine ⟨ρ, st, μ, hE, hS, ?_⟩
  cases e : sa ρ st with
  | ok a st1 =>
    rw [e] at hP
    exact fun μ1 H1 v x s r => h a st1 μ1 H1 v x s r (hE.mono x) (hP.shift x)
  | exc c fs st1 => rw [e] at hP; exact hP
  | bad => rw [e] at hP; exact hP.elim
theorem Post.of {α β : Type} {Rl : List Addr → Hp → α → β → Prop} {o : Option α} {Q : β → Hp → Prop} (h : Post K cls xf F Rl W σ μ H (R.of o st) Q) :
    ∃ a, o = some a ∧ ∀ μ' H' v, Ext μ μ' H H' → StRel K cls F μ' H' st → Rl μ' H' a v → Q v H' := by
  cases o with
  | none => exact h.elim
  | some a => exact ⟨a, rfl, h⟩
theorem EnvRel.at (r : EnvRel K F μ H ρ σ) {i : Nat} {d : D} (h : getV ρ i = some d) : ∃ v, σ[i]? = some (some v) ∧ Rel K F μ H d v := r.2 i d h
/-- binding of a pure answer -/
theorem Post.ofBind {α β γ : Type} {Rl : List Addr → Hp → γ → β → Prop} {o : Option α} {k : α → DS → R γ} {Q : β → Hp → Prop} (h : Post K cls xf F Rl W σ μ H ((R.of o st).bind k) Q) :
    ∃ a, o = some a ∧ Post K cls xf F Rl W σ μ H (k a st) Q := by
  cases o with
  | none => exact h.elim
  | some a => exact ⟨a, rfl, h⟩
end

/-! ### data -/
section
variable {K : PySem.W.Frag} {cls : Cl} {F μ : List Addr} {H : Hp} {st : DS}
theorem SqT.ofW {a : Addr} {xs : List V} (h : WrT K a xs) : SqT K H a xs := .inr h
/-- a sequence of ours, as it is read -/
theorem seq_rel (S : StRel K cls F μ H st) {d : D} {v : V} {xs : List D} (r : Rel K F μ H d v) (h : seqD st d = some xs) : ∃ a vs, v = .ref a ∧ RelL K F μ H xs vs ∧ (SqL K H a vs ∨ SqT K H a vs) := by
  cases r with
  | non => cases h
  | bl => cases h
  | int => cases h
  | str => cases h
  | tup h1 h2 h3 => cases h; exact ⟨_, _, rfl, h3, .inr (SqT.of h1)⟩
  | tupK h1 h3 => cases h; exact ⟨_, _, rfl, h3, .inr (SqT.ofW h1)⟩
  | lst h1 h2 h4 h3 => cases h; exact ⟨_, _, rfl, h3, .inl (SqL.of h1)⟩
  | scr h1 h2 h3 => cases h; exact ⟨_, _, rfl, h3, .inl (.inl (.inr ⟨_, h1⟩))⟩
  | scrK h1 h3 => cases h; exact ⟨_, _, rfl, h3, .inl (h1 H)⟩
  | dic => cases h
  | @ref n a hn =>
    obtain ⟨ob, e, o⟩ := S.obj n a hn
    have h' : (match getO st n with | some (.lst xs) => some xs | _ => none) = some xs := h
    rw [e] at h'
    cases ob with
    | lst ds => cases h'; obtain ⟨vs, e1, e2⟩ := o; exact ⟨a, vs, rfl, e2, .inl (SqL.of e1)⟩
    | dic => cases h'
    | ins => cases h'
/-- a dict of ours -/
theorem dic_rel (S : StRel K cls F μ H st) {d : D} {v : V} {kvs : List (D × D)} (r : Rel K F μ H d v) (h : dicD st d = some kvs) : ∃ a l, v = .ref a ∧ RelP K F μ H kvs l ∧ H a = some (.dK l) := by
  cases r with
  | non => cases h
  | bl => cases h
  | int => cases h
  | str => cases h
  | tup => cases h
  | tupK => cases h
  | lst => cases h
  | scr => cases h
  | scrK => cases h
  | dic h1 h2 h4 h3 => cases h; exact ⟨_, _, rfl, h3, h1⟩
  | @ref n a hn =>
    obtain ⟨ob, e, o⟩ := S.obj n a hn
    have h' : (match getO st n with | some (.dic kvs) => some kvs | _ => none) = some kvs := h
    rw [e] at h'
    cases ob with
    | lst ds => cases h'
    | dic ds => cases h'; obtain ⟨vs, e1, e2⟩ := o; exact ⟨a, vs, rfl, e2, e1⟩
    | ins => cases h'
theorem rel_key {d : D} {v : V} {k : Key} (r : Rel K F μ H d v) (h : keyOf d = some k) : v = kV k := by
  cases r with
  | int i => cases h; rfl
  | str i => cases h; rfl
  | _ => cases h
theorem findK_val : ∀ {l' : List (Key × D)} {l : List (Key × V)}, Paired (fun (p : Key × D) (q : Key × V) => p.1 = q.1 ∧ Rel K F μ H p.2 q.2) l' l → ∀ k,
    (findK k l' = none ∧ valV l k = none) ∨ ∃ d v, findK k l' = some d ∧ valV l k = some v ∧ Rel K F μ H d v
  | _, _, .nil, k => .inl ⟨rfl, rfl⟩
  | (a, d) :: l', (b, v) :: l, .cons r t, k => by
    obtain ⟨e, r2⟩ := r
    dsimp only at e r2
    subst e
    by_cases h : a = k
    · subst h
      exact .inr ⟨d, v, by simp [findK], by simp [valV], r2⟩
    · have e1 : findK k ((a, d) :: l') = findK k l' := by simp [findK, h]
      have e2 : valV ((a, v) :: l) k = valV l k := by simp [valV, h]
      rw [e1, e2]
      exact findK_val t k
theorem dget_rel (S : StRel K cls F μ H st) {x y : D} {v u : V} {kvs : List (D × D)} {k : Key} {l : List (Key × D)} (rx : Rel K F μ H x v) (ry : Rel K F μ H y u) (h1 : dicD st x = some kvs) (h2 : keyOf y = some k) (h3 : keysOf kvs = some l) :
    ∃ a o, v = .ref a ∧ DGet H a u o ∧ IsD H a ∧ ((findK k l = none ∧ o = none) ∨ ∃ d w, findK k l = some d ∧ o = some w ∧ Rel K F μ H d w) := by
  obtain ⟨a, lv, rfl, rp, ea⟩ := dic_rel S rx h1
  obtain ⟨l', e, p⟩ := rp.keys
  rw [h3] at e; cases e
  rw [rel_key ry h2]
  refine ⟨a, _, rfl, DGet.k ea, .inl ⟨_, .inl ea⟩, ?_⟩
  rcases findK_val p k with ⟨q1, q2⟩ | ⟨d, w, q1, q2, q3⟩
  · exact .inl ⟨q1, q2⟩
  · exact .inr ⟨d, w, q1, q2, q3⟩
/-- data without changeable objects -/
theorem laysome {α β : Type} {x : Option α} {f : α → β} {p : β} (h : x.map f = some p) : ∃ a, x = some a ∧ f a = p := by
  cases x with
  | none => cases h
  | some a => exact ⟨a, rfl, Option.some.inj h⟩
theorem pd0L_cons {x : D} {r : List D} {ps : List PyData} (h : pd0L (x :: r) = some ps) : ∃ p qs, pd0 x = some p ∧ pd0L r = some qs ∧ ps = p :: qs := by
  unfold pd0L at h
  split at h
  · rename_i a b e1 e2
    cases h
    exact ⟨a, b, e1, e2, rfl⟩
  · cases h
theorem pdL_cons {x : D} {r : List D} {ps : List PyData} (h : pdL st (x :: r) = some ps) : ∃ p qs, pd st x = some p ∧ pdL st r = some qs ∧ ps = p :: qs := by
  unfold pdL at h
  split at h
  · rename_i a b e1 e2
    cases h
    exact ⟨a, b, e1, e2, rfl⟩
  · cases h
mutual
theorem dp0 : ∀ (d : D) (v : V) (p : PyData), Rel K F μ H d v → pd0 d = some p → p.canLay0 = true → Dp K H v p
  | .non, _, _, r, h, _ => by cases r; simp only [pd0] at h; cases h; exact .non
  | .bl _, _, _, r, h, _ => by cases r; simp only [pd0] at h; cases h; exact .bl _
  | .int _, _, _, r, h, _ => by cases r; simp only [pd0] at h; cases h; exact .int _
  | .str _, _, _, r, h, _ => by cases r; simp only [pd0] at h; cases h; exact .str _
  | .tup ds, _, _, r, h, l => by
    simp only [pd0] at h
    obtain ⟨ps, e, rfl⟩ := laysome h
    have l' : PyData.canLayAll0 ps = true := by simpa only [PyData.canLay0] using l
    cases r with
    | tup h1 h2 h3 => exact .tup (SqT.of h1) (dp0L ds _ _ h3 e l')
    | tupK h1 h3 => exact .tup (SqT.ofW h1) (dp0L ds _ _ h3 e l')
  | .lst ds, _, _, r, h, l => by
    simp only [pd0] at h
    obtain ⟨ps, e, rfl⟩ := laysome h
    have l' : PyData.canLayAll0 ps = true := by simpa only [PyData.canLay0] using l
    cases r with
    | lst h1 h2 h4 h3 => exact .lst (SqL.of h1) (dp0L ds _ _ h3 e l')
  | .scr ds, _, _, r, h, l => by
    simp only [pd0] at h
    obtain ⟨ps, e, rfl⟩ := laysome h
    have l' : PyData.canLayAll0 ps = true := by simpa only [PyData.canLay0] using l
    cases r with
    | scr h1 h2 h3 => exact .lst (.inl (.inr ⟨_, h1⟩)) (dp0L ds _ _ h3 e l')
    | scrK h1 h3 => exact .lst (h1 H) (dp0L ds _ _ h3 e l')
  | .dic kvs, _, _, r, h, l => by
    simp only [pd0] at h
    obtain ⟨ps, e, rfl⟩ := laysome h
    simp [PyData.canLay0] at l
  | .ref _, _, _, r, h, _ => by simp only [pd0] at h; cases h
theorem dp0L : ∀ (ds : List D) (vs : List V) (ps : List PyData), RelL K F μ H ds vs → pd0L ds = some ps → PyData.canLayAll0 ps = true → DpAll K H vs ps
  | [], _, _, r, h, _ => by cases r; simp only [pd0L] at h; cases h; exact .nil
  | d :: ds, _, _, r, h, l => by
    obtain ⟨p, qs, e1, e2, rfl⟩ := pd0L_cons h
    have l' : p.canLay0 = true ∧ PyData.canLayAll0 qs = true := by simpa [PyData.canLayAll0] using l
    cases r with
    | cons r1 r2 => exact .cons (dp0 d _ _ r1 e1 l'.1) (dp0L ds _ _ r2 e2 l'.2)
end
mutual
theorem dp1 (S : StRel K cls F μ H st) : ∀ (d : D) (v : V) (p : PyData), Rel K F μ H d v → pd st d = some p → p.canLay0 = true → Dp K H v p
  | .non, _, _, r, h, _ => by cases r; simp only [pd] at h; cases h; exact .non
  | .bl _, _, _, r, h, _ => by cases r; simp only [pd] at h; cases h; exact .bl _
  | .int _, _, _, r, h, _ => by cases r; simp only [pd] at h; cases h; exact .int _
  | .str _, _, _, r, h, _ => by cases r; simp only [pd] at h; cases h; exact .str _
  | .tup ds, _, _, r, h, l => by
    simp only [pd] at h
    obtain ⟨ps, e, rfl⟩ := laysome h
    have l' : PyData.canLayAll0 ps = true := by simpa only [PyData.canLay0] using l
    cases r with
    | tup h1 h2 h3 => exact .tup (SqT.of h1) (dp1L S ds _ _ h3 e l')
    | tupK h1 h3 => exact .tup (SqT.ofW h1) (dp1L S ds _ _ h3 e l')
  | .lst ds, _, _, r, h, l => by
    simp only [pd] at h
    obtain ⟨ps, e, rfl⟩ := laysome h
    have l' : PyData.canLayAll0 ps = true := by simpa only [PyData.canLay0] using l
    cases r with
    | lst h1 h2 h4 h3 => exact .lst (SqL.of h1) (dp1L S ds _ _ h3 e l')
  | .scr ds, _, _, r, h, l => by
    simp only [pd] at h
    obtain ⟨ps, e, rfl⟩ := laysome h
    have l' : PyData.canLayAll0 ps = true := by simpa only [PyData.canLay0] using l
    cases r with
    | scr h1 h2 h3 => exact .lst (.inl (.inr ⟨_, h1⟩)) (dp1L S ds _ _ h3 e l')
    | scrK h1 h3 => exact .lst (h1 H) (dp1L S ds _ _ h3 e l')
  | .dic kvs, _, _, r, h, l => by
    simp only [pd] at h
    obtain ⟨ps, e, rfl⟩ := laysome h
    simp [PyData.canLay0] at l
  | .ref n, _, p, r, h, l => by
    simp only [pd] at h
    cases r with
    | @ref _ a hn =>
      obtain ⟨ob, e, o⟩ := S.obj n a hn
      rw [e] at h
      cases ob with
      | lst ds =>
        obtain ⟨ps, e', rfl⟩ := laysome h
        have l' : PyData.canLayAll0 ps = true := by simpa only [PyData.canLay0] using l
        obtain ⟨vs, e1, e2⟩ := o
        exact .lst (SqL.of e1) (dp0L ds _ _ e2 e' l')
      | dic ds =>
        obtain ⟨ps, e', rfl⟩ := laysome h
        simp [PyData.canLay0] at l
      | ins => cases h
theorem dp1L (S : StRel K cls F μ H st) : ∀ (ds : List D) (vs : List V) (ps : List PyData), RelL K F μ H ds vs → pdL st ds = some ps → PyData.canLayAll0 ps = true → DpAll K H vs ps
  | [], _, _, r, h, _ => by cases r; simp only [pdL] at h; cases h; exact .nil
  | d :: ds, _, _, r, h, l => by
    obtain ⟨p, qs, e1, e2, rfl⟩ := pdL_cons h
    have l' : p.canLay0 = true ∧ PyData.canLayAll0 qs = true := by simpa [PyData.canLayAll0] using l
    cases r with
    | cons r1 r2 => exact .cons (dp1 S d _ _ r1 e1 l'.1) (dp1L S ds _ _ r2 e2 l'.2)
end
end

/-! ### operators -/
section
variable {X : Cx} {cls : Cl} {F : List Addr}
def toOp : BOp → Operator
  | .add => .Add | .sub => .Sub | .mul => .Mult | .fdiv => .FloorDiv | .mod => .Mod | .pow => .Pow
/-- a binary operator on values of ours -/
def rBin (K : PySem.W.Frag) (cls : Cl) (F : List Addr) (op : BOp) : R2 := fun x y H Q => ∃ μ st dx dy r, StRel K cls F μ H st ∧ Rel K F μ H dx x ∧ Rel K F μ H dy y ∧ binD op st dx dy = some r ∧
  ∀ μ' H' v, Ext μ μ' H H' → StRel K cls F μ' H' st → Rel K F μ' H' r v → Q v H'
/-- + and * of lists -/
def rCat (K : PySem.W.Frag) (cls : Cl) (F : List Addr) (op : BOp) : R2 := fun x y H Q => ∃ μ st dx dy zs, StRel K cls F μ H st ∧ Rel K F μ H dx x ∧ Rel K F μ H dy y ∧ catD op st dx dy = some zs ∧
  ∀ ws p, H p = none → RelL K F μ H zs ws → Q (.ref p) (upd H p (.lst ws))
theorem mul_ok {i j : Int} (h : mulOk i j = true) : IntMulOk i j := by
  unfold mulOk at h
  intro z
  rw [z] at h
  exact absurd h (by decide)
theorem op_mulA : OpR X (binaryOp .Mult) (rI (fun i j => mulOk i j = true) fun i j => .int (i * j)) := opI fun _ _ _ _ _ _ _ hc q => mul_int q (mul_ok hc)
theorem op_fdivA : OpR X (binaryOp .FloorDiv) (rI (fun i j => divOk i j = true) fun i j => .int (i.fdiv j)) := opI fun i j _ _ _ _ _ hc q => by
  unfold divOk at hc
  simp only [Bool.and_eq_true, decide_eq_true_eq, Bool.not_eq_true'] at hc
  exact floordiv_int hc.1 q (.inl hc.2)
theorem lstD_rel {K : PySem.W.Frag} {F μ : List Addr} {H : Hp} {ds : List D} {v : V} (r : Rel K F μ H (.lst ds) v) : ∃ a vs, v = .ref a ∧ H a = some (.lst vs) ∧ RelL K F μ H ds vs := by
  cases r with
  | lst h1 h2 h4 h3 => exact ⟨_, _, rfl, h1, h3⟩
theorem tupD_rel {K : PySem.W.Frag} {F μ : List Addr} {H : Hp} {ds : List D} {v : V} (r : Rel K F μ H (.tup ds) v) : ∃ a vs, v = .ref a ∧ SqT K H a vs ∧ RelL K F μ H ds vs := by
  cases r with
  | tup h1 h2 h3 => exact ⟨_, _, rfl, SqT.of h1, h3⟩
  | tupK h1 h3 => exact ⟨_, _, rfl, SqT.ofW h1, h3⟩
theorem new_lst {K : PySem.W.Frag} {cls : Cl} {F μ : List Addr} {H : Hp} {st : DS} {ds : List D} {vs : List V} {p : Addr} (S : StRel K cls F μ H st) (hp : H p = none) (r : RelL K F μ H ds vs) : Rel K F μ (upd H p (.lst vs)) (.lst ds) (.ref p) :=
  .lst upd_same (S.fresh hp) (S.freshF hp) (RelL.mono (ext_new hp) _ _ r)
theorem new_tup {K : PySem.W.Frag} {cls : Cl} {F μ : List Addr} {H : Hp} {st : DS} {ds : List D} {vs : List V} {p : Addr} (S : StRel K cls F μ H st) (hp : H p = none) (r : RelL K F μ H ds vs) : Rel K F μ (upd H p (.tup vs)) (.tup ds) (.ref p) :=
  .tup upd_same (S.fresh hp) (RelL.mono (ext_new hp) _ _ r)
theorem lstR {K : PySem.W.Frag} {cls : Cl} {F μ : List Addr} {H : Hp} {st : DS} (S : StRel K cls F μ H st) {d : D} {v : V} {xs : List D} (r : Rel K F μ H d v) (h : lstD st d = some xs) : ∃ a vs, v = .ref a ∧ H a = some (.lst vs) ∧ RelL K F μ H xs vs := by
  cases r with
  | non => cases h
  | bl => cases h
  | int => cases h
  | str => cases h
  | tup h1 h2 h3 => cases h
  | tupK h1 h3 => cases h
  | lst h1 h2 h4 h3 => cases h; exact ⟨_, _, rfl, h1, h3⟩
  | scr => cases h
  | scrK => cases h
  | dic => cases h
  | @ref n a hn =>
    obtain ⟨ob, e, o⟩ := S.obj n a hn
    have h' : (match getO st n with | some (.lst xs) => some xs | _ => none) = some xs := h
    rw [e] at h'
    cases ob with
    | lst ds => cases h'; obtain ⟨vs, e1, e2⟩ := o; exact ⟨a, vs, rfl, e1, e2⟩
    | dic => cases h'
    | ins => cases h'
theorem cat_ok (op : BOp) : OpR X (binaryOp (toOp op)) (rCat X.K cls F op) := by
  intro pins s σ H x y v u Q I rx ry h
  obtain ⟨μ, st, dx, dy, zs, S, hx, hy, e, q⟩ := h
  cases op with
  | add =>
    unfold catD at e
    dsimp only at e
    split at e
    · rename_i xs ys e1 e2
      obtain ⟨a, vs, rfl, ta, ra⟩ := lstR S hx e1
      obtain ⟨b, ws, rfl, tb, rb⟩ := lstR S hy e2
      split at e
      · rename_i hl
        cases e
        exact op_cat pins s σ H _ _ v u Q I rx ry ⟨a, b, vs, ws, rfl, rfl, ta, tb, by rw [← ra.length, ← rb.length]; exact hl, fun p hp => q _ p hp (ra.append rb)⟩
      · cases e
    · cases e
  | mul =>
    unfold catD at e
    dsimp only at e
    split at e
    · rename_i xs k e1
      obtain ⟨a, vs, rfl, ta, ra⟩ := lstR S hx e1
      cases hy
      split at e
      · rename_i hl
        cases e
        exact op_rep pins s σ H _ _ v u Q I rx ry ⟨a, _, vs, rfl, rfl, ta, hl.1, hl.2.1, by rw [← ra.length]; exact hl.2.2, fun p hp => q _ p hp (ra.rep _)⟩
      · cases e
    · cases e
  | sub => cases e
  | fdiv => cases e
  | mod => cases e
  | pow => cases e
theorem bin_cat {op : BOp} {x y : V} {H : Hp} {Q : VK} {μ : List Addr} {st : DS} {dx dy r : D} (S : StRel X.K cls F μ H st) (hx : Rel X.K F μ H dx x) (hy : Rel X.K F μ H dy y) (e : (catD op st dx dy).map D.lst = some r)
    (q : ∀ μ' H' v, Ext μ μ' H H' → StRel X.K cls F μ' H' st → Rel X.K F μ' H' r v → Q v H') : rCat X.K cls F op x y H Q := by
  obtain ⟨zs, e1, e2⟩ := laysome e
  cases e2
  exact ⟨μ, st, dx, dy, zs, S, hx, hy, e1, fun ws p hp rl => q μ _ _ (ext_new hp) (S.new hp) (new_lst S hp rl)⟩
theorem op_mulS : OpR X (binaryOp .Mult) (fun x y H Q => ∃ (a : Str) (k : Int), x = .str a ∧ y = .int k ∧ (-(2 ^ 63) ≤ k ∧ k ≤ 16777216 ∧ a.length * k.toNat ≤ 16777216) ∧ Q (.str (Txt.mul a k)) H) := by
  intro pins s σ H x y v u Q I rx ry h
  obtain ⟨a, k, rfl, rfl, ⟨h1, h2, h3⟩, q⟩ := h
  obtain ⟨t, rfl⟩ := rx
  obtain ⟨t', rfl⟩ := ry
  exact SB.mul (PyProof.Rows.mulOk_of a.length k.toNat (Nat.le_refl _) (by omega) h1 (by omega) h3) (fun t' tk => ⟨.str (Txt.mul a k), H, I.tok _, ⟨_, rfl⟩, q⟩)
theorem bin_ok (op : BOp) : OpR X (binaryOp (toOp op)) (rBin X.K cls F op) := by
  intro pins s σ H x y v u Q I rx ry h
  obtain ⟨μ, st, dx, dy, r, S, hx, hy, e, q⟩ := h
  unfold binD at e
  split at e
  · cases e; cases hx; cases hy
    exact op_add pins s σ H _ _ v u Q I rx ry ⟨_, _, rfl, rfl, q μ H _ .refl S (.int _)⟩
  · cases e; cases hx; cases hy
    exact op_sub pins s σ H _ _ v u Q I rx ry ⟨_, _, rfl, rfl, q μ H _ .refl S (.int _)⟩
  · split at e
    · rename_i hl
      cases e; cases hx; cases hy
      exact op_mulA pins s σ H _ _ v u Q I rx ry ⟨_, _, rfl, rfl, hl, q μ H _ .refl S (.int _)⟩
    · cases e
  · split at e
    · rename_i hl
      cases e; cases hx; cases hy
      exact op_fdivA pins s σ H _ _ v u Q I rx ry ⟨_, _, rfl, rfl, hl, q μ H _ .refl S (.int _)⟩
    · cases e
  · split at e
    · rename_i hl
      cases e; cases hx; cases hy
      exact op_modN pins s σ H _ _ v u Q I rx ry ⟨_, _, rfl, rfl, hl, q μ H _ .refl S (.int _)⟩
    · cases e
  · split at e
    · rename_i hl
      cases e; cases hx; cases hy
      exact op_pow pins s σ H _ _ v u Q I rx ry ⟨_, _, rfl, rfl, hl, q μ H _ .refl S (.int _)⟩
    · cases e
  · split at e
    · rename_i hl
      cases e; cases hx; cases hy
      exact op_add_str pins s σ H _ _ v u Q I rx ry ⟨_, _, rfl, rfl, hl, q μ H _ .refl S (.str _)⟩
    · cases e
  · split at e
    · rename_i hl
      cases e; cases hx; cases hy
      exact op_mulS pins s σ H _ _ v u Q I rx ry ⟨_, _, rfl, rfl, hl, q μ H _ .refl S (.str _)⟩
    · cases e
  · split at e
    · rename_i hl
      cases e
      obtain ⟨a, vs, rfl, ta, ra⟩ := tupD_rel hx
      obtain ⟨b, ws, rfl, tb, rb⟩ := tupD_rel hy
      refine op_catA pins s σ H _ _ v u Q I rx ry ⟨a, b, vs, ws, rfl, rfl, ta, tb, by rw [← ra.length, ← rb.length]; exact hl, fun z => ?_, fun _ z => ?_, fun _ _ p hp => ?_⟩
      · subst z; cases ra; exact q μ H _ .refl S hy
      · subst z; cases rb; rw [List.append_nil] at q; exact q μ H _ .refl S hx
      · exact q μ _ _ (ext_new hp) (S.new hp) (new_tup S hp (ra.append rb))
    · cases e
  · exact cat_ok op pins s σ H x y v u Q I rx ry (bin_cat S hx hy e q)
end
end MP

set_option Elab.async false
set_option linter.all false
set_option maxRecDepth 100000
set_option maxHeartbeats 2000000
namespace MP
open PySem L2 PyProof.Rows
section
variable {X : Cx} {cls : Cl} {F : List Addr}
/-! ### comparisons -/
def toCmp : COp → CmpOp
  | .eq => .Eq | .ne => .NotEq | .lt => .Lt | .le => .LtE | .gt => .Gt | .ge => .GtE | .inn => .In | .nin => .NotIn | .isb => .Is | .isnb => .IsNot
def rCmp (K : PySem.W.Frag) (cls : Cl) (F : List Addr) (op : COp) : R2 := fun x y H Q => ∃ μ st dx dy k, StRel K cls F μ H st ∧ Rel K F μ H dx x ∧ Rel K F μ H dy y ∧ cmpD op st dx dy = some k ∧ Q (.bl k) H
theorem dec_i {i j : Int} : decide (V.int i = V.int j) = decide (i = j) := by simp
theorem dec_s {i j : Str} : decide (V.str i = V.str j) = decide (i = j) := by simp
theorem dec_b {i j : Bool} : decide (V.bl i = V.bl j) = decide (i = j) := by simp
/-- what == comes to -/
theorem eqD_cases {K : PySem.W.Frag} {μ : List Addr} {H : Hp} {st : DS} {dx dy : D} {x y : V} {k : Bool} (S : StRel K cls F μ H st) (hx : Rel K F μ H dx x) (hy : Rel K F μ H dy y) (e : eqD st dx dy = some k) :
    (scal x y = true ∧ decide (x = y) = k) ∨ ∃ a b, Dp K H x a ∧ Dp K H y b ∧ SeqAt.shaped a = true ∧ SeqAt.shaped b = true ∧ PyData.eqv a b = k := by
  unfold eqD at e
  split at e
  · cases hx; cases hy; cases e; exact .inl ⟨rfl, dec_i⟩
  · cases hx; cases hy; cases e; exact .inl ⟨rfl, dec_s⟩
  · cases hx; cases hy; cases e; exact .inl ⟨rfl, dec_b⟩
  · split at e
    · rename_i a b h1 h2
      split at e
      · rename_i h3
        simp only [Bool.and_eq_true] at h3
        cases e
        exact .inr ⟨a, b, dp1 S _ _ _ hx h1 (SeqAt.canLay_of_shaped h3.1), dp1 S _ _ _ hy h2 (SeqAt.canLay_of_shaped h3.2), h3.1, h3.2, rfl⟩
      · cases e
    · cases e
theorem flat_rel {K : PySem.W.Frag} {μ : List Addr} {H : Hp} {d : D} {v : V} (r : Rel K F μ H d v) (h : flatD d = true) : flatV v = true := by
  cases r <;> first | rfl | cases h
theorem eqF_rel {K : PySem.W.Frag} {μ : List Addr} {H : Hp} {d e : D} {v u : V} (r : Rel K F μ H d v) (q : Rel K F μ H e u) (h : flatD d = true) (g : flatD e = true) : eqV v u = eqF d e := by
  cases r <;> cases q <;> first | rfl | (exact absurd h (by simp [flatD])) | (exact absurd g (by simp [flatD]))
theorem inL_rel {K : PySem.W.Frag} {μ : List Addr} {H : Hp} {d : D} {v : V} (r : Rel K F μ H d v) (h : flatD d = true) : ∀ {ys : List D} {vs : List V}, RelL K F μ H ys vs → ys.all flatD = true →
    vs.all flatV = true ∧ inV v vs = ys.any fun y => eqF y d
  | [], _, q, _ => by cases q; exact ⟨rfl, rfl⟩
  | y :: ys, _, q, g => by
    cases q with
    | cons q1 q2 =>
      simp only [List.all_cons, Bool.and_eq_true] at g
      obtain ⟨a, b⟩ := inL_rel r h q2 g.2
      refine ⟨by simp only [List.all_cons, Bool.and_eq_true]; exact ⟨flat_rel q1 g.1, a⟩, ?_⟩
      unfold inV at b ⊢
      rw [List.any_cons, List.any_cons, b, eqF_rel q1 r g.1 h]
theorem cmp_ok (hu : X.A.units + 64 < cLine) (op : COp) : OpR X (compareOp (toCmp op)) (rCmp X.K cls F op) := by
  intro pins s σ H x y v u Q I rx ry h
  obtain ⟨μ, st, dx, dy, k, S, hx, hy, e, q⟩ := h
  cases op with
  | eq =>
    rcases eqD_cases S hx hy e with ⟨h1, h2⟩ | ⟨a, b, h1, h2, h3, h4, h5⟩
    · exact op_eq pins s σ H x y v u Q I rx ry ⟨h1, by rw [h2]; exact q⟩
    · exact op_eqD hu pins s σ H x y v u Q I rx ry ⟨a, b, h1, h2, h3, h4, by rw [h5]; exact q⟩
  | ne =>
    have e' : (eqD st dx dy).map (!·) = some k := e
    cases e2 : eqD st dx dy with
    | none => rw [e2] at e'; cases e'
    | some j =>
      rw [e2] at e'; cases e'
      rcases eqD_cases S hx hy e2 with ⟨h1, h2⟩ | ⟨a, b, h1, h2, h3, h4, h5⟩
      · exact op_ne pins s σ H x y v u Q I rx ry ⟨h1, by rw [h2]; exact q⟩
      · exact op_neD hu pins s σ H x y v u Q I rx ry ⟨a, b, h1, h2, h3, h4, by rw [h5]; exact q⟩
  | lt =>
    unfold cmpD at e; dsimp only at e
    split at e <;> first | contradiction | skip
    cases hx; cases hy; cases e
    exact op_lt pins s σ H _ _ v u Q I rx ry ⟨_, _, rfl, rfl, q⟩
  | le =>
    unfold cmpD at e; dsimp only at e
    split at e <;> first | contradiction | skip
    cases hx; cases hy; cases e
    exact op_le pins s σ H _ _ v u Q I rx ry ⟨_, _, rfl, rfl, q⟩
  | gt =>
    unfold cmpD at e; dsimp only at e
    split at e <;> first | contradiction | skip
    cases hx; cases hy; cases e
    exact op_gt pins s σ H _ _ v u Q I rx ry ⟨_, _, rfl, rfl, q⟩
  | ge =>
    unfold cmpD at e; dsimp only at e
    split at e <;> first | contradiction | skip
    cases hx; cases hy; cases e
    exact op_ge pins s σ H _ _ v u Q I rx ry ⟨_, _, rfl, rfl, q⟩
  | isb =>
    unfold cmpD at e; dsimp only at e
    split at e <;> first | contradiction | skip
    cases hx; cases hy; cases e
    exact op_isBl pins s σ H _ _ v u Q I rx ry ⟨_, _, rfl, rfl, q⟩
  | isnb =>
    unfold cmpD at e; dsimp only at e
    split at e <;> first | contradiction | skip
    cases hx; cases hy; cases e
    exact op_notBl pins s σ H _ _ v u Q I rx ry ⟨_, _, rfl, rfl, q⟩
  | inn =>
    have e' : inD st dx dy = some k := e
    unfold inD at e'
    split at e'
    · cases hx; cases hy; cases e'
      exact op_in_str pins s σ H _ _ v u Q I rx ry ⟨_, _, rfl, rfl, q⟩
    · split at e'
      · rename_i ys hs
        unfold inL at e'
        split at e'
        · rename_i hf
          simp only [Bool.and_eq_true] at hf
          cases e'
          obtain ⟨a, vs, rfl, r2, sq⟩ := seq_rel S hy hs
          obtain ⟨c1, c2⟩ := inL_rel hx hf.1 r2 hf.2
          exact op_in_seq pins s σ H _ _ v u Q I rx ry ⟨a, vs, rfl, sq, flat_rel hx hf.1, c1, by rw [if_neg (by decide), c2]; exact q⟩
        · cases e'
      · cases e'
  | nin =>
    have e0 : (inD st dx dy).map (!·) = some k := e
    cases e' : inD st dx dy with
    | none => rw [e'] at e0; cases e0
    | some j =>
      rw [e'] at e0; cases e0
      unfold inD at e'
      split at e'
      · cases hx; cases hy; cases e'
        exact op_notIn_str pins s σ H _ _ v u Q I rx ry ⟨_, _, rfl, rfl, q⟩
      · split at e'
        · rename_i ys hs
          unfold inL at e'
          split at e'
          · rename_i hf
            simp only [Bool.and_eq_true] at hf
            cases e'
            obtain ⟨a, vs, rfl, r2, sq⟩ := seq_rel S hy hs
            obtain ⟨c1, c2⟩ := inL_rel hx hf.1 r2 hf.2
            exact op_notIn_seq pins s σ H _ _ v u Q I rx ry ⟨a, vs, rfl, sq, flat_rel hx hf.1, c1, by rw [if_pos rfl, c2]; exact q⟩
          · cases e'
        · cases e'
/-! ### truth -/
theorem isEmpty_rel {K : PySem.W.Frag} {μ : List Addr} {H : Hp} : ∀ {ys : List D} {vs : List V}, RelL K F μ H ys vs → (!ys.isEmpty) = !vs.isEmpty
  | [], _, q => by cases q; rfl
  | y :: ys, _, q => by cases q; rfl
theorem isEmpty_relP {K : PySem.W.Frag} {μ : List Addr} {H : Hp} : ∀ {ys : List (D × D)} {vs : List (Key × V)}, RelP K F μ H ys vs → (!ys.isEmpty) = !vs.isEmpty
  | [], _, q => by cases q; rfl
  | (y, z) :: ys, _, q => by cases q; rfl
theorem tru_rel {K : PySem.W.Frag} {μ : List Addr} {H : Hp} {st : DS} {d : D} {v : V} {k : Bool} (S : StRel K cls F μ H st) (r : Rel K F μ H d v) (e : truD st d = some k) : TruV K v H k := by
  have sq : ∀ xs, seqD st d = some xs → (!xs.isEmpty) = k → TruV K v H k := fun xs h1 h2 => by
    obtain ⟨a, vs, rfl, r2, h⟩ := seq_rel S r h1
    rcases h with h | h
    · exact .inl ⟨vs, h, by rw [← isEmpty_rel r2]; exact h2.symm⟩
    · exact .inr (.inl ⟨vs, h, by rw [← isEmpty_rel r2]; exact h2.symm⟩)
  have dq : ∀ xs, dicD st d = some xs → (!xs.isEmpty) = k → TruV K v H k := fun xs h1 h2 => by
    obtain ⟨a, vs, rfl, r2, h⟩ := dic_rel S r h1
    exact .inr (.inr ⟨vs, h, by rw [← isEmpty_relP r2]; exact h2.symm⟩)
  unfold truD at e
  split at e
  · cases r; cases e; exact rfl
  · cases r; cases e; exact rfl
  · cases r; cases e; exact rfl
  · split at e
    · rename_i hl
      cases r; cases e; exact ⟨hl, rfl⟩
    · cases e
  · split at e
    · rename_i xs hs
      exact sq xs hs (Option.some.inj e)
    · split at e
      · rename_i xs hs
        exact dq xs hs (Option.some.inj e)
      · cases e
/-! ### an item -/
def rIxD (K : PySem.W.Frag) (cls : Cl) (F : List Addr) : R2 := fun x y H Q => ∃ μ st dx dy r, StRel K cls F μ H st ∧ Rel K F μ H dx x ∧ Rel K F μ H dy y ∧ ixD st dx dy = some r ∧ ∀ v, Rel K F μ H r v → Q v H
theorem atI_rel {K : PySem.W.Frag} {μ : List Addr} {H : Hp} {ys : List D} {vs : List V} {i : Int} {d : D} (r : RelL K F μ H ys vs) (h : atI ys i = some d) : ∃ v, atI vs i = some v ∧ Rel K F μ H d v := by
  unfold atI at h ⊢
  rw [← r.length]
  cases e : ixN ys.length i with
  | none => rw [e] at h; cases h
  | some j =>
    rw [e] at h
    exact r.get h
theorem ix_ok : IxR X (rIxD X.K cls F) := by
  intro value slice pins s σ H x y v u Q I rx ry h hs
  obtain ⟨μ, st, dx, dy, r, S, hx, hy, e, q⟩ := h
  have sq : ∀ i, dy = .int i → ∀ xs, seqD st dx = some xs → atI xs i = some r → rIx X.K x y H Q := fun i hi xs h1 h2 => by
    subst hi
    cases hy
    obtain ⟨a, vs, rfl, r2, h⟩ := seq_rel S hx h1
    obtain ⟨w, h3, h4⟩ := atI_rel r2 h2
    rcases h with h | h
    · exact .inl ⟨a, vs, i, w, rfl, rfl, h, h3, q w h4⟩
    · exact .inr (.inl ⟨a, vs, i, w, rfl, rfl, h, h3, q w h4⟩)
  refine ix_seq value slice pins s σ H x y v u Q I rx ry ?_ hs
  unfold ixD at e
  split at e
  · rename_i z i
    split at e
    · rename_i hl
      cases hx; cases hy
      cases e2 : atI z.cps.toList i with
      | none => rw [e2] at e; cases e
      | some c =>
        rw [e2] at e; cases e
        exact .inr (.inr ⟨z, i, c, rfl, rfl, hl, e2, q _ (.str _)⟩)
    · cases e
  · split at e
    · rename_i xs hs2
      exact sq _ rfl xs hs2 e
    · cases e
  · cases e
/-! ### a slice -/
theorem cut_rel {K : PySem.W.Frag} {μ : List Addr} {H : Hp} {ys : List D} {vs : List V} (r : RelL K F μ H ys vs) (lo hi : Option Int) : RelL K F μ H (cutD ys lo hi) (cutV vs lo hi) := by
  unfold cutD cutV
  rw [← r.length]
  exact (r.drop _).take _
end
end MP

set_option Elab.async false
set_option linter.all false
set_option maxRecDepth 100000
set_option maxHeartbeats 2000000
namespace MP
open PySem L2 PyProof.Rows
section
variable {X : Cx} {cls : Cl} {F μ : List Addr} {H : Hp} {st : DS} {pins : List (Addr × Obj)} {σ : L2.St} {s : Shared}
/-- what the written part says of sys.modules: it is no list -/
def SmK (K : PySem.W.Frag) : Prop := ∃ o, K.lookup sysModules = some o ∧ o.cls ≠ .type "list"
theorem list_ne (I : Inv X pins σ H s) (sm : SmK X.K) {a : Addr} {o : Obj} (h : s.heap.get? a = some o) (hc : o.cls = .type "list") : a ≠ sysModules := fun z => by
  obtain ⟨o', e, n⟩ := sm
  have q := I.kIn _ _ e
  rw [z] at h
  rw [h] at q; cases q
  exact n hc
/-- if that is known, sys.modules is not among these -/
def NoS (K : PySem.W.Frag) (as : List Addr) : Prop := SmK K → sysModules ∉ as
theorem pd0P_cons {k v : D} {r : List (D × D)} {ps : List (PyData × PyData)} (h : pd0P ((k, v) :: r) = some ps) : ∃ p q qs, pd0 k = some p ∧ pd0 v = some q ∧ pd0P r = some qs ∧ ps = (p, q) :: qs := by
  unfold pd0P at h
  split at h
  · rename_i a b c e1 e2 e3
    cases h
    exact ⟨a, b, c, e1, e2, e3, rfl⟩
  · cases h
theorem pdP_cons {k v : D} {r : List (D × D)} {ps : List (PyData × PyData)} (h : pdP st ((k, v) :: r) = some ps) : ∃ p q qs, pd st k = some p ∧ pd st v = some q ∧ pdP st r = some qs ∧ ps = (p, q) :: qs := by
  unfold pdP at h
  split at h
  · rename_i a b c e1 e2 e3
    cases h
    exact ⟨a, b, c, e1, e2, e3, rfl⟩
  · cases h
theorem dic_pairs {P : Program} {w : World} : ∀ {es : List DictEntry} {vs : List (Key × Value)} {l : List (Key × V)}, PySem.Pairs (mixKind P w) es vs → KV l vs →
    Paired (fun (e : DictEntry) (p : Key × V) => RelV (kV p.1) e.key ∧ RelV p.2 e.val) es l
  | _, _, _, .nil, .nil => .nil
  | _, _, _, .cons h1 h2 h3, .cons r t => .cons ⟨by rw [r.1]; exact relV_key h1, by rw [h2]; exact r.2⟩ (dic_pairs h3 t)
/-- a dict of ours, as the model holds it -/
theorem dic_obj (I : Inv X pins σ H s) {a : Addr} {l : List (Key × V)} (h : H a = some (.dK l)) :
    (a == sysModules) = false ∧ ∃ o es ep, s.heap.get? a = some o ∧ o.cls = .type "dict" ∧ o.data = .dict es ep ∧
      Paired (fun (e : DictEntry) (p : Key × V) => RelV (kV p.1) e.key ∧ RelV p.2 e.val) es.toList l := by
  obtain ⟨z, hs, vs, kv, o, es, ep, ho, hx, hdt, hk, hp, hn⟩ := I.hok a _ h
  refine ⟨hs, o, es, ep, ho, hx.1, hdt, ?_⟩
  exact dic_pairs hp kv
theorem rel_keyV {d : D} {k : Key} (h : keyOf d = some k) {K : PySem.W.Frag} : Rel K F μ H d (kV k) := by
  cases d <;> first | (cases h; done) | skip
  · cases h; exact .int _
  · cases h; exact .str _
theorem scrD_rel {K : PySem.W.Frag} {ds : List D} {v : V} (r : Rel K F μ H (.scr ds) v) : ∃ a vs, v = .ref a ∧ SqL K H a vs ∧ RelL K F μ H ds vs := by
  cases r with
  | scr h1 h2 h3 => exact ⟨_, _, rfl, .inl (.inr ⟨_, h1⟩), h3⟩
  | scrK h1 h3 => exact ⟨_, _, rfl, h1 H, h3⟩
mutual
theorem rd0 (I : Inv X pins σ H s) : ∀ (d : D) (v : V) (u : Value) (p : PyData), Rel X.K F μ H d v → RelV v u → pd0 d = some p → ∃ as, Reads s.heap u p as ∧ NoS X.K as
  | .non, _, _, _, r, q, h => by cases r; simp only [pd0] at h; cases h; cases q; exact ⟨_, .none, fun _ => by simp⟩
  | .bl _, _, _, _, r, q, h => by cases r; simp only [pd0] at h; cases h; cases q; exact ⟨_, .bool _, fun _ => by simp⟩
  | .int _, _, _, _, r, q, h => by cases r; simp only [pd0] at h; cases h; obtain ⟨t, rfl⟩ := q; exact ⟨_, .int _ t, fun _ => by simp⟩
  | .str _, _, _, _, r, q, h => by cases r; simp only [pd0] at h; cases h; obtain ⟨t, rfl⟩ := q; exact ⟨_, .str _ t, fun _ => by simp⟩
  | .tup ds, _, _, _, r, q, h => by
    simp only [pd0] at h
    obtain ⟨ps, e, rfl⟩ := laysome h
    obtain ⟨a, vs, rfl, hs, hr⟩ := tupD_rel r
    cases q
    obtain ⟨its, rv, ⟨o, ho, hc, n, hd⟩, _⟩ := I.tuple hs
    obtain ⟨as, hr', ns⟩ := rd0L I ds _ its _ hr rv e
    exact ⟨_, Reads.tuple ho hc hd hr', ns⟩
  | .lst ds, _, _, _, r, q, h => by
    simp only [pd0] at h
    obtain ⟨ps, e, rfl⟩ := laysome h
    obtain ⟨a, vs, rfl, hs, hr⟩ := lstD_rel r
    cases q
    obtain ⟨its, rv, ⟨o, n, ho, hc, _, hd⟩, _⟩ := I.list (SqL.of hs)
    obtain ⟨as, hr', ns⟩ := rd0L I ds _ its _ hr rv e
    exact ⟨_, Reads.list ho hc hd hr', fun sm z => (List.mem_cons.mp z).elim (fun z => list_ne I sm ho hc z.symm) (ns sm)⟩
  | .scr ds, _, _, _, r, q, h => by
    simp only [pd0] at h
    obtain ⟨ps, e, rfl⟩ := laysome h
    obtain ⟨a, vs, rfl, hs, hr⟩ := scrD_rel r
    cases q
    obtain ⟨its, rv, ⟨o, n, ho, hc, _, hd⟩, _⟩ := I.list hs
    obtain ⟨as, hr', ns⟩ := rd0L I ds _ its _ hr rv e
    exact ⟨_, Reads.list ho hc hd hr', fun sm z => (List.mem_cons.mp z).elim (fun z => list_ne I sm ho hc z.symm) (ns sm)⟩
  | .dic kvs, _, _, _, r, q, h => by
    simp only [pd0] at h
    obtain ⟨ps, e, rfl⟩ := laysome h
    cases r with
    | dic h1 h2 h4 h3 =>
      cases q
      obtain ⟨ne, o, es, ep, ho, hc, hd, hp⟩ := dic_obj I h1
      obtain ⟨as, bs, r1, r2, n1, n2⟩ := rd0P I kvs _ _ _ h3 hp e
      refine ⟨_, Reads.dict ho hc hd r1 r2, fun sm z => ?_⟩
      rcases List.mem_append.mp z with z | z
      · rcases List.mem_cons.mp z with z | z
        · rw [z] at ne; simp at ne
        · exact n1 sm z
      · exact n2 sm z
  | .ref _, _, _, _, r, _, h => by simp only [pd0] at h; cases h
theorem rd0L (I : Inv X pins σ H s) : ∀ (ds : List D) (vs : List V) (us : List Value) (ps : List PyData), RelL X.K F μ H ds vs → Vals vs us → pd0L ds = some ps → ∃ as, ReadsAll s.heap us ps as ∧ NoS X.K as
  | [], _, _, _, r, q, h => by cases r; simp only [pd0L] at h; cases h; cases q; exact ⟨_, .nil, fun _ => by simp⟩
  | d :: ds, _, _, _, r, q, h => by
    obtain ⟨p, qs, e1, e2, rfl⟩ := pd0L_cons h
    cases r with
    | cons r1 r2 =>
      cases q with
      | cons q1 q2 =>
        obtain ⟨as, a1, n1⟩ := rd0 I d _ _ _ r1 q1 e1
        obtain ⟨bs, a2, n2⟩ := rd0L I ds _ _ _ r2 q2 e2
        exact ⟨_, .cons a1 a2, fun sm z => (List.mem_append.mp z).elim (n1 sm) (n2 sm)⟩
theorem rd0P (I : Inv X pins σ H s) : ∀ (ds : List (D × D)) (l : List (Key × V)) (es : List DictEntry) (ps : List (PyData × PyData)), RelP X.K F μ H ds l →
    Paired (fun (e : DictEntry) (p : Key × V) => RelV (kV p.1) e.key ∧ RelV p.2 e.val) es l → pd0P ds = some ps →
    ∃ as bs, ReadsAll s.heap (es.map (·.key)) (ps.map (·.1)) as ∧ ReadsAll s.heap (es.map (·.val)) (ps.map (·.2)) bs ∧ NoS X.K as ∧ NoS X.K bs
  | [], _, _, _, r, q, h => by
    cases r
    cases q
    simp only [pd0P] at h
    cases h
    exact ⟨_, _, .nil, .nil, fun _ => by simp, fun _ => by simp⟩
  | (k, d) :: ds, _, _, _, r, q, h => by
    obtain ⟨p, p2, qs, e1, e2, e3, rfl⟩ := pd0P_cons h
    cases r with
    | cons r0 r1 r2 =>
      cases q with
      | cons q1 q2 =>
        obtain ⟨as, a1, n1⟩ := rd0 I k _ _ _ (rel_keyV r0) q1.1 e1
        obtain ⟨bs, a2, n2⟩ := rd0 I d _ _ _ r1 q1.2 e2
        obtain ⟨cs, ds', a3, a4, n3, n4⟩ := rd0P I ds _ _ _ r2 q2 e3
        exact ⟨_, _, .cons a1 a3, .cons a2 a4, fun sm z => (List.mem_append.mp z).elim (n1 sm) (n3 sm), fun sm z => (List.mem_append.mp z).elim (n2 sm) (n4 sm)⟩
end
mutual
theorem rd1 (I : Inv X pins σ H s) (S : StRel X.K cls F μ H st) : ∀ (d : D) (v : V) (u : Value) (p : PyData), Rel X.K F μ H d v → RelV v u → pd st d = some p → ∃ as, Reads s.heap u p as ∧ NoS X.K as
  | .non, _, _, _, r, q, h => by cases r; simp only [pd] at h; cases h; cases q; exact ⟨_, .none, fun _ => by simp⟩
  | .bl _, _, _, _, r, q, h => by cases r; simp only [pd] at h; cases h; cases q; exact ⟨_, .bool _, fun _ => by simp⟩
  | .int _, _, _, _, r, q, h => by cases r; simp only [pd] at h; cases h; obtain ⟨t, rfl⟩ := q; exact ⟨_, .int _ t, fun _ => by simp⟩
  | .str _, _, _, _, r, q, h => by cases r; simp only [pd] at h; cases h; obtain ⟨t, rfl⟩ := q; exact ⟨_, .str _ t, fun _ => by simp⟩
  | .tup ds, _, _, _, r, q, h => by
    simp only [pd] at h
    obtain ⟨ps, e, rfl⟩ := laysome h
    obtain ⟨a, vs, rfl, hs, hr⟩ := tupD_rel r
    cases q
    obtain ⟨its, rv, ⟨o, ho, hc, n, hd⟩, _⟩ := I.tuple hs
    obtain ⟨as, hr', ns⟩ := rd1L I S ds _ its _ hr rv e
    exact ⟨_, Reads.tuple ho hc hd hr', ns⟩
  | .lst ds, _, _, _, r, q, h => by
    simp only [pd] at h
    obtain ⟨ps, e, rfl⟩ := laysome h
    obtain ⟨a, vs, rfl, hs, hr⟩ := lstD_rel r
    cases q
    obtain ⟨its, rv, ⟨o, n, ho, hc, _, hd⟩, _⟩ := I.list (SqL.of hs)
    obtain ⟨as, hr', ns⟩ := rd1L I S ds _ its _ hr rv e
    exact ⟨_, Reads.list ho hc hd hr', fun sm z => (List.mem_cons.mp z).elim (fun z => list_ne I sm ho hc z.symm) (ns sm)⟩
  | .scr ds, _, _, _, r, q, h => by
    simp only [pd] at h
    obtain ⟨ps, e, rfl⟩ := laysome h
    obtain ⟨a, vs, rfl, hs, hr⟩ := scrD_rel r
    cases q
    obtain ⟨its, rv, ⟨o, n, ho, hc, _, hd⟩, _⟩ := I.list hs
    obtain ⟨as, hr', ns⟩ := rd1L I S ds _ its _ hr rv e
    exact ⟨_, Reads.list ho hc hd hr', fun sm z => (List.mem_cons.mp z).elim (fun z => list_ne I sm ho hc z.symm) (ns sm)⟩
  | .dic kvs, _, _, _, r, q, h => by
    simp only [pd] at h
    obtain ⟨ps, e, rfl⟩ := laysome h
    cases r with
    | dic h1 h2 h4 h3 =>
      cases q
      obtain ⟨ne, o, es, ep, ho, hc, hd, hp⟩ := dic_obj I h1
      obtain ⟨as, bs, r1, r2, n1, n2⟩ := rd1P I S kvs _ _ _ h3 hp e
      refine ⟨_, Reads.dict ho hc hd r1 r2, fun sm z => ?_⟩
      rcases List.mem_append.mp z with z | z
      · rcases List.mem_cons.mp z with z | z
        · rw [z] at ne; simp at ne
        · exact n1 sm z
      · exact n2 sm z
  | .ref n, _, _, _, r, q, h => by
    simp only [pd] at h
    cases r with
    | @ref _ a hn =>
      cases q
      obtain ⟨ob, e, o⟩ := S.obj n a hn
      rw [e] at h
      cases ob with
      | lst ds =>
        obtain ⟨ps, e', rfl⟩ := laysome h
        obtain ⟨vs, hs, hr⟩ := o
        obtain ⟨its, rv, ⟨o, n, ho, hc, _, hd⟩, _⟩ := I.list (SqL.of hs)
        obtain ⟨as, hr', ns⟩ := rd0L I ds _ its _ hr rv e'
        exact ⟨_, Reads.list ho hc hd hr', fun sm z => (List.mem_cons.mp z).elim (fun z => list_ne I sm ho hc z.symm) (ns sm)⟩
      | dic kvs =>
        obtain ⟨ps, e', rfl⟩ := laysome h
        obtain ⟨l, h1, h3⟩ := o
        obtain ⟨ne, o, es, ep, ho, hc, hd, hp⟩ := dic_obj I h1
        obtain ⟨as, bs, r1, r2, n1, n2⟩ := rd0P I kvs _ _ _ h3 hp e'
        refine ⟨_, Reads.dict ho hc hd r1 r2, fun sm z => ?_⟩
        rcases List.mem_append.mp z with z | z
        · rcases List.mem_cons.mp z with z | z
          · rw [z] at ne; simp at ne
          · exact n1 sm z
        · exact n2 sm z
      | ins => cases h
theorem rd1L (I : Inv X pins σ H s) (S : StRel X.K cls F μ H st) : ∀ (ds : List D) (vs : List V) (us : List Value) (ps : List PyData), RelL X.K F μ H ds vs → Vals vs us → pdL st ds = some ps → ∃ as, ReadsAll s.heap us ps as ∧ NoS X.K as
  | [], _, _, _, r, q, h => by cases r; simp only [pdL] at h; cases h; cases q; exact ⟨_, .nil, fun _ => by simp⟩
  | d :: ds, _, _, _, r, q, h => by
    obtain ⟨p, qs, e1, e2, rfl⟩ := pdL_cons h
    cases r with
    | cons r1 r2 =>
      cases q with
      | cons q1 q2 =>
        obtain ⟨as, a1, n1⟩ := rd1 I S d _ _ _ r1 q1 e1
        obtain ⟨bs, a2, n2⟩ := rd1L I S ds _ _ _ r2 q2 e2
        exact ⟨_, .cons a1 a2, fun sm z => (List.mem_append.mp z).elim (n1 sm) (n2 sm)⟩
theorem rd1P (I : Inv X pins σ H s) (S : StRel X.K cls F μ H st) : ∀ (ds : List (D × D)) (l : List (Key × V)) (es : List DictEntry) (ps : List (PyData × PyData)), RelP X.K F μ H ds l →
    Paired (fun (e : DictEntry) (p : Key × V) => RelV (kV p.1) e.key ∧ RelV p.2 e.val) es l → pdP st ds = some ps →
    ∃ as bs, ReadsAll s.heap (es.map (·.key)) (ps.map (·.1)) as ∧ ReadsAll s.heap (es.map (·.val)) (ps.map (·.2)) bs ∧ NoS X.K as ∧ NoS X.K bs
  | [], _, _, _, r, q, h => by
    cases r
    cases q
    simp only [pdP] at h
    cases h
    exact ⟨_, _, .nil, .nil, fun _ => by simp, fun _ => by simp⟩
  | (k, d) :: ds, _, _, _, r, q, h => by
    obtain ⟨p, p2, qs, e1, e2, e3, rfl⟩ := pdP_cons h
    cases r with
    | cons r0 r1 r2 =>
      cases q with
      | cons q1 q2 =>
        obtain ⟨as, a1, n1⟩ := rd1 I S k _ _ _ (rel_keyV r0) q1.1 e1
        obtain ⟨bs, a2, n2⟩ := rd1 I S d _ _ _ r1 q1.2 e2
        obtain ⟨cs, ds', a3, a4, n3, n4⟩ := rd1P I S ds _ _ _ r2 q2 e3
        exact ⟨_, _, .cons a1 a3, .cons a2 a4, fun sm z => (List.mem_append.mp z).elim (n1 sm) (n3 sm), fun sm z => (List.mem_append.mp z).elim (n2 sm) (n4 sm)⟩
end
/-- repr(..) of data -/
theorem repr_ok (I : Inv X pins σ H s) (hg : X.A.guards = some []) (hu : X.A.units + 64 < cLine) (S : StRel X.K cls F μ H st) {d : D} {v : V} {u : Value} {p : PyData} {Q : VK} (r : Rel X.K F μ H d v) (q : RelV v u)
    (h : pd st d = some p) (h1 : p.showable = true) (h2 : p.shown.length ≤ sizeLine) (h3 : p.depth ≤ 60) (h4 : p.hasDict = false) (k : Q (.str p.shown) H) : wpAny (model X.prog X.w) X.A (call (.builtin "repr") [u]) (EP X pins σ Q) X.xe s := by
  obtain ⟨as, rd, ns⟩ := rd1 I S d v u p r q h
  cases rd with
  | none => exact PySem.P.repr_of_none ⟨.str _, H, I.tok _, ⟨_, rfl⟩, by simpa only [PyData.shown] using k⟩
  | bool b => exact PySem.P.repr_of_bool ⟨.str _, H, I.tok _, ⟨_, rfl⟩, by simpa only [PyData.shown] using k⟩
  | int i t => exact PySem.P.repr_of_int (by simpa [PyData.showable] using h1) ⟨.str _, H, I.tok _, ⟨_, rfl⟩, by simpa only [PyData.shown] using k⟩
  | str x t => exact PySem.P.repr_of_str ⟨.str _, H, I.tok _, ⟨_, rfl⟩, by simpa only [PyData.shown] using k⟩ (by simpa only [PyData.shown] using h2)
  | list a1 a2 a3 a4 => exact repr_of_reads' (Reads.list a1 a2 a3 a4) h1 (fun z => absurd z (by rw [h4]; decide)) hg (by omega) (fun _ _ e => e) (fun h' t tk hk => ⟨.str _, H, I.kept (t' := tk) hk, ⟨t, rfl⟩, k⟩) h2
  | tuple a1 a2 a3 a4 => exact repr_of_reads' (Reads.tuple a1 a2 a3 a4) h1 (fun z => absurd z (by rw [h4]; decide)) hg (by omega) (fun _ _ e => e) (fun h' t tk hk => ⟨.str _, H, I.kept (t' := tk) hk, ⟨t, rfl⟩, k⟩) h2
  | dict a1 a2 a3 a4 a5 => exact repr_of_reads' (Reads.dict a1 a2 a3 a4 a5) h1 (fun z => absurd z (by rw [h4]; decide)) hg (by omega) (fun _ _ e => e) (fun h' t tk hk => ⟨.str _, H, I.kept (t' := tk) hk, ⟨t, rfl⟩, k⟩) h2
end
end MP

set_option Elab.async false
set_option linter.all false
set_option maxRecDepth 100000
set_option maxHeartbeats 2000000
namespace MP
open PySem L2 PyProof.Rows
/-- what every place of a body has -/
structure Good (X : Cx) : Prop where
  gd : X.A.guards = some []
  hu : X.A.units + 70 < cLine
section
variable {X : Cx} {cls : Cl} {F : List Addr}
def biV : BI → Value
  | .abs => .builtin "abs" | .len => .builtin "len" | .max => .builtin "max" | .min => .builtin "min" | .int => .type "int" | .str => .type "str" | .repr => .builtin "repr"
  | .gcd => .builtin "math.gcd" | .isqrt => .builtin "math.isqrt" | .tuple => .type "tuple" | .all => .builtin "all" | .any => .builtin "any" | .sum => .builtin "sum"
def rBi (K : PySem.W.Frag) (cls : Cl) (F : List Addr) (b : BI) : List V → Hp → VK → Prop := fun vs H Q => ∃ μ st ds r, StRel K cls F μ H st ∧ RelL K F μ H ds vs ∧ biD b st ds = some r ∧
  ∀ μ' H' v, Ext μ μ' H H' → StRel K cls F μ' H' st → Rel K F μ' H' r v → Q v H'
theorem relL1 {K : PySem.W.Frag} {μ : List Addr} {H : Hp} {d : D} {vs : List V} (r : RelL K F μ H [d] vs) : ∃ v, vs = [v] ∧ Rel K F μ H d v := by
  cases r with
  | cons a b => cases b; exact ⟨_, rfl, a⟩
theorem relL2 {K : PySem.W.Frag} {μ : List Addr} {H : Hp} {d e : D} {vs : List V} (r : RelL K F μ H [d, e] vs) : ∃ v w, vs = [v, w] ∧ Rel K F μ H d v ∧ Rel K F μ H e w := by
  cases r with
  | cons a b => cases b with
    | cons b c => cases c; exact ⟨_, _, rfl, a, b⟩
theorem bls_rel {K : PySem.W.Frag} {μ : List Addr} {H : Hp} : ∀ {ys : List D} {bs : List Bool} {vs : List V}, RelL K F μ H ys vs → blsD ys = some bs → vs = bs.map V.bl
  | [], _, _, r, h => by cases r; cases h; rfl
  | y :: ys, _, _, r, h => by
    cases r with
    | cons r1 r2 =>
      cases y with
      | bl b =>
        have h' : (blsD ys).map (b :: ·) = some _ := h
        obtain ⟨bs, e, rfl⟩ := laysome h'
        cases r1
        rw [bls_rel r2 e]
        rfl
      | _ => cases h
theorem ints_rel {K : PySem.W.Frag} {μ : List Addr} {H : Hp} : ∀ {ys : List D} {bs : List Int} {vs : List V}, RelL K F μ H ys vs → intsD ys = some bs → vs = bs.map V.int
  | [], _, _, r, h => by cases r; cases h; rfl
  | y :: ys, _, _, r, h => by
    cases r with
    | cons r1 r2 =>
      cases y with
      | int b =>
        have h' : (intsD ys).map (b :: ·) = some _ := h
        obtain ⟨bs, e, rfl⟩ := laysome h'
        cases r1
        rw [ints_rel r2 e]
        rfl
      | _ => cases h
theorem lis_rel {K : PySem.W.Frag} {μ : List Addr} {H : Hp} {st : DS} (S : StRel K cls F μ H st) {d : D} {v : V} {xs : List D} (r : Rel K F μ H d v) (h : lisD st d = some xs) : ∃ a vs, v = .ref a ∧ RelL K F μ H xs vs ∧ SqL K H a vs := by
  cases r with
  | non => cases h
  | bl => cases h
  | int => cases h
  | str => cases h
  | tup => cases h
  | tupK => cases h
  | lst h1 h2 h4 h3 => cases h; exact ⟨_, _, rfl, h3, SqL.of h1⟩
  | scr h1 h2 h3 => cases h; exact ⟨_, _, rfl, h3, .inl (.inr ⟨_, h1⟩)⟩
  | scrK h1 h3 => cases h; exact ⟨_, _, rfl, h3, h1 H⟩
  | dic => cases h
  | @ref n a hn =>
    obtain ⟨ob, e, o⟩ := S.obj n a hn
    have h' : (match getO st n with | some (.lst xs) => some xs | _ => none) = some xs := h
    rw [e] at h'
    cases ob with
    | lst ds => cases h'; obtain ⟨vs, e1, e2⟩ := o; exact ⟨a, vs, rfl, e2, SqL.of e1⟩
    | dic => cases h'
    | ins => cases h'
theorem isqrt_cr : CallR X (.builtin "math.isqrt") (fun xs H Q => ∃ a : Int, xs = [.int a] ∧ (0 ≤ a ∧ a.toNat.log2 < 13000) ∧ Q (.int ((Float64.isqrt a.toNat : Nat) : Int)) H) := by
  intro pins s σ H xs us Q I r h
  obtain ⟨a, rfl, ⟨h0, h1⟩, q⟩ := h
  obtain ⟨u, rfl, t, rfl⟩ := vals1 r
  exact call_function_meets PySem.W.MGF.kind_isqrt PySem.W.MGF.plain_isqrt PySem.W.MGF.entry_isqrt (PySem.W.MGF.args_isqrt _) (PySem.W.mg_run_isqrt a t (by omega) (by omega) (by omega)).meets ⟨.int _, H, I.tok _, ⟨_, rfl⟩, q⟩
theorem bi_ok (g : Good X) (hc : X.calm = true) (b : BI) : CallR X (biV b) (rBi X.K cls F b) := by
  intro pins s σ H xs us Q I r h
  obtain ⟨μ, st, ds, d, S, rs, e, q⟩ := h
  have fin : ∀ v, Rel X.K F μ H d v → Q v H := fun v rv => q μ H v .refl S rv
  cases b with
  | abs =>
    unfold biD at e
    split at e <;> first | contradiction | skip
    all_goals first | (rename_i hq; cases hq; done) | skip
    cases e
    obtain ⟨v, rfl, r1⟩ := relL1 rs
    cases r1
    exact call_abs pins s σ H _ us Q I r ⟨_, rfl, fin _ (.int _)⟩
  | len =>
    unfold biD at e
    split at e <;> first | contradiction | skip
    all_goals first | (rename_i hq; cases hq; done) | skip
    · split at e
      · rename_i hl
        cases e
        obtain ⟨v, rfl, r1⟩ := relL1 rs
        cases r1
        exact call_len_str pins s σ H _ us Q I r ⟨_, rfl, hl, fin _ (.int _)⟩
      · cases e
    · obtain ⟨v, rfl, r1⟩ := relL1 rs
      split at e
      · rename_i ys hs
        cases e
        obtain ⟨a, vs, rfl, r2, sq⟩ := seq_rel S r1 hs
        exact call_len_seq pins s σ H _ us Q I r ⟨a, vs, rfl, sq, by rw [← r2.length]; exact fin _ (.int _)⟩
      · split at e
        · rename_i kvs hs
          cases e
          obtain ⟨a, l, rfl, r2, sq⟩ := dic_rel S r1 hs
          exact call_lenD pins s σ H _ us Q I r ⟨a, l, rfl, sq, by rw [← r2.length]; exact fin _ (.int _)⟩
        · cases e
  | max =>
    unfold biD at e
    split at e <;> first | contradiction | skip
    all_goals first | (rename_i hq; cases hq; done) | skip
    cases e
    obtain ⟨v, w, rfl, r1, r2⟩ := relL2 rs
    cases r1; cases r2
    exact call_max2 hc pins s σ H _ us Q I r ⟨_, _, rfl, fin _ (.int _)⟩
  | min =>
    unfold biD at e
    split at e <;> first | contradiction | skip
    all_goals first | (rename_i hq; cases hq; done) | skip
    cases e
    obtain ⟨v, w, rfl, r1, r2⟩ := relL2 rs
    cases r1; cases r2
    exact call_min2 hc pins s σ H _ us Q I r ⟨_, _, rfl, fin _ (.int _)⟩
  | int =>
    unfold biD at e
    split at e <;> first | contradiction | skip
    all_goals first | (rename_i hq; cases hq; done) | skip
    · cases e
      obtain ⟨v, rfl, r1⟩ := relL1 rs
      cases r1
      exact call_int1 pins s σ H _ us Q I r (.inl ⟨_, rfl, fin _ (.int _)⟩)
    · cases e
      obtain ⟨v, rfl, r1⟩ := relL1 rs
      cases r1
      exact call_int1 pins s σ H _ us Q I r (.inr ⟨_, rfl, fin _ (.int _)⟩)
    · split at e
      · rename_i hl
        obtain ⟨v, rfl, r1⟩ := relL1 rs
        cases r1
        obtain ⟨j, hj, ej⟩ := laysome e
        cases ej
        exact call_int_str pins s σ H _ us Q I r ⟨_, _, rfl, hj, hl, fin _ (.int _)⟩
      · cases e
  | str =>
    unfold biD at e
    split at e <;> first | contradiction | skip
    all_goals first | (rename_i hq; cases hq; done) | skip
    split at e
    · rename_i hl
      cases e
      obtain ⟨v, rfl, r1⟩ := relL1 rs
      cases r1
      exact call_str_int pins s σ H _ us Q I r ⟨_, rfl, hl, fin _ (.str _)⟩
    · cases e
  | repr =>
    unfold biD at e
    split at e <;> first | contradiction | skip
    all_goals first | (rename_i hq; cases hq; done) | skip
    split at e
    · rename_i p hp
      split at e
      · rename_i hl
        simp only [Bool.and_eq_true, decide_eq_true_eq] at hl
        cases e
        obtain ⟨v, rfl, r1⟩ := relL1 rs
        obtain ⟨u, rfl, ru⟩ := vals1 r
        have h1 := g.hu
        exact repr_ok I g.gd (by omega) S r1 ru hp hl.1.1.1 hl.1.1.2 hl.1.2 (by simpa using hl.2) (fin _ (.str _))
      · cases e
    · cases e
  | gcd =>
    unfold biD at e
    split at e <;> first | contradiction | skip
    all_goals first | (rename_i hq; cases hq; done) | skip
    cases e
    obtain ⟨v, w, rfl, r1, r2⟩ := relL2 rs
    cases r1; cases r2
    exact cr_gcd pins s σ H _ us Q I r ⟨_, _, rfl, fin _ (.int _)⟩
  | isqrt =>
    unfold biD at e
    split at e <;> first | contradiction | skip
    all_goals first | (rename_i hq; cases hq; done) | skip
    split at e
    · rename_i hl
      cases e
      obtain ⟨v, rfl, r1⟩ := relL1 rs
      cases r1
      exact isqrt_cr pins s σ H _ us Q I r ⟨_, rfl, hl, fin _ (.int _)⟩
    · cases e
  | tuple =>
    unfold biD at e
    split at e <;> first | contradiction | skip
    all_goals first | (rename_i hq; cases hq; done) | skip
    · cases e
      obtain ⟨v, rfl, r1⟩ := relL1 rs
      obtain ⟨a, vs, rfl, sq, r2⟩ := tupD_rel r1
      exact call_tuple_of pins s σ H _ us Q I r ⟨a, vs, rfl, .inr ⟨sq, fin _ r1⟩⟩
    · split at e
      · rename_i ys hs
        cases e
        obtain ⟨v, rfl, r1⟩ := relL1 rs
        obtain ⟨a, vs, rfl, r2, sq⟩ := lis_rel S r1 hs
        exact call_tuple_of pins s σ H _ us Q I r ⟨a, vs, rfl, .inl ⟨sq, fun p hp => q μ _ _ (ext_new hp) (S.new hp) (new_tup S hp r2)⟩⟩
      · cases e
  | all =>
    unfold biD at e
    split at e <;> first | contradiction | skip
    all_goals first | (rename_i hq; cases hq; done) | skip
    split at e
    · rename_i bs hb
      cases e
      obtain ⟨ys, hs, hb'⟩ := Option.bind_eq_some_iff.mp hb
      obtain ⟨v, rfl, r1⟩ := relL1 rs
      obtain ⟨a, vs, rfl, r2, sq⟩ := lis_rel S r1 hs
      rw [bls_rel r2 hb'] at sq
      exact cr_all hc pins s σ H _ us Q I r ⟨a, bs, rfl, sq, fin _ (.bl _)⟩
    · cases e
  | any =>
    unfold biD at e
    split at e <;> first | contradiction | skip
    all_goals first | (rename_i hq; cases hq; done) | skip
    split at e
    · rename_i bs hb
      cases e
      obtain ⟨ys, hs, hb'⟩ := Option.bind_eq_some_iff.mp hb
      obtain ⟨v, rfl, r1⟩ := relL1 rs
      obtain ⟨a, vs, rfl, r2, sq⟩ := lis_rel S r1 hs
      rw [bls_rel r2 hb'] at sq
      exact cr_any hc pins s σ H _ us Q I r ⟨a, bs, rfl, sq, fin _ (.bl _)⟩
    · cases e
  | sum =>
    unfold biD at e
    split at e <;> first | contradiction | skip
    all_goals first | (rename_i hq; cases hq; done) | skip
    split at e
    · rename_i bs hb
      cases e
      obtain ⟨ys, hs, hb'⟩ := Option.bind_eq_some_iff.mp hb
      obtain ⟨v, rfl, r1⟩ := relL1 rs
      obtain ⟨a, vs, rfl, r2, sq⟩ := lis_rel S r1 hs
      rw [ints_rel r2 hb'] at sq
      exact cr_sum hc pins s σ H _ us Q I r ⟨a, bs, rfl, sq, fin _ (.int _)⟩
    · cases e
end
end MP

set_option Elab.async false
set_option linter.all false
set_option maxRecDepth 100000
set_option maxHeartbeats 2000000
namespace MP
open PySem L2 PyProof.Rows
/-! ### defs that know what runs around -/
structure FnG (P : Program) (w : World) (K : PySem.W.Frag) (mg : Str → Option Value) (base : Heap) (k : Nat) (f : Addr) (fd : FuncData) (ps : List Str) (sp : Sp) : Prop where
  len : ∀ vs H Q E, sp vs H Q E → vs.length = ps.length
  run : ∀ (A : Around) (out : List PySem.Env) (s : Shared) (H : Hp) (args : Args) (us : List Value) (vs : List V) (Q : VK) (E : XK), Room k A → A.guards = some [] → Env0 P w K mg base A out s H →
    BindsTo s fd args (ps.zip us) → Vals vs us → sp vs H Q E → codeAny (model P w) A (.call (.ref f) args) (CR (L2.CX P w) out P w H s Q E) s
section
variable {P : Program} {w : World} {K : PySem.W.Frag} {mg : Str → Option Value} {base : Heap}
/-- from a body -/
theorem FnG.of {x qual : Str} {st : Stmt} {f : Addr} {fd : FuncData} {N ps : List Str} {k : Nat} {sp : Sp} (D : Fun K x qual st f fd) (S : FnScope N ps (defScope st)) (len : ∀ vs H Q E, sp vs H Q E → vs.length = ps.length)
    (hb : ∀ (cdv : Value) (A : Around) (out : List PySem.Env) (s : Shared) (H : Hp) (vs : List V) (Q : VK) (E : XK), Room k (A.deeper (envOfC qual (defScope st) s.heap.objs.size f cdv)) → A.guards = some [] → fd.code = cdv → sp vs H Q E →
      ∃ t, PSs (cxOf (L2.CX P w) P w K mg base N qual (defScope st) f cdv A out s H E) (defBody st) t ∧ t { nx := fun _ H' => Q .non H', rt := Q } (start N vs) H) : FnG P w K mg base (k + 1) f fd ps sp := by
  refine ⟨len, fun A out s H args us vs Q E hr hg e0 hbd r h => ?_⟩
  obtain ⟨oc, od, kV, doc, pm, an, cdv, ct, osl, rfl, lk, hcd⟩ := D.ex
  have ln := len _ _ _ _ h
  have kin : K.In s.heap := e0.mod.kin.keeps fun b o e => (e0.bs b o e).1
  refine codeAny_call_function hr.depth (kin _ _ lk) rfl S.co S.gen rfl (PySem.W.codeRec_of kin hcd) (hbd _ _ _ _ ?_)
  refine wpAny_newFunctionEnv_cells S.kind (fun ⟨n, v⟩ hy => ?_) fun env he s1 ic => ?_
  · rcases S.par n (List.of_mem_zip hy).1 with z | z
    · exact .inl z
    · exact .inr ⟨z, PySem.W.cellsFrom_some _ _ _ (.inl z)⟩
  · subst he
    refine ⟨(e0.mod.nolimit.keeps fun b o e => (e0.bs b o e).1).keeps ic.toInCall.keep, codeAny_func ?_⟩
    obtain ⟨t, ht, hq⟩ := hb cdv A out s H vs Q E (hr.deeper _) hg rfl h
    have I : L2.Inv (cxOf (L2.CX P w) P w K mg base N qual (defScope st) f cdv A out s H E) [] (start N vs) H s1 := inv_start S hr.hd e0 ln r ic
    refine wpAny_mono (ht.run [] s1 (start N vs) H _ I hq) (fun fl s' z => ?_) fun _ _ z => z
    cases fl with
    | ret u => obtain ⟨v, _, H', J, rv, q⟩ := z; exact ⟨v, H', J.os, J.bare, J.base, J.hok, rv, q⟩
    | next => obtain ⟨_, H', J, q⟩ := z; exact ⟨V.non, H', J.os, J.bare, J.base, J.hok, rfl, q⟩
    | brk => obtain ⟨_, _, _, q⟩ := z; exact q.elim
    | cont => obtain ⟨_, _, _, q⟩ := z; exact q.elim
end
section
variable {X : Cx} {W : WX} {k : Nat} {f : Addr} {fd : FuncData} {ps : List Str} {sp : Sp}
/-- a def is called -/
theorem callG {pins : List (Addr × Obj)} {σ : L2.St} {H : Hp} {s : Shared} {Q : VK} {us : List Value} {vs : List V} (G : FnG X.prog X.w X.K X.mg X.base k f fd ps sp) (hr : Room k X.A) (hg : X.A.guards = some []) (hb : Binds X.K fd ps []) (tk : Takes X W)
    (I : Inv X pins σ H s) (r : Vals vs us) (h : sp vs H Q (fun c d H' => W c d σ H')) : wpAny (model X.prog X.w) X.A (call (.ref f) us) (EP X pins σ Q) X.xe s := by
  have ln : us.length = ps.length := by rw [← r.length]; exact G.len _ _ _ _ h
  have b := hb s us I.kIn (by rw [List.append_nil]; exact ln)
  rw [List.append_nil] at b
  refine wpAny_call (codeAny_mono (G.run X.A X.stack s H ⟨us, []⟩ us vs Q _ hr hg I.env0 b r h) fun res s' z => ?_)
  cases res with
  | error e => exact tk e s' (XE.of_call I (fun _ _ _ h => h) z)
  | ok fl => cases fl with
    | ret u => exact I.after z
    | next => exact False.elim z
    | brk => exact False.elim z
    | cont => exact False.elim z
end
/-! ### a program's facts -/
/-- what the text tells -/
structure Sg where
  xf : Nat → List Str
  Pg : Nat → Option FDef
  cn : Nat → Option (Str × D)
  xn : Nat → Option Str
  tn : Nat → Option Str
  gc : Bool
  iq : Bool
structure Wd extends Sg where
  cls : Cl
  fa : Nat → Addr
  fdat : Nat → FuncData
  ps : Nat → List Str
  cd : Nat → V
/-- what a def promises: what the interpreter tells of it -/
def prom (K : PySem.W.Frag) (U : Wd) (C : Nat → List D → DS → R D) (f : Nat) : Sp := fun vs H Q E => ∃ F μ st ds, StRel K U.cls F μ H st ∧ RelL K F μ H ds vs ∧ ds.length = (U.ps f).length ∧
  Post K U.cls U.xf F (rlD K F) (fun c d _ H' => E c d H') [] μ H (C f ds st) Q
structure Fns (U : Wd) (P : Program) (w : World) (K : PySem.W.Frag) (mg : Str → Option Value) (base : Heap) (n : Nat) : Prop where
  ok : ∀ f fd, U.Pg f = some fd → Binds K (U.fdat f) (U.ps f) [] ∧ FnG P w K mg base (3 * n + 3) (U.fa f) (U.fdat f) (U.ps f) (prom K U (callN U.Pg n) f)
/-- the module's names -/
structure Gls (U : Wd) (K : PySem.W.Frag) (mg : Str → Option Value) : Prop where
  fn : ∀ f fd, U.Pg f = some fd → fd.gl = true → mg fd.nm = some (.ref (U.fa f)) ∧ PySem.W.keepIn K (.ref (U.fa f)) = true
  np : ∀ f fd, U.Pg f = some fd → (U.ps f).length = fd.np
  cn : ∀ k x d, U.cn k = some (x, d) → (∃ u, mg x = some u ∧ RelV (U.cd k) u) ∧ ∀ F μ H, Rel K F μ H d (U.cd k)
  bi : ∀ x, x = ("abs" : Str) ∨ x = ("len" : Str) ∨ x = ("max" : Str) ∨ x = ("min" : Str) ∨ x = ("int" : Str) ∨ x = ("str" : Str) ∨ x = ("repr" : Str) ∨ x = ("tuple" : Str) ∨ x = ("all" : Str) ∨ x = ("any" : Str) ∨ x = ("sum" : Str) ∨ x = ("range" : Str) ∨ x = ("list" : Str) ∨ x = ("dict" : Str) ∨ x = ("enumerate" : Str) ∨ x = ("zip" : Str) ∨ x = ("isinstance" : Str) ∨ x = ("bool" : Str) ∨ x = ("sorted" : Str) → mg x = none
  gcOk : U.gc = true → mg "gcd" = some (.builtin "math.gcd")
  iqOk : U.iq = true → mg "isqrt" = some (.builtin "math.isqrt")
structure Ctx (U : Wd) (n : Nat) (W : WX) (X : Cx) : Prop where
  good : Good X
  calm : X.calm = true
  nd : X.N.Nodup
  tk : Takes X W
  room : Room (3 * n + 3) X.A
  fns : Fns U X.prog X.w X.K X.mg X.base n
  gls : Gls U X.K X.mg
/-- what a call asks -/
theorem call_ok {U : Wd} {n : Nat} {W : WX} {X : Cx} (c : Ctx U n W X) {F : List Addr} {f : Nat} {fd : FDef} (hf : U.Pg f = some fd) {pins : List (Addr × Obj)} {σ : L2.St} {H : Hp} {s : Shared} {Q : VK} {us : List Value} {vs : List V} {ds : List D} {μ : List Addr} {st : DS}
    (I : Inv X pins σ H s) (r : Vals vs us) (S : StRel X.K U.cls F μ H st) (rd : RelL X.K F μ H ds vs) (hl : ds.length = fd.np) (h : Post X.K U.cls U.xf F (rlD X.K F) W σ μ H (callN U.Pg n f ds st) Q) :
    wpAny (model X.prog X.w) X.A (call (.ref (U.fa f)) us) (EP X pins σ Q) X.xe s := by
  obtain ⟨hb, G⟩ := c.fns.ok f fd hf
  refine callG G (c.room.mono (by omega)) c.good.gd hb c.tk I r ⟨F, μ, st, ds, S, rd, by rw [c.gls.np f fd hf]; exact hl, ?_⟩
  generalize callN U.Pg n f ds st = z at h
  cases z with
  | ok d st1 => exact h
  | exc a b st1 => exact h
  | bad => exact h.elim
end MP

set_option Elab.async false
set_option linter.all false
set_option maxRecDepth 100000
set_option maxHeartbeats 4000000
namespace MP
open PySem L2 PyProof.Rows
/-! ### the text, taken apart -/
def asName : Expr → Option Str | .Name x _ => some x | _ => none
def asConst : Expr → Option Const | .Constant c _ _ => some c | _ => none
def asBin : Expr → Option (Expr × Operator × Expr) | .BinOp a o b _ => some (a, o, b) | _ => none
def asUn : Expr → Option (UnaryOp × Expr) | .UnaryOp o a _ => some (o, a) | _ => none
def asBool : Expr → Option (BoolOp × List Expr × Pos) | .BoolOp o es p => some (o, es, p) | _ => none
def asCmp : Expr → Option (Expr × List CmpOp × List Expr) | .Compare a os es _ => some (a, os, es) | _ => none
def asIf : Expr → Option (Expr × Expr × Expr) | .IfExp a b c _ => some (a, b, c) | _ => none
def asTup : Expr → Option (List Expr) | .Tuple es _ _ => some es | _ => none
def asList : Expr → Option (List Expr) | .List es _ => some es | _ => none
def asDict : Expr → Option (List (Option Expr) × List Expr) | .Dict ks vs _ => some (ks, vs) | _ => none
def asSub : Expr → Option (Expr × Expr) | .Subscript a b _ => some (a, b) | _ => none
def asSlice : Expr → Option (Option Expr × Option Expr × Option Expr) | .Slice a b c _ => some (a, b, c) | _ => none
def asCall : Expr → Option (Expr × List Expr × List Keyword × Pos) | .Call f es ks p => some (f, es, ks, p) | _ => none
def asAttr : Expr → Option (Expr × Str × Pos) | .Attribute a f p => some (a, f, p) | _ => none
def asLC : Expr → Option (Expr × List Comprehension × Scope) | .ListComp e gs s _ => some (e, gs, s) | _ => none
def noStar : Expr → Bool | .Starred _ _ => false | _ => true
/-- its test is its value's truth -/
def plainT : Expr → Bool | .UnaryOp .Not _ _ => false | .BoolOp _ _ _ => false | .Compare _ _ _ _ => false | .IfExp _ _ _ _ => false | _ => true
def plainIx : Expr → Bool | .Slice _ _ _ _ => false | _ => true
def plainBase : Expr → Bool | .Call (.Name _ _) [] [] _ => false | _ => true
theorem asName_eq {e : Expr} {x : Str} (h : asName e = some x) : ∃ p, e = .Name x p := by cases e <;> first | (cases h; done) | skip; cases h; exact ⟨_, rfl⟩
theorem asConst_eq {e : Expr} {c : Const} (h : asConst e = some c) : ∃ k p, e = .Constant c k p := by cases e <;> first | (cases h; done) | skip; cases h; exact ⟨_, _, rfl⟩
theorem asBin_eq {e a b : Expr} {o : Operator} (h : asBin e = some (a, o, b)) : ∃ p, e = .BinOp a o b p := by cases e <;> first | (cases h; done) | skip; cases h; exact ⟨_, rfl⟩
theorem asUn_eq {e a : Expr} {o : UnaryOp} (h : asUn e = some (o, a)) : ∃ p, e = .UnaryOp o a p := by cases e <;> first | (cases h; done) | skip; cases h; exact ⟨_, rfl⟩
theorem asBool_eq {e : Expr} {es : List Expr} {o : BoolOp} {p : Pos} (h : asBool e = some (o, es, p)) : e = .BoolOp o es p := by cases e <;> first | (cases h; done) | skip; cases h; rfl
theorem asCmp_eq {e a : Expr} {os : List CmpOp} {es : List Expr} (h : asCmp e = some (a, os, es)) : ∃ p, e = .Compare a os es p := by cases e <;> first | (cases h; done) | skip; cases h; exact ⟨_, rfl⟩
theorem asIf_eq {e a b c : Expr} (h : asIf e = some (a, b, c)) : ∃ p, e = .IfExp a b c p := by cases e <;> first | (cases h; done) | skip; cases h; exact ⟨_, rfl⟩
theorem asTup_eq {e : Expr} {es : List Expr} (h : asTup e = some es) : ∃ k p, e = .Tuple es k p := by cases e <;> first | (cases h; done) | skip; cases h; exact ⟨_, _, rfl⟩
theorem asList_eq {e : Expr} {es : List Expr} (h : asList e = some es) : ∃ p, e = .List es p := by cases e <;> first | (cases h; done) | skip; cases h; exact ⟨_, rfl⟩
theorem asDict_eq {e : Expr} {ks : List (Option Expr)} {vs : List Expr} (h : asDict e = some (ks, vs)) : ∃ p, e = .Dict ks vs p := by cases e <;> first | (cases h; done) | skip; cases h; exact ⟨_, rfl⟩
theorem asSub_eq {e a b : Expr} (h : asSub e = some (a, b)) : ∃ p, e = .Subscript a b p := by cases e <;> first | (cases h; done) | skip; cases h; exact ⟨_, rfl⟩
theorem asSlice_eq {e : Expr} {a b c : Option Expr} (h : asSlice e = some (a, b, c)) : ∃ p, e = .Slice a b c p := by cases e <;> first | (cases h; done) | skip; cases h; exact ⟨_, rfl⟩
theorem asCall_eq {e f : Expr} {es : List Expr} {ks : List Keyword} {p : Pos} (h : asCall e = some (f, es, ks, p)) : e = .Call f es ks p := by cases e <;> first | (cases h; done) | skip; cases h; rfl
theorem asAttr_eq {e a : Expr} {f : Str} {p : Pos} (h : asAttr e = some (a, f, p)) : e = .Attribute a f p := by cases e <;> first | (cases h; done) | skip; cases h; rfl
theorem asLC_eq {e a : Expr} {gs : List Comprehension} {s : Scope} (h : asLC e = some (a, gs, s)) : ∃ p, e = .ListComp a gs s p := by cases e <;> first | (cases h; done) | skip; cases h; exact ⟨_, rfl⟩
theorem star1 {e : Expr} {es : List Expr} {env : PySem.Env} (h : noStar e = true) : starEach (e :: es) env = (false, PySem.eval e env) :: starEach es env := by
  cases e <;> first | rfl | cases h
theorem star_plain {env : PySem.Env} {pos : Pos} : ∀ {es : List Expr}, es.all noStar = true → (backTo pos (starEach es env)).any (·.1) = false
  | [], _ => rfl
  | e :: es, h => by
    simp only [List.all_cons, Bool.and_eq_true] at h
    have ih := star_plain (env := env) (pos := pos) h.2
    rw [star1 h.1]
    show (false || (backTo pos (starEach es env)).any (·.1)) = false
    rw [ih]; rfl
theorem star_all {env : PySem.Env} {pos : Pos} : ∀ {es : List Expr}, es.all noStar = true → (backTo pos (starEach es env)).all (fun x => !x.1) = true
  | [], _ => rfl
  | e :: es, h => by
    simp only [List.all_cons, Bool.and_eq_true] at h
    have ih := star_all (env := env) (pos := pos) h.2
    rw [star1 h.1]
    show (true && (backTo pos (starEach es env)).all (fun x => !x.1)) = true
    rw [ih]; rfl
theorem plainT_eq {e : Expr} {env : PySem.Env} (h : plainT e = true) : ∀ whole, isTrue e env whole = (do let v ← whole; standAt e.pos; holding [v] (truthy v)) := by
  intro whole
  cases e <;> first | rfl | (cases h; done) | skip
  rename_i o a p
  cases o <;> first | rfl | cases h
theorem plainIx_eq {b : Expr} (h : plainIx b = true) : PlainIx b := by
  intro o i
  cases b <;> first | rfl | cases h
theorem plainNo_eq {b : Expr} (h : plainIx b = true) : NoSl b := by
  intro o i
  cases b <;> first | rfl | cases h
theorem plainBase_eq {o : Expr} {m : Str} {env : PySem.Env} {w : Sem Value} (h : plainBase o = true) : attributeBase o m env w = w := by
  unfold attributeBase
  split
  · cases h
  · rfl
/-- weaker readings -/
theorem pe_imp {X : Cx} {e : Expr} {t t' : TE} (h : PE X e t) (i : ∀ σ H Q, t' σ H Q → t σ H Q) : PE X e t' := ⟨fun pins s σ H Q I q => h.run pins s σ H Q I (i σ H Q q)⟩
theorem pt_imp {X : Cx} {e : Expr} {t t' : TT} (h : PT X e t) (i : ∀ σ H Q, t' σ H Q → t σ H Q) : PT X e t' := ⟨fun pins s σ H Q I q => h.run pins s σ H Q I (i σ H Q q)⟩
theorem pa_imp {X : Cx} {e : List Expr} {t t' : TA} (h : PA X e t) (i : ∀ σ H Q, t' σ H Q → t σ H Q) : PA X e t' := ⟨fun pos pins s σ H Q I q => h.run pos pins s σ H Q I (i σ H Q q)⟩
theorem pw_of {X : Cx} {o : BoolOp} {es : List Expr} {p : Pos} {t : TT} (h : PT X (.BoolOp o es p) t) : PW X (.BoolOp o es p) t := ⟨fun _ pins s σ H Q I q => h.run pins s σ H Q I q⟩
def visB (sc : Scope) (x : Str) : Bool := match sc.names.lookup x with | some .local => true | some .cell => true | some .free => true | _ => false
def locB (sc : Scope) (x : Str) : Bool := match sc.names.lookup x with | some .local => true | some .cell => true | _ => false
def glB (sc : Scope) (x : Str) : Bool := match sc.names.lookup x with | some .globalImplicit => true | _ => false
theorem visB_eq {sc : Scope} {x : Str} (h : visB sc x = true) : Vis sc x := by
  unfold visB at h; unfold Vis
  split at h <;> first | exact .inl (by assumption) | exact .inr (.inl (by assumption)) | exact .inr (.inr (by assumption)) | cases h
theorem locB_eq {sc : Scope} {x : Str} (h : locB sc x = true) : L2.Loc sc x := by
  unfold locB at h; unfold L2.Loc
  split at h <;> first | exact .inl (by assumption) | exact .inr (by assumption) | cases h
theorem glB_eq {X : Cx} {x : Str} (h : glB X.env.scope x = true) : Gl X x := by
  unfold glB at h
  split at h
  · rename_i e; exact e
  · cases h
def okNm (x : Str) : Bool := !(x == ("__debug__" : Str)) && !(x == ("__classdict__" : Str))
theorem okNm_eq {x : Str} (h : okNm x = true) : (x == ("__debug__" : Str)) = false ∧ (x == ("__classdict__" : Str)) = false := by
  unfold okNm at h
  simpa only [Bool.and_eq_true, Bool.not_eq_true'] using h
mutual
def eqDD : D → D → Bool
  | .non, .non => true
  | .bl a, .bl b => a == b
  | .int a, .int b => a == b
  | .str a, .str b => decide (a = b)
  | .tup a, .tup b => eqDL a b
  | .lst a, .lst b => eqDL a b
  | _, _ => false
def eqDL : List D → List D → Bool
  | [], [] => true
  | a :: r, b :: s => eqDD a b && eqDL r s
  | _, _ => false
end
mutual
theorem eqDD_eq : ∀ (a b : D), eqDD a b = true → a = b
  | .non, b, h => by cases b <;> first | rfl | simp [eqDD] at h
  | .bl _, b, h => by cases b <;> first | (simp [eqDD] at h; done) | (simp [eqDD] at h; rw [h])
  | .int _, b, h => by cases b <;> first | (simp [eqDD] at h; done) | (simp [eqDD] at h; rw [h])
  | .str _, b, h => by cases b <;> first | (simp [eqDD] at h; done) | (simp [eqDD] at h; rw [h])
  | .tup xs, b, h => by
    cases b <;> first | (simp [eqDD] at h; done) | skip
    rename_i ys
    rw [eqDL_eq xs ys (by simpa [eqDD] using h)]
  | .lst xs, b, h => by
    cases b <;> first | (simp [eqDD] at h; done) | skip
    rename_i ys
    rw [eqDL_eq xs ys (by simpa [eqDD] using h)]
  | .scr xs, b, h => by cases b <;> simp [eqDD] at h
  | .dic xs, b, h => by cases b <;> simp [eqDD] at h
  | .ref xs, b, h => by cases b <;> simp [eqDD] at h
theorem eqDL_eq : ∀ (a b : List D), eqDL a b = true → a = b
  | [], b, h => by cases b <;> first | rfl | simp [eqDL] at h
  | x :: xs, b, h => by
    cases b with
    | nil => simp [eqDL] at h
    | cons y ys =>
      simp only [eqDL, Bool.and_eq_true] at h
      rw [eqDD_eq x y h.1, eqDL_eq xs ys h.2]
end
/-! ### the checker -/
def isMinusOne : Expr → Bool
  | .UnaryOp .USub (.Constant (.int 1) _ _) _ => true
  | _ => false
theorem isMinusOne_eq {e : Expr} (h : isMinusOne e = true) : ∃ k p1 p2, e = .UnaryOp .USub (.Constant (.int 1) k p1) p2 := by
  unfold isMinusOne at h
  split at h
  · exact ⟨_, _, _, rfl⟩
  · cases h
def opB : BOp → Operator → Bool
  | .add, .Add => true | .sub, .Sub => true | .mul, .Mult => true | .fdiv, .FloorDiv => true | .mod, .Mod => true | .pow, .Pow => true | _, _ => false
theorem opB_eq {o : BOp} {p : Operator} (h : opB o p = true) : p = toOp o := by cases o <;> cases p <;> first | rfl | cases h
def cmpB : COp → CmpOp → Bool
  | .eq, .Eq => true | .ne, .NotEq => true | .lt, .Lt => true | .le, .LtE => true | .gt, .Gt => true | .ge, .GtE => true | .inn, .In => true | .nin, .NotIn => true | .isb, .Is => true | .isnb, .IsNot => true | _, _ => false
theorem cmpB_eq {o : COp} {p : CmpOp} (h : cmpB o p = true) : p = toCmp o := by cases o <;> cases p <;> first | rfl | cases h
def asStarred : Expr → Option Expr | .Starred e _ => some e | _ => none
theorem asStarred_eq {e x : Expr} (h : asStarred e = some x) : ∃ p, e = .Starred x p := by cases e <;> first | (cases h; done) | skip; cases h; exact ⟨_, rfl⟩
def itN : IT → Str | .int => "int" | .bool => "bool" | .tuple => "tuple" | .str => "str" | .list => "list"
def itS : IT → String | .int => "int" | .bool => "bool" | .tuple => "tuple" | .str => "str" | .list => "list"
def biN : BI → Str
  | .abs => "abs" | .len => "len" | .max => "max" | .min => "min" | .int => "int" | .str => "str" | .repr => "repr" | .gcd => "gcd" | .isqrt => "isqrt" | .tuple => "tuple" | .all => "all" | .any => "any" | .sum => "sum"
def constB : D → Const → Bool
  | .non, .none => true | .bl a, .bool b => a == b | .int a, .int b => a == b | .str a, .str b => decide (a = b) | _, _ => false
end MP

set_option Elab.async false
set_option linter.all false
set_option maxRecDepth 100000
set_option maxHeartbeats 4000000
namespace MP
open PySem L2 PyProof.Rows
theorem Rel.up {K : PySem.W.Frag} {F μ μ' : List Addr} {H H' : Hp} {d : D} {v : V} (r : Rel K F μ H d v) (e : Ext μ μ' H H') : Rel K F μ' H' d v := Rel.mono e d v r
theorem RelL.up {K : PySem.W.Frag} {F μ μ' : List Addr} {H H' : Hp} {d : List D} {v : List V} (r : RelL K F μ H d v) (e : Ext μ μ' H H') : RelL K F μ' H' d v := RelL.mono e d v r
/-- a list comes new, told as it is or as an object -/
theorem newL_ok {K : PySem.W.Frag} {cls : Cl} {xf : Nat → List Str} {F μ : List Addr} {H : Hp} {st : DS} {W : WX} {σ : L2.St} {Q : VK} {m : Bool} {ds : List D} {vs : List V} (S : StRel K cls F μ H st) (r : RelL K F μ H ds vs)
    (h : Post K cls xf F (rlD K F) W σ μ H (newL m ds st) Q) {p : Addr} (hp : H p = none) : Q (.ref p) (upd H p (.lst vs)) := by
  unfold newL at h
  cases m with
  | false => exact h μ _ _ (ext_new hp) (S.new hp) (new_lst S hp r)
  | true =>
    have e : Ext μ (μ ++ [p]) H (upd H p (.lst vs)) := ext_own hp
    refine h _ _ _ e (S.own hp ⟨vs, upd_same, r.up e⟩) (.ref ?_)
    rw [List.getElem?_append_right (by rw [S.len]; exact Nat.le_refl _), S.len, Nat.sub_self]
    rfl
section
variable {U : Wd} {n : Nat} {W : WX} {X : Cx} {F : List Addr}
abbrev TDx (U : Wd) (X : Cx) (F : List Addr) (W : WX) (sem : MP.Env → DS → R D) : TE := TD X.K U.cls U.xf F W sem
abbrev TBx (U : Wd) (X : Cx) (F : List Addr) (W : WX) (sem : MP.Env → DS → R Bool) : TT := TB X.K U.cls U.xf F W sem
abbrev TLx (U : Wd) (X : Cx) (F : List Addr) (W : WX) (sem : MP.Env → DS → R (List D)) : TA := TLs X.K U.cls U.xf F W sem
theorem k_var {i : Nat} {x : Str} {p : Pos} (hN : X.N[i]? = some x) (hv : Vis X.env.scope x) (hd : (x == ("__debug__" : Str)) = false) (hc : (x == ("__classdict__" : Str)) = false) :
    PE X (.Name x p) (TDx U X F W fun ρ st => R.of (getV ρ i) st) :=
  pe_imp (pe_var hN hv hd hc) fun σ H Q ⟨ρ, st, μ, hE, hS, hP⟩ => by
    obtain ⟨d, e, k⟩ := Post.of hP
    obtain ⟨v, a, r⟩ := hE.at e
    exact ⟨v, a, k μ H v .refl hS r⟩
theorem k_lit {d : D} {c : Const} {k : Nat} {p : Pos} (h : constB d c = true) : PE X (.Constant c k p) (TDx U X F W fun _ st => .ok d st) := by
  have go : ∀ v, (∀ μ H, Rel X.K F μ H d v) → PE X (.Constant c k p) (tC v) → PE X (.Constant c k p) (TDx U X F W fun _ st => .ok d st) := fun v hr hp =>
    pe_imp hp fun σ H Q ⟨ρ, st, μ, hE, hS, hP⟩ => hP μ H v .refl hS (hr μ H)
  unfold constB at h
  split at h
  · exact go _ (fun _ _ => .non) pe_non
  · rw [beq_iff_eq] at h; subst h; exact go _ (fun _ _ => .bl _) pe_bl
  · rw [beq_iff_eq] at h; subst h; exact go _ (fun _ _ => .int _) pe_int
  · rw [decide_eq_true_eq] at h; subst h; exact go _ (fun _ _ => .str _) pe_str
  · cases h
theorem k_bin {op : BOp} {a b : Expr} {p : Pos} {sa sb : MP.Env → DS → R D} (ha : PE X a (TDx U X F W sa)) (hb : PE X b (TDx U X F W sb)) :
    PE X (.BinOp a (toOp op) b p) (TDx U X F W fun ρ st => (sa ρ st).bind fun x st1 => (sb ρ st1).bind fun y st2 => R.of (binD op st2 x y) st2) :=
  pe_imp (pe_op (bin_ok (cls := U.cls) (F := F) op) ha hb) fun σ H Q ⟨ρ, st, μ, hE, hS, hP⟩ =>
    RD.bind hE hS hP fun d1 st1 μ1 H1 v1 x1 S1 r1 E1 P1 => RD.bind E1 S1 P1 fun d2 st2 μ2 H2 v2 x2 S2 r2 E2 P2 => by
      obtain ⟨d, e, k⟩ := Post.of P2
      exact ⟨μ2, st2, d1, d2, d, S2, r1.up x2, r2, e, k⟩
theorem k_neg {a : Expr} {p : Pos} {sa : MP.Env → DS → R D} (ha : PE X a (TDx U X F W sa)) :
    PE X (.UnaryOp .USub a p) (TDx U X F W fun ρ st => (sa ρ st).bind fun x st1 => match x with | .int i => .ok (.int (-i)) st1 | _ => .bad) :=
  pe_imp (pe_un un_neg ha) fun σ H Q ⟨ρ, st, μ, hE, hS, hP⟩ => RD.bind hE hS hP fun d1 st1 μ1 H1 v1 x1 S1 r1 E1 P1 => by
    cases d1 <;> first | exact P1.elim | skip
    cases r1
    exact ⟨_, rfl, P1 μ1 H1 _ .refl S1 (.int _)⟩
theorem k_not {a : Expr} {p : Pos} {sa : MP.Env → DS → R D} (ha : PE X a (TDx U X F W sa)) :
    PE X (.UnaryOp .Not a p) (TDx U X F W fun ρ st => (sa ρ st).bind fun x st1 => (R.of (truD st1 x) st1).bind fun k st2 => .ok (.bl (!k)) st2) :=
  pe_imp (pe_notT ha) fun σ H Q ⟨ρ, st, μ, hE, hS, hP⟩ => RD.bind hE hS hP fun d1 st1 μ1 H1 v1 x1 S1 r1 E1 P1 => by
    obtain ⟨k, e, P2⟩ := Post.ofBind P1
    exact ⟨k, tru_rel S1 r1 e, P2 μ1 H1 _ .refl S1 (.bl _)⟩
theorem k_and {a b : Expr} {r : List Expr} {p : Pos} {sa sb : MP.Env → DS → R D} (ha : PE X a (TDx U X F W sa)) (hb : PE X (.BoolOp .And (b :: r) p) (TDx U X F W sb)) :
    PE X (.BoolOp .And (a :: b :: r) p) (TDx U X F W fun ρ st => (sa ρ st).bind fun x st1 => (R.of (truD st1 x) st1).bind fun k st2 => if k then sb ρ st2 else .ok x st2) :=
  pe_imp (pe_andT ha hb) fun σ H Q ⟨ρ, st, μ, hE, hS, hP⟩ => RD.bind hE hS hP fun d1 st1 μ1 H1 v1 x1 S1 r1 E1 P1 => by
    obtain ⟨k, e, P2⟩ := Post.ofBind P1
    refine ⟨k, tru_rel S1 r1 e, ?_⟩
    cases k with
    | true => exact ⟨ρ, st1, μ1, E1, S1, P2⟩
    | false => exact P2 μ1 H1 _ .refl S1 r1
theorem k_or {a b : Expr} {r : List Expr} {p : Pos} {sa sb : MP.Env → DS → R D} (ha : PE X a (TDx U X F W sa)) (hb : PE X (.BoolOp .Or (b :: r) p) (TDx U X F W sb)) :
    PE X (.BoolOp .Or (a :: b :: r) p) (TDx U X F W fun ρ st => (sa ρ st).bind fun x st1 => (R.of (truD st1 x) st1).bind fun k st2 => if k then .ok x st2 else sb ρ st2) :=
  pe_imp (pe_orT ha hb) fun σ H Q ⟨ρ, st, μ, hE, hS, hP⟩ => RD.bind hE hS hP fun d1 st1 μ1 H1 v1 x1 S1 r1 E1 P1 => by
    obtain ⟨k, e, P2⟩ := Post.ofBind P1
    refine ⟨k, tru_rel S1 r1 e, ?_⟩
    cases k with
    | false => exact ⟨ρ, st1, μ1, E1, S1, P2⟩
    | true => exact P2 μ1 H1 _ .refl S1 r1
theorem k_cmp {op : COp} {a b : Expr} {p : Pos} {sa sb : MP.Env → DS → R D} (g : Good X) (ha : PE X a (TDx U X F W sa)) (hb : PE X b (TDx U X F W sb)) (hm : behindInMarks (toCmp op) b = false) :
    PE X (.Compare a [toCmp op] [b] p) (TDx U X F W fun ρ st => (sa ρ st).bind fun x st1 => (sb ρ st1).bind fun y st2 => (R.of (cmpD op st2 x y) st2).bind fun k st3 => .ok (.bl k) st3) :=
  pe_imp (pe_cmpR (cmp_ok (cls := U.cls) (F := F) (by have := g.hu; omega) op) ha hb hm) fun σ H Q ⟨ρ, st, μ, hE, hS, hP⟩ =>
    RD.bind hE hS hP fun d1 st1 μ1 H1 v1 x1 S1 r1 E1 P1 => RD.bind E1 S1 P1 fun d2 st2 μ2 H2 v2 x2 S2 r2 E2 P2 => by
      obtain ⟨k, e, P3⟩ := Post.ofBind P2
      exact ⟨μ2, st2, d1, d2, k, S2, r1.up x2, r2, e, P3 μ2 H2 _ .refl S2 (.bl _)⟩
theorem k_cmpT {op : COp} {a b : Expr} {p : Pos} {sa sb : MP.Env → DS → R D} (g : Good X) (ha : PE X a (TDx U X F W sa)) (hb : PE X b (TDx U X F W sb)) (hm : behindInMarks (toCmp op) b = false) :
    PT X (.Compare a [toCmp op] [b] p) (TBx U X F W fun ρ st => (sa ρ st).bind fun x st1 => (sb ρ st1).bind fun y st2 => R.of (cmpD op st2 x y) st2) :=
  pt_imp (pt_cmpR (cmp_ok (cls := U.cls) (F := F) (by have := g.hu; omega) op) ha hb hm) fun σ H Q ⟨ρ, st, μ, hE, hS, hP⟩ =>
    RD.bind hE hS hP fun d1 st1 μ1 H1 v1 x1 S1 r1 E1 P1 => RD.bind E1 S1 P1 fun d2 st2 μ2 H2 v2 x2 S2 r2 E2 P2 => by
      obtain ⟨k, e, P3⟩ := Post.of P2
      exact ⟨μ2, st2, d1, d2, k, S2, r1.up x2, r2, e, k, rfl, P3 μ2 H2 _ .refl S2 rfl⟩
theorem k_chain {o1 o2 : COp} {a b c : Expr} {p : Pos} {sa sb sc : MP.Env → DS → R D} (g : Good X) (ha : PE X a (TDx U X F W sa)) (hb : PE X b (TDx U X F W sb)) (hc : PE X c (TDx U X F W sc)) (hm : lastMarks [toCmp o1, toCmp o2] [b, c] = false) :
    PE X (.Compare a [toCmp o1, toCmp o2] [b, c] p) (TDx U X F W fun ρ st => (sa ρ st).bind fun x st1 => (sb ρ st1).bind fun y st2 => (R.of (cmpD o1 st2 x y) st2).bind fun k st3 =>
      if k then (sc ρ st3).bind fun z st4 => (R.of (cmpD o2 st4 y z) st4).bind fun k st5 => .ok (.bl k) st5 else .ok (.bl false) st3) :=
  pe_imp (pe_chain (cmp_ok (cls := U.cls) (F := F) (by have := g.hu; omega) o1) (cmp_ok (cls := U.cls) (F := F) (by have := g.hu; omega) o2) ha hb hc hm) fun σ H Q ⟨ρ, st, μ, hE, hS, hP⟩ =>
    RD.bind hE hS hP fun d1 st1 μ1 H1 v1 x1 S1 r1 E1 P1 => RD.bind E1 S1 P1 fun d2 st2 μ2 H2 v2 x2 S2 r2 E2 P2 => by
      obtain ⟨k, e, P3⟩ := Post.ofBind P2
      refine ⟨μ2, st2, d1, d2, k, S2, r1.up x2, r2, e, k, rfl, ?_⟩
      cases k with
      | false => exact P3 μ2 H2 _ .refl S2 (.bl _)
      | true =>
        refine RD.bind E2 S2 P3 fun d3 st3 μ3 H3 v3 x3 S3 r3 E3 P4 => ?_
        obtain ⟨k, e, P5⟩ := Post.ofBind P4
        exact ⟨μ3, st3, d2, d3, k, S3, r2.up x3, r3, e, P5 μ3 H3 _ .refl S3 (.bl _)⟩
theorem k_chainT {o1 o2 : COp} {a b c : Expr} {p : Pos} {sa sb sc : MP.Env → DS → R D} (g : Good X) (ha : PE X a (TDx U X F W sa)) (hb : PE X b (TDx U X F W sb)) (hc : PE X c (TDx U X F W sc)) (hm : lastMarks [toCmp o1, toCmp o2] [b, c] = false) :
    PT X (.Compare a [toCmp o1, toCmp o2] [b, c] p) (TBx U X F W fun ρ st => (sa ρ st).bind fun x st1 => (sb ρ st1).bind fun y st2 => (R.of (cmpD o1 st2 x y) st2).bind fun k st3 =>
      if k then (sc ρ st3).bind fun z st4 => R.of (cmpD o2 st4 y z) st4 else .ok false st3) :=
  pt_imp (pt_chain (cmp_ok (cls := U.cls) (F := F) (by have := g.hu; omega) o1) (cmp_ok (cls := U.cls) (F := F) (by have := g.hu; omega) o2) ha hb hc hm) fun σ H Q ⟨ρ, st, μ, hE, hS, hP⟩ =>
    RD.bind hE hS hP fun d1 st1 μ1 H1 v1 x1 S1 r1 E1 P1 => RD.bind E1 S1 P1 fun d2 st2 μ2 H2 v2 x2 S2 r2 E2 P2 => by
      obtain ⟨k, e, P3⟩ := Post.ofBind P2
      refine ⟨μ2, st2, d1, d2, k, S2, r1.up x2, r2, e, k, rfl, ?_⟩
      cases k with
      | false => exact ⟨false, rfl, P3 μ2 H2 _ .refl S2 rfl⟩
      | true =>
        refine RD.bind E2 S2 P3 fun d3 st3 μ3 H3 v3 x3 S3 r3 E3 P4 => ?_
        obtain ⟨k, e, P5⟩ := Post.of P4
        exact ⟨μ3, st3, d2, d3, k, S3, r2.up x3, r3, e, k, rfl, P5 μ3 H3 _ .refl S3 rfl⟩
theorem isN_rel {K : PySem.W.Frag} {μ : List Addr} {H : Hp} {d : D} {v : V} (r : Rel K F μ H d v) : decide (v = V.non) = isNon d := by
  cases r <;> simp [isNon]
theorem k_isN {ng : Bool} {a : Expr} {o : CmpOp} {k : Nat} {p p2 : Pos} {sa : MP.Env → DS → R D} (ha : PE X a (TDx U X F W sa)) (ho : (match ng, o with | false, .Is => true | true, .IsNot => true | _, _ => false) = true) :
    PE X (.Compare a [o] [.Constant .none k p2] p) (TDx U X F W fun ρ st => (sa ρ st).bind fun x st1 => .ok (.bl (xor ng (isNon x))) st1) := by
  split at ho
  · refine pe_imp (pe_cmp (pc_isN ha)) fun σ H Q ⟨ρ, st, μ, hE, hS, hP⟩ => RD.bind hE hS hP fun d1 st1 μ1 H1 v1 x1 S1 r1 E1 P1 => ?_
    rw [isN_rel r1]
    simpa using P1 μ1 H1 _ .refl S1 (.bl _)
  · refine pe_imp (pe_cmp (pc_notN ha)) fun σ H Q ⟨ρ, st, μ, hE, hS, hP⟩ => RD.bind hE hS hP fun d1 st1 μ1 H1 v1 x1 S1 r1 E1 P1 => ?_
    rw [isN_rel r1]
    simpa using P1 μ1 H1 _ .refl S1 (.bl _)
  · cases ho
theorem k_isNT {ng : Bool} {a : Expr} {o : CmpOp} {k : Nat} {p p2 : Pos} {sa : MP.Env → DS → R D} (ha : PE X a (TDx U X F W sa)) (ho : (match ng, o with | false, .Is => true | true, .IsNot => true | _, _ => false) = true) :
    PT X (.Compare a [o] [.Constant .none k p2] p) (TBx U X F W fun ρ st => (sa ρ st).bind fun x st1 => .ok (xor ng (isNon x)) st1) := by
  split at ho
  · refine pt_imp (pt_cmp (pc_isN ha)) fun σ H Q ⟨ρ, st, μ, hE, hS, hP⟩ => RD.bind hE hS hP fun d1 st1 μ1 H1 v1 x1 S1 r1 E1 P1 => ?_
    rw [isN_rel r1]
    exact ⟨_, rfl, by simpa using P1 μ1 H1 _ .refl S1 rfl⟩
  · refine pt_imp (pt_cmp (pc_notN ha)) fun σ H Q ⟨ρ, st, μ, hE, hS, hP⟩ => RD.bind hE hS hP fun d1 st1 μ1 H1 v1 x1 S1 r1 E1 P1 => ?_
    rw [isN_rel r1]
    exact ⟨_, rfl, by simpa using P1 μ1 H1 _ .refl S1 rfl⟩
  · cases ho
theorem k_ife {c a b : Expr} {p : Pos} {sc : MP.Env → DS → R Bool} {sa sb : MP.Env → DS → R D} (hc : PT X c (TBx U X F W sc)) (ha : PE X a (TDx U X F W sa)) (hb : PE X b (TDx U X F W sb)) :
    PE X (.IfExp c a b p) (TDx U X F W fun ρ st => (sc ρ st).bind fun k st1 => if k then sa ρ st1 else sb ρ st1) :=
  pe_imp (pe_ifExp hc ha hb) fun σ H Q ⟨ρ, st, μ, hE, hS, hP⟩ => RD.bind hE hS hP fun k st1 μ1 H1 k' x1 S1 r1 E1 P1 => by
    cases r1
    cases k with
    | true => exact ⟨ρ, st1, μ1, E1, S1, P1⟩
    | false => exact ⟨ρ, st1, μ1, E1, S1, P1⟩
theorem k_nil : PA X [] (TLx U X F W fun _ st => .ok [] st) := pa_imp pa_nil fun σ H Q ⟨ρ, st, μ, hE, hS, hP⟩ => hP μ H [] .refl hS .nil
theorem k_cons {e : Expr} {es : List Expr} {sa : MP.Env → DS → R D} {sr : MP.Env → DS → R (List D)} (hn : noStar e = true) (ha : PE X e (TDx U X F W sa)) (hr : PA X es (TLx U X F W sr)) :
    PA X (e :: es) (TLx U X F W fun ρ st => (sa ρ st).bind fun x st1 => (sr ρ st1).bind fun xs st2 => .ok (x :: xs) st2) :=
  pa_imp (pa_cons ha hr (star1 hn)) fun σ H Q ⟨ρ, st, μ, hE, hS, hP⟩ => RD.bind hE hS hP fun d1 st1 μ1 H1 v1 x1 S1 r1 E1 P1 => RD.bind E1 S1 P1 fun d2 st2 μ2 H2 v2 x2 S2 r2 E2 P2 =>
    P2 μ2 H2 _ .refl S2 (.cons (r1.up x2) r2)
theorem k_tup {es : List Expr} {k : Nat} {p : Pos} {sr : MP.Env → DS → R (List D)} (hr : PA X es (TLx U X F W sr)) :
    PE X (.Tuple es k p) (TDx U X F W fun ρ st => (sr ρ st).bind fun xs st1 => if xs.length ≤ sizeLine then .ok (.tup xs) st1 else .bad) :=
  pe_imp (pe_tup hr) fun σ H Q ⟨ρ, st, μ, hE, hS, hP⟩ => RD.bind hE hS hP fun ds st1 μ1 H1 vs x1 S1 r1 E1 P1 => by
    split at P1
    · rename_i hl
      exact ⟨by rw [← r1.length]; exact hl, fun q hq => P1 μ1 _ _ (ext_new hq) (S1.new hq) (new_tup S1 hq r1)⟩
    · exact P1.elim
theorem k_tupX {es : List Expr} {k : Nat} {p : Pos} {sr : MP.Env → DS → R (List D)} (hr : PA X es (TLx U X F W sr)) :
    PE X (.Tuple es k p) (TDx U X F W fun ρ st => (sr ρ st).bind fun xs st1 => if xs.length ≤ sizeLine then .ok (.tup xs) st1 else .bad) := k_tup hr
theorem k_lst {m : Bool} {es : List Expr} {p : Pos} {sr : MP.Env → DS → R (List D)} (hr : PA X es (TLx U X F W sr)) :
    PE X (.List es p) (TDx U X F W fun ρ st => (sr ρ st).bind fun xs st1 => if xs.length ≤ sizeLine then newL m xs st1 else .bad) :=
  pe_imp (pe_lst hr) fun σ H Q ⟨ρ, st, μ, hE, hS, hP⟩ => RD.bind hE hS hP fun ds st1 μ1 H1 vs x1 S1 r1 E1 P1 => by
    split at P1
    · rename_i hl
      exact ⟨by rw [← r1.length]; exact hl, fun q hq => newL_ok S1 r1 P1 hq⟩
    · exact P1.elim
theorem k_ix {a b : Expr} {p : Pos} {sa sb : MP.Env → DS → R D} (hi : plainIx b = true) (ha : PE X a (TDx U X F W sa)) (hb : PE X b (TDx U X F W sb)) :
    PE X (.Subscript a b p) (TDx U X F W fun ρ st => (sa ρ st).bind fun x st1 => (sb ρ st1).bind fun y st2 => R.of (ixD st2 x y) st2) :=
  pe_imp (pe_ix (ix_ok (cls := U.cls) (F := F)) ha hb (plainIx_eq hi)) fun σ H Q ⟨ρ, st, μ, hE, hS, hP⟩ =>
    RD.bind hE hS hP fun d1 st1 μ1 H1 v1 x1 S1 r1 E1 P1 => RD.bind E1 S1 P1 fun d2 st2 μ2 H2 v2 x2 S2 r2 E2 P2 => by
      obtain ⟨d, e, k⟩ := Post.of P2
      exact ⟨μ2, st2, d1, d2, d, S2, r1.up x2, r2, e, fun v r => k μ2 H2 v .refl S2 r⟩
/-- a dict asked -/
theorem dixD_some {st : DS} {x y d : D} (h : dixD st x y = some d) : ∃ kvs k l, dicD st x = some kvs ∧ keyOf y = some k ∧ keysOf kvs = some l ∧ findK k l = some d := by
  unfold dixD at h
  split at h
  · rename_i kvs k e1 e2
    split at h
    · rename_i l e3
      exact ⟨kvs, k, l, e1, e2, e3, h⟩
    · cases h
  · cases h
theorem dinD_some {st : DS} {x y : D} {b : Bool} (h : dinD st x y = some b) : ∃ kvs k l, dicD st y = some kvs ∧ keyOf x = some k ∧ keysOf kvs = some l ∧ (findK k l).isSome = b := by
  unfold dinD at h
  split at h
  · rename_i kvs k e1 e2
    split at h
    · rename_i l e3
      cases h
      exact ⟨kvs, k, l, e1, e2, e3, rfl⟩
    · cases h
  · cases h
theorem k_dix {a b : Expr} {p : Pos} {sa sb : MP.Env → DS → R D} (g : Good X) (hi : plainIx b = true) (ha : PE X a (TDx U X F W sa)) (hb : PE X b (TDx U X F W sb)) :
    PE X (.Subscript a b p) (TDx U X F W fun ρ st => (sa ρ st).bind fun x st1 => (sb ρ st1).bind fun y st2 => R.of (dixD st2 x y) st2) :=
  pe_imp (pe_dget (by have := g.hu; omega) ha hb (plainNo_eq hi)) fun σ H Q ⟨ρ, st, μ, hE, hS, hP⟩ =>
    RD.bind hE hS hP fun d1 st1 μ1 H1 v1 x1 S1 r1 E1 P1 => RD.bind E1 S1 P1 fun d2 st2 μ2 H2 v2 x2 S2 r2 E2 P2 => by
      obtain ⟨d, e, k⟩ := Post.of P2
      obtain ⟨kvs, key, l, h1, h2, h3, h4⟩ := dixD_some e
      obtain ⟨a', o, rfl, hg, _, hz⟩ := dget_rel S2 (r1.up x2) r2 h1 h2 h3
      rcases hz with ⟨z, _⟩ | ⟨d', w, z1, z2, z3⟩
      · rw [h4] at z; cases z
      · rw [h4] at z1; cases z1
        subst z2
        exact ⟨a', w, rfl, hg, k μ2 H2 w .refl S2 z3⟩
theorem k_din {ng : Bool} {a b : Expr} {o : CmpOp} {p : Pos} {sa sb : MP.Env → DS → R D} (g : Good X) (ha : PE X a (TDx U X F W sa)) (hb : PE X b (TDx U X F W sb)) (ho : (match ng, o with | false, .In => true | true, .NotIn => true | _, _ => false) = true) (hm : behindInMarks o b = false) :
    PE X (.Compare a [o] [b] p) (TDx U X F W fun ρ st => (sa ρ st).bind fun x st1 => (sb ρ st1).bind fun y st2 => (R.of (dinD st2 x y) st2).bind fun k st3 => .ok (.bl (xor ng k)) st3) := by
  have key : ∀ σ H Q ρ st μ, EnvRel X.K F μ H ρ σ → StRel X.K U.cls F μ H st → Post X.K U.cls U.xf F (rlD X.K F) W σ μ H ((sa ρ st).bind fun x st1 => (sb ρ st1).bind fun y st2 => (R.of (dinD st2 x y) st2).bind fun k st3 => .ok (.bl (xor ng k)) st3) Q →
      TDx U X F W sa σ H fun y H1 => TDx U X F W sb σ H1 fun x H2 => ∃ a o, x = .ref a ∧ DGet H2 a y o ∧ Q (.bl (xor ng o.isSome)) H2 := fun σ H Q ρ st μ hE hS hP =>
    RD.bind hE hS hP fun d1 st1 μ1 H1 v1 x1 S1 r1 E1 P1 => RD.bind E1 S1 P1 fun d2 st2 μ2 H2 v2 x2 S2 r2 E2 P2 => by
      obtain ⟨k, e, P3⟩ := Post.ofBind P2
      obtain ⟨kvs, key, l, h1, h2, h3, h4⟩ := dinD_some e
      obtain ⟨a', o, rfl, hg, _, hz⟩ := dget_rel S2 r2 (r1.up x2) h1 h2 h3
      refine ⟨a', o, rfl, hg, ?_⟩
      have eo : o.isSome = k := by
        rcases hz with ⟨z1, z2⟩ | ⟨d', w, z1, z2, z3⟩
        · rw [z2, ← h4, z1]; rfl
        · rw [z2, ← h4, z1]; rfl
      rw [eo]
      exact P3 μ2 H2 _ .refl S2 (.bl _)
  split at ho
  · refine pe_imp (pe_cmp (pc_din (by have := g.hu; omega) ha hb) hm) fun σ H Q ⟨ρ, st, μ, hE, hS, hP⟩ => ?_
    have z := key σ H Q ρ st μ hE hS hP
    simp only [Bool.false_xor] at z
    exact z
  · refine pe_imp (pe_cmp (pc_dnotin (by have := g.hu; omega) ha hb) hm) fun σ H Q ⟨ρ, st, μ, hE, hS, hP⟩ => ?_
    have z := key σ H Q ρ st μ hE hS hP
    simp only [Bool.true_xor] at z
    exact z
  · cases ho
theorem k_dinT {ng : Bool} {a b : Expr} {o : CmpOp} {p : Pos} {sa sb : MP.Env → DS → R D} (g : Good X) (ha : PE X a (TDx U X F W sa)) (hb : PE X b (TDx U X F W sb)) (ho : (match ng, o with | false, .In => true | true, .NotIn => true | _, _ => false) = true) (hm : behindInMarks o b = false) :
    PT X (.Compare a [o] [b] p) (TBx U X F W fun ρ st => (sa ρ st).bind fun x st1 => (sb ρ st1).bind fun y st2 => (R.of (dinD st2 x y) st2).bind fun k st3 => .ok (xor ng k) st3) := by
  have key : ∀ σ H Q ρ st μ, EnvRel X.K F μ H ρ σ → StRel X.K U.cls F μ H st → Post X.K U.cls U.xf F rlB W σ μ H ((sa ρ st).bind fun x st1 => (sb ρ st1).bind fun y st2 => (R.of (dinD st2 x y) st2).bind fun k st3 => .ok (xor ng k) st3) Q →
      TDx U X F W sa σ H fun y H1 => TDx U X F W sb σ H1 fun x H2 => ∃ a o, x = .ref a ∧ DGet H2 a y o ∧ ∃ c, V.bl (xor ng o.isSome) = V.bl c ∧ Q c H2 := fun σ H Q ρ st μ hE hS hP =>
    RD.bind hE hS hP fun d1 st1 μ1 H1 v1 x1 S1 r1 E1 P1 => RD.bind E1 S1 P1 fun d2 st2 μ2 H2 v2 x2 S2 r2 E2 P2 => by
      obtain ⟨k, e, P3⟩ := Post.ofBind P2
      obtain ⟨kvs, key, l, h1, h2, h3, h4⟩ := dinD_some e
      obtain ⟨a', o, rfl, hg, _, hz⟩ := dget_rel S2 r2 (r1.up x2) h1 h2 h3
      refine ⟨a', o, rfl, hg, ?_⟩
      have eo : o.isSome = k := by
        rcases hz with ⟨z1, z2⟩ | ⟨d', w, z1, z2, z3⟩
        · rw [z2, ← h4, z1]; rfl
        · rw [z2, ← h4, z1]; rfl
      rw [eo]
      exact ⟨_, rfl, P3 μ2 H2 _ .refl S2 rfl⟩
  split at ho
  · refine pt_imp (pt_cmp (pc_din (by have := g.hu; omega) ha hb) hm) fun σ H Q ⟨ρ, st, μ, hE, hS, hP⟩ => ?_
    have z := key σ H Q ρ st μ hE hS hP
    simp only [Bool.false_xor] at z
    exact z
  · refine pt_imp (pt_cmp (pc_dnotin (by have := g.hu; omega) ha hb) hm) fun σ H Q ⟨ρ, st, μ, hE, hS, hP⟩ => ?_
    have z := key σ H Q ρ st μ hE hS hP
    simp only [Bool.true_xor] at z
    exact z
  · cases ho
theorem k_call (c : Ctx U n W X) {f : Nat} {fd : FDef} {x : Expr} {xs : List Expr} {p pos : Pos} {sr : MP.Env → DS → R (List D)} (hf : U.Pg f = some fd) (hgl : fd.gl = true) (hg : Gl X fd.nm) (hd : (fd.nm == ("__debug__" : Str)) = false)
    (hn : (x :: xs).all noStar = true) (hr : PA X (x :: xs) (TLx U X F W sr)) (hl : ∀ ρ st ds st1, sr ρ st = .ok ds st1 → ds.length = fd.np) :
    PE X (.Call (.Name fd.nm p) (x :: xs) [] pos) (TDx U X F W fun ρ st => (sr ρ st).bind fun ds st1 => callN U.Pg n f ds st1) := by
  refine ⟨fun pins s σ H Q I ⟨ρ, st, μ, hE, hS, hP⟩ => ?_⟩
  obtain ⟨hm, hk⟩ := c.gls.fn f fd hf hgl
  have hn' := hn
  simp only [List.all_cons, Bool.and_eq_true] at hn'
  refine wpAny_Call_Name_kw (ld_glob I hg hm ?_ hd)
  have q : TLx U X F W sr σ H fun vs H1 => ∃ μ1 st1 ds, StRel X.K U.cls F μ1 H1 st1 ∧ RelL X.K F μ1 H1 ds vs ∧ ds.length = fd.np ∧ Post X.K U.cls U.xf F (rlD X.K F) W σ μ1 H1 (callN U.Pg n f ds st1) Q := by
    refine ⟨ρ, st, μ, hE, hS, ?_⟩
    have hP : Post X.K U.cls U.xf F (rlD X.K F) W σ μ H ((sr ρ st).bind fun ds st1 => callN U.Pg n f ds st1) Q := hP
    cases e : sr ρ st with
    | ok ds st1 =>
      rw [e] at hP
      exact fun μ1 H1 vs x1 S1 r1 => ⟨μ1, st1, ds, S1, r1, hl ρ st ds st1 e, Post.shift x1 hP⟩
    | exc a b st1 => rw [e] at hP; exact hP
    | bad => rw [e] at hP; exact hP.elim
  refine PySem.W.callWith_K (h₀ := X.base) I.ok.mod.kin hk (thn (hr.run pos pins s σ H _ I q) fun us s1 ⟨vs, H1, I1, r, μ1, st1, ds, S1, rd, l1, P1⟩ => ⟨I1.kIn, ?_⟩) (star1 hn'.1) (star_plain hn'.2)
  exact call_ok c hf I1 r S1 rd l1 P1
/-- f() -/
theorem k_call0 (c : Ctx U n W X) {f : Nat} {fd : FDef} {p pos : Pos} (hf : U.Pg f = some fd) (hgl : fd.gl = true) (hg : Gl X fd.nm) (hd : (fd.nm == ("__debug__" : Str)) = false) (hl : fd.np = 0) :
    PE X (.Call (.Name fd.nm p) [] [] pos) (TDx U X F W fun ρ st => callN U.Pg n f [] st) := by
  refine ⟨fun pins s σ H Q I ⟨ρ, st, μ, hE, hS, hP⟩ => ?_⟩
  obtain ⟨hm, hk⟩ := c.gls.fn f fd hf hgl
  refine wpAny_Call_Name_kw (ld_glob I hg hm ?_ hd)
  exact PySem.W.callWith_K0 I.kIn hk (call_ok c hf I .nil hS .nil hl.symm hP)
/-- items, some of them spread -/
theorem k_star {e : Expr} {es : List Expr} {sp : Pos} {sa : MP.Env → DS → R D} {sr : MP.Env → DS → R (List D)} (ha : PE X e (TDx U X F W sa)) (hr : PA X es (TLx U X F W sr)) :
    PA X (.Starred e sp :: es) (TLx U X F W fun ρ st => (sa ρ st).bind fun x st1 => match seqD st1 x with | some ys => (sr ρ st1).bind fun xs st2 => .ok (ys ++ xs) st2 | none => .bad) :=
  pa_imp (StX.pa_star ha hr) fun σ H Q ⟨ρ, st, μ, hE, hS, hP⟩ => RD.bind hE hS hP fun d1 st1 μ1 H1 v1 x1 S1 r1 E1 P1 => by
    split at P1
    · rename_i ys hs
      obtain ⟨a, vs, rfl, r2, sq⟩ := seq_rel S1 r1 hs
      exact ⟨a, vs, rfl, sq.symm, RD.bind E1 S1 P1 fun d2 st2 μ2 H2 v2 x2 S2 r3 E2 P2 => P2 μ2 H2 _ .refl S2 ((RelL.mono x2 _ _ r2).append r3)⟩
    · exact P1.elim
end
end MP

set_option Elab.async false
set_option linter.all false
set_option maxRecDepth 100000
set_option maxHeartbeats 4000000
namespace MP
open PySem L2 PyProof.Rows
section
variable {U : Wd} {n : Nat} {W : WX} {X : Cx} {F : List Addr}
/-! ### built-ins -/
def biM (mg : Str → Option Value) : BI → Prop
  | .gcd => mg "gcd" = some (.builtin "math.gcd")
  | .isqrt => mg "isqrt" = some (.builtin "math.isqrt")
  | _ => True
theorem k_bi (c : Ctx U n W X) {b : BI} {x : Expr} {xs : List Expr} {p pos : Pos} {sr : MP.Env → DS → R (List D)} (hg : Gl X (biN b)) (hm : biM X.mg b)
    (hn : (x :: xs).all noStar = true) (hr : PA X (x :: xs) (TLx U X F W sr)) :
    PE X (.Call (.Name (biN b) p) (x :: xs) [] pos) (TDx U X F W fun ρ st => (sr ρ st).bind fun ds st1 => R.of (biD b st1 ds) st1) := by
  have hn' := hn
  simp only [List.all_cons, Bool.and_eq_true] at hn'
  have s1 : starEach (x :: xs) X.env = (false, PySem.eval x X.env) :: starEach xs X.env := star1 hn'.1
  have s2 : (backTo pos (starEach xs X.env)).any (·.1) = false := star_plain hn'.2
  have cr := bi_ok (cls := U.cls) (F := F) c.good c.calm b
  have imp : ∀ σ H Q, TDx U X F W (fun ρ st => (sr ρ st).bind fun ds st1 => R.of (biD b st1 ds) st1) σ H Q → tCB (rBi X.K U.cls F b) (TLx U X F W sr) σ H Q := fun σ H Q ⟨ρ, st, μ, hE, hS, hP⟩ =>
    RD.bind hE hS hP fun ds st1 μ1 H1 vs x1 S1 r1 E1 P1 => by
      obtain ⟨d, e, k⟩ := Post.of P1
      exact ⟨μ1, st1, ds, d, S1, r1, e, k⟩
  cases b with
  | abs => exact pe_imp (pe_callB cr hg (c.gls.bi _ (by simp [biN])) (by decide +kernel) hr (he := s1) (hpl := s2)) imp
  | len => exact pe_imp (pe_callB cr hg (c.gls.bi _ (by simp [biN])) (by decide +kernel) hr (he := s1) (hpl := s2)) imp
  | max => exact pe_imp (pe_callB cr hg (c.gls.bi _ (by simp [biN])) (by decide +kernel) hr (he := s1) (hpl := s2)) imp
  | min => exact pe_imp (pe_callB cr hg (c.gls.bi _ (by simp [biN])) (by decide +kernel) hr (he := s1) (hpl := s2)) imp
  | int => exact pe_imp (pe_callTy cr hg (c.gls.bi _ (by simp [biN])) (by decide +kernel) hr (he := s1) (hpl := s2)) imp
  | str => exact pe_imp (pe_callTy cr hg (c.gls.bi _ (by simp [biN])) (by decide +kernel) hr (he := s1) (hpl := s2)) imp
  | repr => exact pe_imp (pe_callB cr hg (c.gls.bi _ (by simp [biN])) (by decide +kernel) hr (he := s1) (hpl := s2)) imp
  | gcd => exact pe_imp (pe_callBfun cr hg hm hr (he := s1) (hpl := s2)) imp
  | isqrt => exact pe_imp (pe_callBfun cr hg hm hr (he := s1) (hpl := s2)) imp
  | tuple => exact pe_imp (pe_callTy cr hg (c.gls.bi _ (by simp [biN])) (by decide +kernel) hr (he := s1) (hpl := s2)) imp
  | all => exact pe_imp (pe_callB cr hg (c.gls.bi _ (by simp [biN])) (by decide +kernel) hr (he := s1) (hpl := s2)) imp
  | any => exact pe_imp (pe_callB cr hg (c.gls.bi _ (by simp [biN])) (by decide +kernel) hr (he := s1) (hpl := s2)) imp
  | sum => exact pe_imp (pe_callB cr hg (c.gls.bi _ (by simp [biN])) (by decide +kernel) hr (he := s1) (hpl := s2)) imp
/-! ### isinstance -/
theorem isa_rel {K : PySem.W.Frag} {cls : Cl} {F μ : List Addr} {H : Hp} {st : DS} (S : StRel K cls F μ H st) {d : D} {v : V} {t : IT} {b : Bool} (r : Rel K F μ H d v) (h : isaD st t d = some b) : ∃ ty, TyX K H v ty ∧ PySem.W.kitOne K ty (.type (itS t)) = some b := by
  cases r with
  | non => cases h; exact ⟨_, .base .non, by cases t <;> exact kit_ty (by decide +kernel)⟩
  | bl => cases h; exact ⟨_, .base (.bl _), by cases t <;> exact kit_ty (by decide +kernel)⟩
  | int => cases h; exact ⟨_, .base (.int _), by cases t <;> exact kit_ty (by decide +kernel)⟩
  | str => cases h; exact ⟨_, .base (.str _), by cases t <;> exact kit_ty (by decide +kernel)⟩
  | tup h1 h2 h3 => cases h; exact ⟨_, .base (.tup h1), by cases t <;> exact kit_ty (by decide +kernel)⟩
  | tupK h1 h3 =>
    cases h
    obtain ⟨o, its, n, lk, oc, _⟩ := h1
    exact ⟨_, .kTuple lk oc, by cases t <;> exact kit_ty (by decide +kernel)⟩
  | lst h1 h2 h4 h3 => cases h; exact ⟨_, .base (.lst h1), by cases t <;> exact kit_ty (by decide +kernel)⟩
  | scr => cases h
  | scrK => cases h
  | dic h1 h2 h4 h3 => cases h; exact ⟨_, .base (.dK h1), by cases t <;> exact kit_ty (by decide +kernel)⟩
  | @ref n a hn =>
    obtain ⟨ob, e, o⟩ := S.obj n a hn
    unfold isaD at h
    dsimp only at h
    rw [e] at h
    cases ob with
    | lst ds => cases h; obtain ⟨vs, e1, e2⟩ := o; exact ⟨_, .base (.lst e1), by cases t <;> exact kit_ty (by decide +kernel)⟩
    | dic kvs => cases h; obtain ⟨vs, e1, e2⟩ := o; exact ⟨_, .base (.dK e1), by cases t <;> exact kit_ty (by decide +kernel)⟩
    | ins => cases h
theorem k_isa (c : Ctx U n W X) {t : IT} {x : Expr} {p q pos : Pos} {sa : MP.Env → DS → R D} (hg : Gl X "isinstance") (ht : Gl X (itN t)) (hn : noStar x = true) (ha : PE X x (TDx U X F W sa)) :
    PE X (.Call (.Name "isinstance" p) [x, .Name (itN t) q] [] pos) (TDx U X F W fun ρ st => (sa ρ st).bind fun x st1 => (R.of (isaD st1 t x) st1).bind fun k st2 => .ok (.bl k) st2) := by
  have ht2 : PE X (.Name (itN t) q) (tC (.ty (itS t))) := by
    cases t with
    | int => exact pe_bltn ht (c.gls.bi _ (by simp [itN])) (by decide +kernel) rfl (by decide) (by decide)
    | bool => exact pe_bltn ht (c.gls.bi _ (by simp [itN])) (by decide +kernel) rfl (by decide) (by decide)
    | tuple => exact pe_bltn ht (c.gls.bi _ (by simp [itN])) (by decide +kernel) rfl (by decide) (by decide)
    | str => exact pe_bltn ht (c.gls.bi _ (by simp [itN])) (by decide +kernel) rfl (by decide) (by decide)
    | list => exact pe_bltn ht (c.gls.bi _ (by simp [itN])) (by decide +kernel) rfl (by decide) (by decide)
  refine pe_imp (pe_callB call_isi hg (c.gls.bi _ (by simp)) (by decide +kernel) (pa_cons ha (pa_cons ht2 pa_nil (star1 rfl)) (star1 hn)) (he := star1 hn) (hpl := by simp [backTo, starEach])) fun σ H Q ⟨ρ, st, μ, hE, hS, hP⟩ =>
    RD.bind hE hS hP fun d st1 μ1 H1 v x1 S1 r1 E1 P1 => ?_
  obtain ⟨b, e, P2⟩ := Post.ofBind P1
  obtain ⟨ty, h1, h2⟩ := isa_rel S1 r1 e
  exact ⟨v, .ty (itS t), ty, .type (itS t), b, rfl, .ty _, h1, h2, P2 μ1 H1 _ .refl S1 (.bl _)⟩
/-- list(x) -/
theorem k_newl (c : Ctx U n W X) {m : Bool} {x : Expr} {p pos : Pos} {sa : MP.Env → DS → R D} (hg : Gl X "list") (hn : noStar x = true) (ha : PE X x (TDx U X F W sa)) :
    PE X (.Call (.Name "list" p) [x] [] pos) (TDx U X F W fun ρ st => (sa ρ st).bind fun x st1 => match seqD st1 x with | some xs => newL m xs st1 | none => .bad) := by
  refine pe_imp (pe_callTy call_list_of hg (c.gls.bi _ (by simp)) (by decide +kernel) (pa_cons ha pa_nil (star1 hn)) (he := star1 hn) (hpl := rfl)) fun σ H Q ⟨ρ, st, μ, hE, hS, hP⟩ =>
    RD.bind hE hS hP fun d st1 μ1 H1 v x1 S1 r1 E1 P1 => ?_
  split at P1
  · rename_i xs hs
    obtain ⟨a, vs, rfl, r2, sq⟩ := seq_rel S1 r1 hs
    exact ⟨a, vs, rfl, sq, fun q hq => newL_ok S1 r2 P1 hq⟩
  · exact P1.elim
/-! ### slices -/
def TOx (U : Wd) (X : Cx) (F : List Addr) (W : WX) (sem : MP.Env → DS → R (Option Int)) : TO := RD X.K U.cls U.xf F rlO W sem
theorem k_onone : PO X none (TOx U X F W fun _ st => .ok none st) := ⟨fun pins s σ H Q I ⟨ρ, st, μ, hE, hS, hP⟩ => po_none.run pins s σ H Q I (hP μ H none .refl hS rfl)⟩
theorem k_osome {e : Expr} {sa : MP.Env → DS → R D} (ha : PE X e (TDx U X F W sa)) : PO X (some e) (TOx U X F W fun ρ st => (sa ρ st).bind fun x st1 => match x with | .int i => .ok (some i) st1 | _ => .bad) :=
  ⟨fun pins s σ H Q I ⟨ρ, st, μ, hE, hS, hP⟩ => (po_some ha).run pins s σ H Q I (RD.bind hE hS hP fun d st1 μ1 H1 v x1 S1 r1 E1 P1 => by
    cases d <;> first | exact P1.elim | skip
    cases r1
    exact ⟨_, rfl, P1 μ1 H1 _ .refl S1 rfl⟩)⟩
theorem cutD_whole {xs : List D} {l h : Option Int} (e : HT.sIx xs.length 0 l = 0 ∧ HT.sIx xs.length xs.length h = xs.length) : cutD xs l h = xs := by
  unfold cutD
  rw [e.1, e.2]
  simp
theorem k_sl {m : Bool} {a : Expr} {lo hi : Option Expr} {p p2 : Pos} {sa : MP.Env → DS → R D} {sl sh : MP.Env → DS → R (Option Int)} (ha : PE X a (TDx U X F W sa)) (hl : PO X lo (TOx U X F W sl)) (hh : PO X hi (TOx U X F W sh)) :
    PE X (.Subscript a (.Slice lo hi none p2) p) (TDx U X F W fun ρ st => (sa ρ st).bind fun x st1 => (sl ρ st1).bind fun l st2 => (sh ρ st2).bind fun h st3 => slD m x l h st3) := by
  refine pe_imp (pe_slice (sl_tupA.or (sl_list.or sl_str)) ha hl hh) fun σ H Q ⟨ρ, st, μ, hE, hS, hP⟩ => RD.bind hE hS hP fun d st1 μ1 H1 v x1 S1 r1 E1 P1 => RD.bind E1 S1 P1 fun l st2 μ2 H2 l' x2 S2 r2 E2 P2 =>
    RD.bind E2 S2 P2 fun h st3 μ3 H3 h' x3 S3 r3 E3 P3 => ?_
  cases r2; cases r3
  have rd := (r1.up x2).up x3
  unfold slD at P3
  split at P3
  · rename_i xs
    cases m with
    | true => exact P3.elim
    | false =>
      obtain ⟨b, vs, rfl, sq, r4⟩ := tupD_rel rd
      refine .inl ⟨b, vs, rfl, sq, fun hw => ?_, fun hw q hq => ?_⟩
      · rw [← r4.length] at hw
        rw [cutD_whole hw] at P3
        exact P3 μ3 H3 _ .refl S3 rd
      · exact P3 μ3 _ _ (ext_new hq) (S3.new hq) (new_tup S3 hq (cut_rel r4 l h))
  · rename_i z
    cases m with
    | true => exact P3.elim
    | false =>
      split at P3
      · cases P3
      · split at P3
        · rename_i hz
          cases rd
          exact .inr (.inr ⟨z, rfl, hz, P3 μ3 H3 _ .refl S3 (.str _)⟩)
        · exact P3.elim
  · split at P3
    · rename_i xs hs
      obtain ⟨b, vs, rfl, r4, sq⟩ := lis_rel S3 rd hs
      exact .inr (.inl ⟨b, vs, rfl, sq, fun q hq => newL_ok S3 (cut_rel r4 l h) P3 hq⟩)
    · exact P3.elim
theorem k_rev {m : Bool} {a : Expr} {k : Nat} {p1 p2 p3 p : Pos} {sa : MP.Env → DS → R D} (ha : PE X a (TDx U X F W sa)) :
    PE X (.Subscript a (.Slice none none (some (.UnaryOp .USub (.Constant (.int 1) k p1) p2)) p3) p) (TDx U X F W fun ρ st => (sa ρ st).bind fun x st1 => match lisD st1 x with | some xs => newL m xs.reverse st1 | none => .bad) :=
  pe_imp (pe_revL ha) fun σ H Q ⟨ρ, st, μ, hE, hS, hP⟩ => RD.bind hE hS hP fun d st1 μ1 H1 v x1 S1 r1 E1 P1 => by
    split at P1
    · rename_i xs hs
      obtain ⟨b, vs, rfl, r4, sq⟩ := lis_rel S1 r1 hs
      exact ⟨b, vs, rfl, sq, fun q hq => newL_ok S1 r4.reverse P1 hq⟩
    · exact P1.elim
end
end MP

set_option Elab.async false
set_option linter.all false
set_option maxRecDepth 100000
set_option maxHeartbeats 4000000
namespace MP
open PySem L2 PyProof.Rows
/-! ### a place of one's own, while something is made there -/
/-- what stands at D while it grows -/
def Grows (o : HO) : Prop := (∃ l, o = .lst l) ∨ ∃ l, o = .dK l
section
variable {K : PySem.W.Frag} {cls : Cl} {F μ μ' : List Addr} {H H' : Hp} {st : DS} {ρ : MP.Env} {σ : L2.St} {D₀ : Addr}
mutual
/-- a new place is set apart -/
theorem Rel.addF (hD : H D₀ = none) : ∀ (d : D) (v : V), Rel K F μ H d v → Rel K (D₀ :: F) μ H d v
  | .non, _, h => by cases h; exact .non
  | .bl _, _, h => by cases h; exact .bl _
  | .int _, _, h => by cases h; exact .int _
  | .str _, _, h => by cases h; exact .str _
  | .tup ds, _, h => by
    cases h with
    | tup h1 h2 h3 => exact .tup h1 h2 (RelL.addF hD ds _ h3)
    | tupK h1 h3 => exact .tupK h1 (RelL.addF hD ds _ h3)
  | .lst ds, _, h => by
    cases h with
    | lst h1 h2 h4 h3 => exact .lst h1 h2 (by simp only [List.mem_cons, not_or]; exact ⟨ne_of_none h1 hD, h4⟩) (RelL.addF hD ds _ h3)
  | .scr ds, _, h => by
    cases h with
    | scr h1 h2 h3 => exact .scr h1 h2 (RelL.addF hD ds _ h3)
    | scrK h1 h3 => exact .scrK h1 (RelL.addF hD ds _ h3)
  | .dic kvs, _, h => by
    cases h with
    | dic h1 h2 h4 h3 => exact .dic h1 h2 (by simp only [List.mem_cons, not_or]; exact ⟨ne_of_none h1 hD, h4⟩) (RelP.addF hD kvs _ h3)
  | .ref n, _, h => by
    cases h with
    | ref h1 => exact .ref h1
theorem RelL.addF (hD : H D₀ = none) : ∀ (ds : List D) (vs : List V), RelL K F μ H ds vs → RelL K (D₀ :: F) μ H ds vs
  | [], _, h => by cases h; exact .nil
  | d :: ds, _, h => by
    cases h with
    | cons h1 h2 => exact .cons (Rel.addF hD d _ h1) (RelL.addF hD ds _ h2)
theorem RelP.addF (hD : H D₀ = none) : ∀ (ds : List (D × D)) (vs : List (Key × V)), RelP K F μ H ds vs → RelP K (D₀ :: F) μ H ds vs
  | [], _, h => by cases h; exact .nil
  | (k, d) :: ds, _, h => by
    cases h with
    | cons h0 h1 h2 => exact .cons h0 (Rel.addF hD d _ h1) (RelP.addF hD ds _ h2)
end
mutual
/-- the place is no longer set apart -/
theorem Rel.lessF : ∀ (d : D) (v : V), Rel K (D₀ :: F) μ H d v → Rel K F μ H d v
  | .non, _, h => by cases h; exact .non
  | .bl _, _, h => by cases h; exact .bl _
  | .int _, _, h => by cases h; exact .int _
  | .str _, _, h => by cases h; exact .str _
  | .tup ds, _, h => by
    cases h with
    | tup h1 h2 h3 => exact .tup h1 h2 (RelL.lessF ds _ h3)
    | tupK h1 h3 => exact .tupK h1 (RelL.lessF ds _ h3)
  | .lst ds, _, h => by
    cases h with
    | lst h1 h2 h4 h3 => exact .lst h1 h2 (fun z => h4 (List.mem_cons_of_mem _ z)) (RelL.lessF ds _ h3)
  | .scr ds, _, h => by
    cases h with
    | scr h1 h2 h3 => exact .scr h1 h2 (RelL.lessF ds _ h3)
    | scrK h1 h3 => exact .scrK h1 (RelL.lessF ds _ h3)
  | .dic kvs, _, h => by
    cases h with
    | dic h1 h2 h4 h3 => exact .dic h1 h2 (fun z => h4 (List.mem_cons_of_mem _ z)) (RelP.lessF kvs _ h3)
  | .ref n, _, h => by
    cases h with
    | ref h1 => exact .ref h1
theorem RelL.lessF : ∀ (ds : List D) (vs : List V), RelL K (D₀ :: F) μ H ds vs → RelL K F μ H ds vs
  | [], _, h => by cases h; exact .nil
  | d :: ds, _, h => by
    cases h with
    | cons h1 h2 => exact .cons (Rel.lessF d _ h1) (RelL.lessF ds _ h2)
theorem RelP.lessF : ∀ (ds : List (D × D)) (vs : List (Key × V)), RelP K (D₀ :: F) μ H ds vs → RelP K F μ H ds vs
  | [], _, h => by cases h; exact .nil
  | (k, d) :: ds, _, h => by
    cases h with
    | cons h0 h1 h2 => exact .cons h0 (Rel.lessF d _ h1) (RelP.lessF ds _ h2)
end
/-- the heap with another thing at D -/
structure Chg (F μ : List Addr) (H H' : Hp) (D₀ : Addr) : Prop where
  old : ∃ o, H D₀ = some o ∧ Grows o
  ne : ∀ a, a ≠ D₀ → H' a = H a
mutual
theorem Rel.chg (c : Chg F μ H H' D₀) : ∀ (d : D) (v : V), Rel K (D₀ :: F) μ H d v → Rel K (D₀ :: F) μ H' d v
  | .non, _, h => by cases h; exact .non
  | .bl _, _, h => by cases h; exact .bl _
  | .int _, _, h => by cases h; exact .int _
  | .str _, _, h => by cases h; exact .str _
  | .tup ds, _, h => by
    cases h with
    | tup h1 h2 h3 =>
      refine .tup ((c.ne _ fun z => ?_).trans h1) h2 (RelL.chg c ds _ h3)
      obtain ⟨o, e, g⟩ := c.old
      rw [z, e] at h1
      cases h1
      rcases g with ⟨l, q⟩ | ⟨l, q⟩ <;> cases q
    | tupK h1 h3 => exact .tupK h1 (RelL.chg c ds _ h3)
  | .lst ds, _, h => by
    cases h with
    | lst h1 h2 h4 h3 => exact .lst ((c.ne _ fun z => h4 (z ▸ List.mem_cons_self)).trans h1) h2 h4 (RelL.chg c ds _ h3)
  | .scr ds, _, h => by
    cases h with
    | scr h1 h2 h3 =>
      refine .scr ((c.ne _ fun z => ?_).trans h1) h2 (RelL.chg c ds _ h3)
      obtain ⟨o, e, g⟩ := c.old
      rw [z, e] at h1
      cases h1
      rcases g with ⟨l, q⟩ | ⟨l, q⟩ <;> cases q
    | scrK h1 h3 => exact .scrK h1 (RelL.chg c ds _ h3)
  | .dic kvs, _, h => by
    cases h with
    | dic h1 h2 h4 h3 => exact .dic ((c.ne _ fun z => h4 (z ▸ List.mem_cons_self)).trans h1) h2 h4 (RelP.chg c kvs _ h3)
  | .ref n, _, h => by
    cases h with
    | ref h1 => exact .ref h1
theorem RelL.chg (c : Chg F μ H H' D₀) : ∀ (ds : List D) (vs : List V), RelL K (D₀ :: F) μ H ds vs → RelL K (D₀ :: F) μ H' ds vs
  | [], _, h => by cases h; exact .nil
  | d :: ds, _, h => by
    cases h with
    | cons h1 h2 => exact .cons (Rel.chg c d _ h1) (RelL.chg c ds _ h2)
theorem RelP.chg (c : Chg F μ H H' D₀) : ∀ (ds : List (D × D)) (vs : List (Key × V)), RelP K (D₀ :: F) μ H ds vs → RelP K (D₀ :: F) μ H' ds vs
  | [], _, h => by cases h; exact .nil
  | (k, d) :: ds, _, h => by
    cases h with
    | cons h0 h1 h2 => exact .cons h0 (Rel.chg c d _ h1) (RelP.chg c ds _ h2)
end
theorem EnvRel.addF (hD : H D₀ = none) (r : EnvRel K F μ H ρ σ) : EnvRel K (D₀ :: F) μ H ρ σ := ⟨r.1, fun i d h => by
  obtain ⟨v, a, b⟩ := r.2 i d h
  exact ⟨v, a, Rel.addF hD d v b⟩⟩
theorem EnvRel.lessF (r : EnvRel K (D₀ :: F) μ H ρ σ) : EnvRel K F μ H ρ σ := ⟨r.1, fun i d h => by
  obtain ⟨v, a, b⟩ := r.2 i d h
  exact ⟨v, a, Rel.lessF d v b⟩⟩
theorem EnvRel.chg (c : Chg F μ H H' D₀) (r : EnvRel K (D₀ :: F) μ H ρ σ) : EnvRel K (D₀ :: F) μ H' ρ σ := ⟨r.1, fun i d h => by
  obtain ⟨v, a, b⟩ := r.2 i d h
  exact ⟨v, a, Rel.chg c d v b⟩⟩
theorem ObRel.map {F' : List Addr} {a : Addr} {ob : Ob} (x : ObRel K cls F μ H a ob) (ha : H' a = H a) (fL : ∀ ds vs, RelL K F μ H ds vs → RelL K F' μ' H' ds vs) (fP : ∀ ds vs, RelP K F μ H ds vs → RelP K F' μ' H' ds vs) (fR : ∀ d v, Rel K F μ H d v → Rel K F' μ' H' d v) :
    ObRel K cls F' μ' H' a ob := by
  cases ob with
  | lst ds => obtain ⟨vs, p, q⟩ := x; exact ⟨vs, ha.trans p, fL _ _ q⟩
  | dic kvs => obtain ⟨vs, p, q⟩ := x; exact ⟨vs, ha.trans p, fP _ _ q⟩
  | ins c fs => obtain ⟨dx, l, p, q⟩ := x; exact ⟨dx, l, ha.trans p, Paired.mapP q fun a b z => ⟨z.1, fR _ _ z.2⟩⟩
/-- a place is laid and set apart -/
theorem StRel.lay (S : StRel K cls F μ H st) (hD : H D₀ = none) (o : HO) : StRel K cls (D₀ :: F) μ (upd H D₀ o) st := by
  have S1 := S.new (o := o) hD
  refine ⟨S.len, S.nd, fun n a hn => ?_, fun a ha => ?_, fun a ha => ?_, S1.tb⟩
  · obtain ⟨ob, e, r⟩ := S.obj n a hn
    have e1 : Ext μ μ H (upd H D₀ o) := ext_new hD
    have ha : upd H D₀ o a = H a := upd_ne fun z => S.fresh hD (z ▸ List.mem_of_getElem? hn)
    refine ⟨ob, e, r.map ha (fun ds vs q => RelL.mono e1 _ _ (RelL.addF hD ds vs q)) (fun ds vs q => RelP.mono e1 _ _ (RelP.addF hD ds vs q)) fun d v q => Rel.mono e1 _ _ (Rel.addF hD d v q)⟩
  · simp only [List.mem_cons, not_or]
    exact ⟨fun z => S.fresh hD (z ▸ ha), S.dis a ha⟩
  · rcases List.mem_cons.mp ha with z | z
    · rw [z, upd_same]; exact fun q => nomatch q
    · exact S1.fl a z
theorem StRel.lessF (S : StRel K cls (D₀ :: F) μ H st) : StRel K cls F μ H st :=
  ⟨S.len, S.nd, fun n a hn => by
    obtain ⟨ob, e, r⟩ := S.obj n a hn
    exact ⟨ob, e, r.map rfl (fun ds vs => RelL.lessF ds vs) (fun ds vs => RelP.lessF ds vs) fun d v => Rel.lessF d v⟩, fun a ha z => S.dis a ha (List.mem_cons_of_mem _ z), fun a ha => S.fl a (List.mem_cons_of_mem _ ha), S.tb⟩
theorem StRel.chg (c : Chg F μ H H' D₀) (hD' : H' D₀ ≠ none) (S : StRel K cls (D₀ :: F) μ H st) : StRel K cls (D₀ :: F) μ H' st :=
  ⟨S.len, S.nd, fun n a hn => by
    obtain ⟨ob, e, r⟩ := S.obj n a hn
    have ne : a ≠ D₀ := fun z => S.dis a (List.mem_of_getElem? hn) (z ▸ List.mem_cons_self)
    exact ⟨ob, e, r.map (c.ne a ne) (fun ds vs => RelL.chg c ds vs) (fun ds vs => RelP.chg c ds vs) fun d v => Rel.chg c d v⟩, S.dis, fun a ha => by
      by_cases z : a = D₀
      · rw [z]; exact hD'
      · rw [c.ne a z]; exact S.fl a ha, tabs_keep S.tb fun b u e hu => by
      refine (c.ne b fun z => ?_).trans e
      obtain ⟨o, eo, g⟩ := c.old
      rw [z, eo] at e
      cases e
      rcases g with ⟨l, q⟩ | ⟨l, q⟩ <;> rw [q] at hu <;> rcases hu with ⟨_, w⟩ | ⟨_, w⟩ <;> cases w⟩
/-- from the heap ahead of the place to the heap with it, at the end -/
theorem ext_made (hD : H D₀ = none) (o : HO) (e : Ext (D₀ :: μ) (D₀ :: μ') (upd H D₀ o) H') : Ext μ μ' H H' := by
  obtain ⟨s, es, hs⟩ := e.pre
  refine ⟨⟨s, by simpa using es, fun p hp => ?_⟩, fun p u h hn nt => ?_, fun p h => ?_⟩
  · have q := hs p hp
    by_cases z : p = D₀
    · rw [z, upd_same] at q; cases q
    · rwa [upd_ne z] at q
  · have z : p ≠ D₀ := ne_of_none h hD
    exact e.keep p u (by rw [upd_ne z]; exact h) (by simp only [List.mem_cons, not_or]; exact ⟨z, hn⟩) nt
  · refine e.live p ?_
    by_cases z : p = D₀
    · rw [z, upd_same]; exact fun q => nomatch q
    · rw [upd_ne z]; exact h
/-- .. D itself becoming ours -/
theorem ext_madeO (hD : H D₀ = none) (o : HO) (e : Ext (D₀ :: μ) (D₀ :: μ') (upd H D₀ o) H') : Ext μ (μ' ++ [D₀]) H H' := by
  have e1 := ext_made hD o e
  obtain ⟨s, es, hs⟩ := e1.pre
  refine ⟨⟨s ++ [D₀], by rw [es, List.append_assoc], fun p hp => ?_⟩, e1.keep, e1.live⟩
  rcases List.mem_append.mp hp with z | z
  · exact hs p z
  · rw [List.mem_singleton.mp z]; exact hD
theorem Ext.cons (e : Ext μ μ' H H') (a : Addr) : Ext (a :: μ) (a :: μ') H H' := by
  obtain ⟨s, es, hs⟩ := e.pre
  exact ⟨⟨s, by rw [es]; rfl, hs⟩, fun p u h hn nt => e.keep p u h (fun z => hn (List.mem_cons_of_mem _ z)) nt, e.live⟩
/-- what is needed to carry what is told from one world to another -/
structure Car (F F' μ μ' : List Addr) (H H' : Hp) : Prop where
  t : ∀ a xs, H a = some (.tup xs) → a ∉ μ → H' a = some (.tup xs) ∧ a ∉ μ'
  l : ∀ a xs, H a = some (.lst xs) → a ∉ μ → a ∉ F → H' a = some (.lst xs) ∧ a ∉ μ' ∧ a ∉ F'
  s : ∀ a o xs, H a = some (.frz o (.lst xs)) → a ∉ μ → H' a = some (.frz o (.lst xs)) ∧ a ∉ μ'
  d : ∀ a xs, H a = some (.dK xs) → a ∉ μ → a ∉ F → H' a = some (.dK xs) ∧ a ∉ μ' ∧ a ∉ F'
  r : ∀ (n : Nat) a, μ[n]? = some a → μ'[n]? = some a
mutual
theorem Rel.car {F' : List Addr} (c : Car F F' μ μ' H H') : ∀ (d : D) (v : V), Rel K F μ H d v → Rel K F' μ' H' d v
  | .non, _, h => by cases h; exact .non
  | .bl _, _, h => by cases h; exact .bl _
  | .int _, _, h => by cases h; exact .int _
  | .str _, _, h => by cases h; exact .str _
  | .tup ds, _, h => by
    cases h with
    | tup h1 h2 h3 => exact .tup (c.t _ _ h1 h2).1 (c.t _ _ h1 h2).2 (RelL.car c ds _ h3)
    | tupK h1 h3 => exact .tupK h1 (RelL.car c ds _ h3)
  | .lst ds, _, h => by
    cases h with
    | lst h1 h2 h4 h3 => obtain ⟨a, b, e⟩ := c.l _ _ h1 h2 h4; exact .lst a b e (RelL.car c ds _ h3)
  | .scr ds, _, h => by
    cases h with
    | scr h1 h2 h3 => exact .scr (c.s _ _ _ h1 h2).1 (c.s _ _ _ h1 h2).2 (RelL.car c ds _ h3)
    | scrK h1 h3 => exact .scrK h1 (RelL.car c ds _ h3)
  | .dic kvs, _, h => by
    cases h with
    | dic h1 h2 h4 h3 => obtain ⟨a, b, e⟩ := c.d _ _ h1 h2 h4; exact .dic a b e (RelP.car c kvs _ h3)
  | .ref n, _, h => by
    cases h with
    | ref h1 => exact .ref (c.r _ _ h1)
theorem RelL.car {F' : List Addr} (c : Car F F' μ μ' H H') : ∀ (ds : List D) (vs : List V), RelL K F μ H ds vs → RelL K F' μ' H' ds vs
  | [], _, h => by cases h; exact .nil
  | d :: ds, _, h => by
    cases h with
    | cons h1 h2 => exact .cons (Rel.car c d _ h1) (RelL.car c ds _ h2)
theorem RelP.car {F' : List Addr} (c : Car F F' μ μ' H H') : ∀ (ds : List (D × D)) (vs : List (Key × V)), RelP K F μ H ds vs → RelP K F' μ' H' ds vs
  | [], _, h => by cases h; exact .nil
  | (k, d) :: ds, _, h => by
    cases h with
    | cons h0 h1 h2 => exact .cons h0 (Rel.car c d _ h1) (RelP.car c ds _ h2)
end
/-- the place becomes ours -/
theorem car_own {o : HO} (hD : H D₀ = some o) (g : Grows o) : Car (D₀ :: F) F μ (μ ++ [D₀]) H H := by
  have ne : ∀ a u, H a = some u → (∀ l, u ≠ .lst l) → (∀ l, u ≠ .dK l) → a ≠ D₀ := fun a u h h1 h2 z => by
    rw [z, hD] at h
    cases h
    rcases g with ⟨l, q⟩ | ⟨l, q⟩
    · exact h1 l q
    · exact h2 l q
  have nm : ∀ a, a ∉ μ → a ≠ D₀ → a ∉ μ ++ [D₀] := fun a h1 h2 z => (List.mem_append.mp z).elim h1 fun z => h2 (List.mem_singleton.mp z)
  have nf : ∀ a, a ∉ D₀ :: F → a ≠ D₀ ∧ a ∉ F := fun a h => by simpa only [List.mem_cons, not_or] using h
  refine ⟨fun a xs h1 h2 => ⟨h1, nm a h2 (ne a _ h1 (fun _ z => nomatch z) fun _ z => nomatch z)⟩, fun a xs h1 h2 h3 => ⟨h1, nm a h2 (nf a h3).1, (nf a h3).2⟩, fun a o' xs h1 h2 => ⟨h1, nm a h2 (ne a _ h1 (fun _ z => nomatch z) fun _ z => nomatch z)⟩,
    fun a xs h1 h2 h3 => ⟨h1, nm a h2 (nf a h3).1, (nf a h3).2⟩, fun n a h => ?_⟩
  rw [List.getElem?_append_left (List.getElem?_eq_some_iff.mp h).1]
  exact h
theorem StRel.took {ob : Ob} {o : HO} (hD : H D₀ = some o) (g : Grows o) (S : StRel K cls (D₀ :: F) μ H st) (r : ObRel K cls F (μ ++ [D₀]) H D₀ ob) (hF : D₀ ∉ F) : StRel K cls F (μ ++ [D₀]) H (st ++ [ob]) := by
  have c := car_own (F := F) (μ := μ) hD g
  have nm : D₀ ∉ μ := fun z => S.dis D₀ z List.mem_cons_self
  refine ⟨by simp [S.len], ?_, fun n a hn => ?_, fun a ha => ?_, fun a ha => S.fl a (List.mem_cons_of_mem _ ha), S.tb⟩
  · rw [List.nodup_append]
    exact ⟨S.nd, by simp, fun a ha b hb z => nm (by rw [← List.mem_singleton.mp hb, ← z]; exact ha)⟩
  · by_cases e : n < μ.length
    · rw [List.getElem?_append_left e] at hn
      obtain ⟨ob', q, r'⟩ := S.obj n a hn
      exact ⟨ob', getO_append q, r'.map rfl (fun ds vs => RelL.car c ds vs) (fun ds vs => RelP.car c ds vs) fun d v => Rel.car c d v⟩
    · rw [List.getElem?_append_right (by omega)] at hn
      have e2 : n - μ.length = 0 := by
        cases q : n - μ.length with
        | zero => rfl
        | succ k => rw [q] at hn; simp at hn
      rw [e2] at hn
      simp at hn
      subst hn
      have e3 : n = st.length := by have := S.len; omega
      subst e3
      exact ⟨ob, getO_last, r⟩
  · rcases List.mem_append.mp ha with z | z
    · exact fun q => S.dis a z (List.mem_cons_of_mem _ q)
    · rw [List.mem_singleton.mp z]; exact hF
/-- the list at D is handed over -/
theorem newL_end {xf : Nat → List Str} {W : WX} {σ : L2.St} {Q : VK} {m : Bool} {ds : List D} {vs : List V} (hD : H D₀ = none) (o : HO) (e : Ext (D₀ :: μ) (D₀ :: μ') (upd H D₀ o) H') (S : StRel K cls (D₀ :: F) μ' H' st) (hv : H' D₀ = some (.lst vs))
    (r : RelL K (D₀ :: F) μ' H' ds vs) (h : Post K cls xf F (rlD K F) W σ μ H (newL m ds st) Q) (hF : D₀ ∉ F) : Q (.ref D₀) H' := by
  have nm : D₀ ∉ μ' := fun z => S.dis D₀ z List.mem_cons_self
  unfold newL at h
  cases m with
  | false => exact h μ' H' _ (ext_made hD o e) S.lessF (.lst hv nm hF (RelL.lessF _ _ r))
  | true =>
    have g : Grows (.lst vs) := .inl ⟨vs, rfl⟩
    refine h _ H' _ (ext_madeO hD o e) (S.took hv g ⟨vs, hv, RelL.car (car_own hv g) _ _ r⟩ hF) (.ref ?_)
    have hl := S.len
    rw [List.getElem?_append_right (by omega), hl, Nat.sub_self]
    rfl
end
end MP

set_option Elab.async false
set_option linter.all false
set_option maxRecDepth 100000
set_option maxHeartbeats 4000000
namespace MP
open PySem L2 PyProof.Rows
/-! ### targets -/
mutual
def tnS : TN → List Nat
  | .nm i => [i]
  | .tp ts => tnSL ts
def tnSL : List TN → List Nat
  | [] => []
  | t :: ts => tnS t ++ tnSL ts
end
mutual
def cTN (N : List Str) (sc : Scope) (fn : Str → Bool) : TN → Expr → Bool
  | .nm i, pe => match asName pe with | some x => decide (N[i]? = some x) && locB sc x && (fn x || decide (sc.names.lookup x = some .local)) | none => false
  | .tp ts, pe => match asTup pe with | some xs => xs.all noStar && cTNL N sc fn ts xs | none => false
def cTNL (N : List Str) (sc : Scope) (fn : Str → Bool) : List TN → List Expr → Bool
  | [], [] => true
  | t :: ts, x :: xs => cTN N sc fn t x && cTNL N sc fn ts xs
  | _, _ => false
end
theorem assign1 {e : Expr} {es : List Expr} {env : PySem.Env} (h : noStar e = true) : assignEach (e :: es) env = (false, assign e env) :: assignEach es env := by
  cases e <;> first | rfl | cases h
theorem assign_len {env : PySem.Env} : ∀ {es : List Expr}, es.all noStar = true → (assignEach es env).length = es.length ∧ (assignEach es env).findIdx? (·.1) = none
  | [], _ => ⟨rfl, rfl⟩
  | e :: es, h => by
    simp only [List.all_cons, Bool.and_eq_true] at h
    obtain ⟨a, b⟩ := assign_len (env := env) h.2
    rw [assign1 h.1]
    refine ⟨by simp [a], ?_⟩
    rw [List.findIdx?_cons, b]
    rfl
def gTN (K : PySem.W.Frag) (tg : TN) : TG := fun v σ H Q => ∃ F μ ρ d ρ', EnvRel K F μ H ρ σ ∧ Rel K F μ H d v ∧ tnD tg d ρ = some ρ' ∧
  ∀ σ', EnvRel K F μ H ρ' σ' → σ'.length = σ.length → (∀ j, j ∉ tnS tg → σ'[j]? = σ[j]?) → Q σ' H
def gTNL (K : PySem.W.Frag) (tg : List TN) : TGs := fun vs σ H Q => ∃ F μ ρ ds ρ', EnvRel K F μ H ρ σ ∧ RelL K F μ H ds vs ∧ tnL tg ds ρ = some ρ' ∧
  ∀ σ', EnvRel K F μ H ρ' σ' → σ'.length = σ.length → (∀ j, j ∉ tnSL tg → σ'[j]? = σ[j]?) → Q σ' H
theorem pg_imp {X : Cx} {e : Expr} {t t' : TG} (h : PG X e t) (i : ∀ v σ H Q, t' v σ H Q → t v σ H Q) : PG X e t' := ⟨fun pins s σ H v u Q I r q => h.run pins s σ H v u Q I r (i v σ H Q q)⟩
theorem pgs_imp {X : Cx} {e : List Expr} {t t' : TGs} (h : PGs X e t) (i : ∀ v σ H Q, t' v σ H Q → t v σ H Q) : PGs X e t' := ⟨fun pins s σ H v u Q I r q => h.run pins s σ H v u Q I r (i v σ H Q q)⟩
theorem tnL_cons {t : TN} {ts : List TN} {d : D} {ds : List D} {ρ ρ' : MP.Env} (e : tnL (t :: ts) (d :: ds) ρ = some ρ') : ∃ ρ1, tnD t d ρ = some ρ1 ∧ tnL ts ds ρ1 = some ρ' := by
  unfold tnL at e
  split at e
  · rename_i ρ1 e1
    exact ⟨ρ1, e1, e⟩
  · cases e
section
variable {X : Cx}
mutual
theorem pgTN (hc : X.calm = true) (hN : X.N.Nodup) : ∀ (tg : TN) (pe : Expr), cTN X.N X.env.scope X.fn tg pe = true → PG X pe (gTN X.K tg)
  | .nm i, pe, h => by
    unfold cTN at h
    split at h
    · rename_i x hx
      obtain ⟨p, rfl⟩ := asName_eq hx
      simp only [Bool.and_eq_true, Bool.or_eq_true, decide_eq_true_eq] at h
      refine pg_imp (pg_name hN h.1.1 (locB_eq h.1.2) h.2) fun v σ H Q ⟨F, μ, ρ, d, ρ', hE, hr, e, q⟩ => ?_
      have e' : some (setV ρ i (some d)) = some ρ' := by simpa only [tnD] using e
      cases e'
      refine q _ (hE.set hr) (by simp) fun j hj => ?_
      rw [List.getElem?_set_ne]
      exact fun z => hj (by simp [tnS, z])
    · cases h
  | .tp ts, pe, h => by
    unfold cTN at h
    split at h
    · rename_i xs hx
      obtain ⟨k, p, rfl⟩ := asTup_eq hx
      simp only [Bool.and_eq_true] at h
      obtain ⟨l1, l2⟩ := assign_len (env := X.env) h.1
      refine pg_imp (pg_tup (n := xs.length) hc (pgTNL hc hN ts xs h.1 h.2) l1 l2) fun v σ H Q ⟨F, μ, ρ, d, ρ', hE, hr, e, q⟩ => ?_
      cases d with
      | tup ds =>
        obtain ⟨a, vs, rfl, sq, r2⟩ := tupD_rel hr
        have e' : tnL ts ds ρ = some ρ' := by simpa only [tnD] using e
        refine ⟨a, vs, rfl, sq, ?_, F, μ, ρ, ds, ρ', hE, r2, e', fun σ' E' hl hj => q σ' E' hl fun j hj' => hj j (by simpa [tnS] using hj')⟩
        rw [← r2.length]
        exact tnL_len ts ds xs e' h.2
      | _ => simp [tnD] at e
    · cases h
theorem pgTNL (hc : X.calm = true) (hN : X.N.Nodup) : ∀ (tg : List TN) (pe : List Expr), pe.all noStar = true → cTNL X.N X.env.scope X.fn tg pe = true → PGs X pe (gTNL X.K tg)
  | [], [], _, _ => pgs_imp pgs_nil fun v σ H Q ⟨F, μ, ρ, ds, ρ', hE, hr, e, q⟩ => by
    cases ds with
    | nil =>
      cases hr
      have e' : some ρ = some ρ' := by simpa only [tnL] using e
      cases e'
      exact ⟨rfl, q σ hE rfl fun _ _ => rfl⟩
    | cons => simp [tnL] at e
  | t :: ts, x :: xs, hn, h => by
    simp only [List.all_cons, Bool.and_eq_true] at hn
    simp only [cTNL, Bool.and_eq_true] at h
    refine pgs_imp (pgs_cons (pgTN hc hN t x h.1) (pgTNL hc hN ts xs hn.2 h.2) (by rw [assign1 hn.1]; rfl)) fun v σ H Q ⟨F, μ, ρ, ds, ρ', hE, hr, e, q⟩ => ?_
    cases ds with
    | nil => simp [tnL] at e
    | cons d ds =>
      cases hr with
      | cons r1 r2 =>
        obtain ⟨ρ1, e1, e'⟩ := tnL_cons e
        refine ⟨_, _, rfl, F, μ, ρ, d, ρ1, hE, r1, e1, fun σ1 E1 l1 j1 => ⟨F, μ, ρ1, ds, ρ', E1, r2, e', fun σ2 E2 l2 j2 => q σ2 E2 (l2.trans l1) fun j hj => ?_⟩⟩
        simp only [tnSL, List.mem_append, not_or] at hj
        exact (j2 j hj.2).trans (j1 j hj.1)
  | [], _ :: _, _, h => by simp [cTNL] at h
  | _ :: _, [], _, h => by simp [cTNL] at h
theorem tnL_len {N : List Str} {sc : Scope} {fn : Str → Bool} : ∀ (ts : List TN) (ds : List D) (xs : List Expr) {ρ ρ' : MP.Env}, tnL ts ds ρ = some ρ' → cTNL N sc fn ts xs = true → ds.length = xs.length
  | [], [], [], _, _, _, _ => rfl
  | [], [], _ :: _, _, _, _, h => by simp [cTNL] at h
  | [], _ :: _, _, _, _, e, _ => by simp [tnL] at e
  | t :: ts, [], _, _, _, e, _ => by simp [tnL] at e
  | t :: ts, d :: ds, [], _, _, _, h => by simp [cTNL] at h
  | t :: ts, d :: ds, x :: xs, ρ, ρ', e, h => by
    obtain ⟨ρ1, e1, e'⟩ := tnL_cons e
    simp only [cTNL, Bool.and_eq_true] at h
    simp [tnL_len ts ds xs e' h.2]
end
end
/-! ### what is walked -/
structure SeqIt (K : PySem.W.Frag) (F : List Addr) (J : It) (μ : List Addr) (H1 : Hp) (items : List D) : Prop where
  go : ∀ i μ' H', Ext μ μ' H1 H' → i < items.length → J.go i H'
  stop : ∀ μ' H', Ext μ μ' H1 H' → J.stop items.length H'
  yld : ∀ i F' μ' H' x H'', Ext μ μ' H1 H' → (∀ d v, Rel K F μ H1 d v → Rel K F' μ' H' d v) → (∀ p, H' p = none → p ∉ μ') → i < items.length → J.yld i H' x H'' →
    ∃ d, items[i]? = some d ∧ Rel K F' μ' H'' d x ∧ (H'' = H' ∨ ∃ T xs, H' T = none ∧ H'' = upd H' T (.tup xs))
def ITx (U : Wd) (X : Cx) (F : List Addr) (W : WX) (sem : MP.Env → DS → R (List D)) : TI := RD X.K U.cls U.xf F (fun μ H items J => SeqIt X.K F J μ H items) W sem
theorem relL_all {K : PySem.W.Frag} {F F' μ μ' : List Addr} {H H' : Hp} (c : ∀ d v, Rel K F μ H d v → Rel K F' μ' H' d v) : ∀ {ds : List D} {vs : List V}, RelL K F μ H ds vs → RelL K F' μ' H' ds vs
  | [], _, h => by cases h; exact .nil
  | d :: ds, _, h => by
    cases h with
    | cons h1 h2 => exact .cons (c _ _ h1) (relL_all c h2)
/-- a list that stands -/
theorem it_list {K : PySem.W.Frag} {F μ : List Addr} {H1 : Hp} {a : Addr} {ds : List D} {vs : List V} (r : RelL K F μ H1 ds vs) (h : ∀ μ' H', Ext μ μ' H1 H' → SqL K H' a vs) : SeqIt K F (Itl K a) μ H1 ds := by
  refine ⟨fun i μ' H' e hi => ?_, fun μ' H' e => ⟨vs, h μ' H' e, by rw [← r.length]; exact Nat.le_refl _⟩, fun i F' μ' H' x H'' e c _ hi y => ?_⟩
  · have hi' : i < vs.length := by rw [← r.length]; exact hi
    exact ⟨vs, vs[i], h μ' H' e, by simp [hi']⟩
  · obtain ⟨rfl, y⟩ := y
    obtain ⟨d, e1, r1⟩ := (relL_all c r).get' (y vs (h μ' _ e))
    exact ⟨d, e1, r1, .inl rfl⟩
theorem it_tup {K : PySem.W.Frag} {F μ : List Addr} {H1 : Hp} {a : Addr} {ds : List D} {vs : List V} (r : RelL K F μ H1 ds vs) (h : ∀ μ' H', Ext μ μ' H1 H' → SqT K H' a vs) : SeqIt K F (Itt K a) μ H1 ds := by
  refine ⟨fun i μ' H' e hi => ?_, fun μ' H' e => ⟨vs, h μ' H' e, by rw [← r.length]; exact Nat.le_refl _⟩, fun i F' μ' H' x H'' e c _ hi y => ?_⟩
  · have hi' : i < vs.length := by rw [← r.length]; exact hi
    exact ⟨vs, vs[i], h μ' H' e, by simp [hi']⟩
  · obtain ⟨rfl, y⟩ := y
    obtain ⟨d, e1, r1⟩ := (relL_all c r).get' (y vs (h μ' _ e))
    exact ⟨d, e1, r1, .inl rfl⟩
theorem it_str {K : PySem.W.Frag} {F μ : List Addr} {H1 : Hp} {z : Str} : SeqIt K F (Its z) μ H1 (z.cps.toList.map fun c => .str ⟨#[c]⟩) := by
  refine ⟨fun i μ' H' e hi => by simpa [Its] using hi, fun μ' H' e => by simp [Its], fun i F' μ' H' x H'' e c _ hi y => ?_⟩
  obtain ⟨rfl, c, e1, rfl⟩ := y
  refine ⟨.str ⟨#[c]⟩, ?_, .str _, .inl rfl⟩
  rw [List.getElem?_map, Array.getElem?_toList, e1]
  rfl
theorem it_rng {K : PySem.W.Frag} {F μ : List Addr} {H1 : Hp} {lo : Int} {n : Nat} : SeqIt K F (Itr lo n) μ H1 ((List.range n).map fun (k : Nat) => .int (lo + (k : Int))) := by
  refine ⟨fun i μ' H' e hi => by simpa [Itr] using hi, fun μ' H' e => by simp [Itr], fun i F' μ' H' x H'' e c _ hi y => ?_⟩
  obtain ⟨rfl, rfl⟩ := y
  refine ⟨.int (lo + (i : Int)), ?_, .int _, .inl rfl⟩
  rw [List.length_map, List.length_range] at hi
  rw [List.getElem?_map, List.getElem?_range hi]
  rfl
theorem it_enum {K : PySem.W.Frag} {F μ : List Addr} {H1 : Hp} {a : Addr} {ds : List D} {vs : List V} (r : RelL K F μ H1 ds vs) (h : ∀ μ' H', Ext μ μ' H1 H' → SqL K H' a vs) : SeqIt K F (Ite K a) μ H1 (ds.zipIdx.map fun p => .tup [.int (p.2 : Int), p.1]) := by
  have hlen : (ds.zipIdx.map fun p => D.tup [.int (p.2 : Int), p.1]).length = vs.length := by simp [r.length]
  refine ⟨fun i μ' H' e hi => ?_, fun μ' H' e => ⟨vs, h μ' H' e, by rw [hlen]; exact Nat.le_refl _⟩, fun i F' μ' H' x H'' e c nm hi y => ?_⟩
  · have hi' : i < vs.length := by rw [← hlen]; exact hi
    exact ⟨vs, vs[i], h μ' H' e, by simp [hi']⟩
  · obtain ⟨T, u, rfl, hT, rfl, y⟩ := y
    obtain ⟨d, e1, r1⟩ := (relL_all c r).get' (y vs (h μ' _ e))
    have e0 : Ext μ' μ' H' (upd H' T (.tup [.int (i : Nat), u])) := ext_new hT
    refine ⟨.tup [.int (i : Int), d], ?_, .tup upd_same (nm T hT) (.cons (.int _) (.cons (r1.up e0) .nil)), .inr ⟨T, _, hT, rfl⟩⟩
    rw [List.getElem?_map, List.getElem?_zipIdx, e1]
    simp
end MP

set_option Elab.async false
set_option linter.all false
set_option maxRecDepth 100000
set_option maxHeartbeats 4000000
namespace MP
open PySem L2 PyProof.Rows
theorem pi_or {X : Cx} {tg e : Expr} {w1 w2 : TI} (h1 : PI X tg e w1) (h2 : PI X tg e w2) : PI X tg e (fun σ H R => w1 σ H R ∨ w2 σ H R) := ⟨fun pins s σ H R I q => q.elim (h1.run pins s σ H R I) (h2.run pins s σ H R I)⟩
theorem pi_imp {X : Cx} {tg e : Expr} {w1 w2 : TI} (h1 : PI X tg e w1) (i : ∀ σ H R, w2 σ H R → w1 σ H R) : PI X tg e w2 := ⟨fun pins s σ H R I q => h1.run pins s σ H R I (i σ H R q)⟩
section
variable {U : Wd} {n : Nat} {W : WX} {X : Cx} {F : List Addr}
/-- a sequence that is walked -/
theorem k_seq {tg e : Expr} {sa : MP.Env → DS → R D} (ha : PE X e (TDx U X F W sa)) : PI X tg e (ITx U X F W fun ρ st => (sa ρ st).bind fun x st1 => R.of (itD .seq st1 [x]) st1) := by
  refine pi_imp (pi_or (pi_list ha) (pi_or (pi_tup ha) (pi_str ha))) fun σ H Z ⟨ρ, st, μ, hE, hS, hP⟩ => ?_
  have hP : Post X.K U.cls U.xf F (fun μ H items J => SeqIt X.K F J μ H items) W σ μ H ((sa ρ st).bind fun x st1 => R.of (itD .seq st1 [x]) st1) Z := hP
  cases es : sa ρ st with
  | bad => rw [es] at hP; exact hP.elim
  | exc a b st1 => exact .inl ⟨ρ, st, μ, hE, hS, by rw [es] at hP ⊢; exact hP⟩
  | ok d st1 =>
    rw [es] at hP
    have hP : Post X.K U.cls U.xf F (fun μ H items J => SeqIt X.K F J μ H items) W σ μ H (R.of (itD .seq st1 [d]) st1) Z := hP
    obtain ⟨items, ei, k⟩ := Post.of hP
    cases d with
    | str z =>
      have e2 : some (z.cps.toList.map fun c => D.str ⟨#[c]⟩) = some items := ei
      cases e2
      refine .inr (.inr ⟨ρ, st, μ, hE, hS, ?_⟩)
      rw [es]
      intro μ1 H1 v x1 S1 r1
      cases r1
      exact ⟨z, rfl, k μ1 H1 _ x1 S1 it_str⟩
    | tup ds =>
      have e2 : some ds = some items := ei
      cases e2
      refine .inr (.inl ⟨ρ, st, μ, hE, hS, ?_⟩)
      rw [es]
      intro μ1 H1 v x1 S1 r1
      cases r1 with
      | tup h1 h2 h3 => exact ⟨_, rfl, ⟨_, SqT.of h1⟩, k μ1 H1 _ x1 S1 (it_tup h3 fun μ' H' e => SqT.of (e.keep _ _ h1 h2 (fun _ z => nomatch z)))⟩
      | tupK h1 h3 => exact ⟨_, rfl, ⟨_, SqT.ofW h1⟩, k μ1 H1 _ x1 S1 (it_tup h3 fun μ' H' e => SqT.ofW h1)⟩
    | lst ds =>
      have e2 : some ds = some items := ei
      cases e2
      refine .inl ⟨ρ, st, μ, hE, hS, ?_⟩
      rw [es]
      intro μ1 H1 v x1 S1 r1
      cases r1 with
      | lst h1 h2 h4 h3 => exact ⟨_, rfl, ⟨_, SqL.of h1⟩, k μ1 H1 _ x1 S1 (it_list h3 fun μ' H' e => SqL.of (e.keep _ _ h1 h2 (fun _ z => nomatch z)))⟩
    | scr ds =>
      have e2 : some ds = some items := ei
      cases e2
      refine .inl ⟨ρ, st, μ, hE, hS, ?_⟩
      rw [es]
      intro μ1 H1 v x1 S1 r1
      cases r1 with
      | scr h1 h2 h3 => exact ⟨_, rfl, ⟨_, .inl (.inr ⟨_, h1⟩)⟩, k μ1 H1 _ x1 S1 (it_list h3 fun μ' H' e => .inl (.inr ⟨_, e.keep _ _ h1 h2 (fun _ z => nomatch z)⟩))⟩
      | scrK h1 h3 => exact ⟨_, rfl, ⟨_, h1 H1⟩, k μ1 H1 _ x1 S1 (it_list h3 fun μ' H' e => h1 H')⟩
    | non => cases ei
    | bl _ => cases ei
    | int _ => cases ei
    | dic _ => cases ei
    | ref _ => cases ei
theorem RD.bindE {α β γ δ : Type} {K : PySem.W.Frag} {cls : Cl} {xf : Nat → List Str} {μ : List Addr} {H : Hp} {σ : L2.St} {ρ : MP.Env} {st : DS} {Ra : List Addr → Hp → α → β → Prop} {Rg : List Addr → Hp → γ → δ → Prop} {sa : MP.Env → DS → R α} {k : α → DS → R γ} {Q : δ → Hp → Prop} {Q' : β → Hp → Prop}
    (hE : EnvRel K F μ H ρ σ) (hS : StRel K cls F μ H st) (hP : Post K cls xf F Rg W σ μ H ((sa ρ st).bind k) Q)
    (h : ∀ a st1 μ1 H1 v, sa ρ st = .ok a st1 → Ext μ μ1 H H1 → StRel K cls F μ1 H1 st1 → Ra μ1 H1 a v → EnvRel K F μ1 H1 ρ σ → Post K cls xf F Rg W σ μ1 H1 (k a st1) Q → Q' v H1) : RD K cls xf F Ra W sa σ H Q' := by
  refine ⟨ρ, st, μ, hE, hS, ?_⟩
  cases e : sa ρ st with
  | ok a st1 =>
    rw [e] at hP
    exact fun μ1 H1 v x s r => h a st1 μ1 H1 v e x s r (hE.mono x) (hP.shift x)
  | exc c fs st1 => rw [e] at hP; exact hP
  | bad => rw [e] at hP; exact hP.elim
theorem k_rng1 (c : Ctx U n W X) {tg e : Expr} {p pos : Pos} {sr : MP.Env → DS → R (List D)} (hg : Gl X "range") (hn : noStar e = true) (hr : PA X [e] (TLx U X F W sr)) (hl : ∀ ρ st ds st1, sr ρ st = .ok ds st1 → ds.length = 1) :
    PI X tg (.Call (.Name "range" p) [e] [] pos) (ITx U X F W fun ρ st => (sr ρ st).bind fun xs st1 => R.of (itD .rng st1 xs) st1) := by
  refine pi_imp (pi_range1 hg (c.gls.bi _ (by simp)) hr (star1 hn)) fun σ H Z ⟨ρ, st, μ, hE, hS, hP⟩ => RD.bindE hE hS hP fun ds st1 μ1 H1 vs eq x1 S1 r1 E1 P1 => ?_
  obtain ⟨items, ei, k⟩ := Post.of P1
  have l1 := hl _ _ _ _ eq
  obtain ⟨d, rfl⟩ := List.length_eq_one_iff.mp l1
  obtain ⟨v, rfl, r2⟩ := relL1 r1
  cases d with
  | int j =>
    cases r2
    have e2 : (if -(2 ^ 62) ≤ j ∧ j < 2 ^ 62 then some ((List.range j.toNat).map fun (k : Nat) => D.int (0 + (k : Int))) else none) = some items := ei
    split at e2
    · rename_i hb
      cases e2
      exact ⟨j, rfl, hb.1, hb.2, k μ1 H1 _ .refl S1 it_rng⟩
    · cases e2
  | _ => cases ei
theorem len2 {ds : List D} (h : ds.length = 2) : ∃ a b, ds = [a, b] := match ds, h with | [a, b], _ => ⟨a, b, rfl⟩
theorem k_rng2 (c : Ctx U n W X) {tg e e' : Expr} {p pos : Pos} {sr : MP.Env → DS → R (List D)} (hg : Gl X "range") (hn : noStar e = true) (hn' : noStar e' = true) (hr : PA X [e, e'] (TLx U X F W sr)) (hl : ∀ ρ st ds st1, sr ρ st = .ok ds st1 → ds.length = 2) :
    PI X tg (.Call (.Name "range" p) [e, e'] [] pos) (ITx U X F W fun ρ st => (sr ρ st).bind fun xs st1 => R.of (itD .rng st1 xs) st1) := by
  refine pi_imp (pi_range2 hg (c.gls.bi _ (by simp)) hr (by rw [star1 hn, star1 hn']; rfl) (star1 hn')) fun σ H Z ⟨ρ, st, μ, hE, hS, hP⟩ => RD.bindE hE hS hP fun ds st1 μ1 H1 vs eq x1 S1 r1 E1 P1 => ?_
  obtain ⟨items, ei, k⟩ := Post.of P1
  have l1 := hl _ _ _ _ eq
  obtain ⟨d, d', rfl⟩ := len2 l1
  obtain ⟨v, v', rfl, r2, r3⟩ := relL2 r1
  cases d with
  | int i =>
   cases d' with
   | int j =>
    cases r2
    cases r3
    have e2 : (if -(2 ^ 62) ≤ i ∧ i < 2 ^ 62 ∧ -(2 ^ 62) ≤ j ∧ j < 2 ^ 62 then some ((List.range (j - i).toNat).map fun (k : Nat) => D.int (i + (k : Int))) else none) = some items := ei
    split at e2
    · rename_i hb
      cases e2
      exact ⟨i, j, rfl, hb, k μ1 H1 _ .refl S1 it_rng⟩
    · cases e2
   | _ => cases ei
  | _ => cases ei
theorem k_enum (c : Ctx U n W X) {elts : List Expr} {kk : Nat} {tpos : Pos} {e : Expr} {p pos : Pos} {sr : MP.Env → DS → R (List D)} (hg : Gl X "enumerate") (hn : noStar e = true) (hr : PA X [e] (TLx U X F W sr)) (hl : ∀ ρ st ds st1, sr ρ st = .ok ds st1 → ds.length = 1) :
    PI X (.Tuple elts kk tpos) (.Call (.Name "enumerate" p) [e] [] pos) (ITx U X F W fun ρ st => (sr ρ st).bind fun xs st1 => R.of (itD .enum st1 xs) st1) := by
  refine pi_imp (pi_enum hg (c.gls.bi _ (by simp)) hr (star1 hn)) fun σ H Z ⟨ρ, st, μ, hE, hS, hP⟩ => RD.bindE hE hS hP fun ds st1 μ1 H1 vs eq x1 S1 r1 E1 P1 => ?_
  obtain ⟨items, ei, k⟩ := Post.of P1
  have l1 := hl _ _ _ _ eq
  obtain ⟨d, rfl⟩ := List.length_eq_one_iff.mp l1
  obtain ⟨v, rfl, r2⟩ := relL1 r1
  cases d with
  | lst ys =>
    have e2 : some (ys.zipIdx.map fun p => D.tup [.int (p.2 : Int), p.1]) = some items := ei
    cases e2
    cases r2 with
    | lst h1 h2 h4 h3 => exact ⟨_, _, rfl, SqL.of h1, k μ1 H1 _ .refl S1 (it_enum h3 fun μ' H' e => SqL.of (e.keep _ _ h1 h2 (fun _ z => nomatch z)))⟩
  | _ => cases ei
/-! ### list comprehensions -/
def lcF (tg : TN) (own : List Nat) (sc : MP.Env → DS → R Bool) (se : MP.Env → DS → R D) (ρ : MP.Env) : D → DS → R (Option D) := fun x st2 => match tnD tg x (wipeV ρ own) with
  | some ρ' => (sc ρ' st2).bind fun k st3 => if k then (se ρ' st3).bind fun d st4 => .ok (some d) st4 else .ok none st3
  | none => .bad
theorem wipe_eq {σ σ' : L2.St} (hl : σ'.length = σ.length) {own : List Nat} (h : ∀ j, j ∉ own → σ'[j]? = σ[j]?) : wipe σ' own = wipe σ own := by
  have at_ : ∀ (own : List Nat) (τ : L2.St) (j : Nat), (wipe τ own)[j]? = if j ∈ own ∧ j < τ.length then some none else τ[j]? := by
    intro own
    induction own with
    | nil => intro τ j; simp [wipe]
    | cons a r ih =>
      intro τ j
      unfold wipe
      by_cases e : a = j
      · subst e
        by_cases hj : a < τ.length
        · rw [List.getElem?_set_self (by rw [wipe_length]; exact hj), if_pos ⟨List.mem_cons_self, hj⟩]
        · rw [if_neg (fun z => hj z.2), List.getElem?_eq_none (by simp [wipe_length]; omega), List.getElem?_eq_none (by omega)]
      · rw [List.getElem?_set_ne e, ih]
        by_cases hj : j ∈ r ∧ j < τ.length
        · rw [if_pos hj, if_pos ⟨List.mem_cons_of_mem _ hj.1, hj.2⟩]
        · rw [if_neg hj, if_neg]
          exact fun z => hj ⟨(List.mem_cons.mp z.1).elim (fun q => absurd q.symm e) (fun q => q), z.2⟩
  apply List.ext_getElem?
  intro j
  rw [at_, at_, hl]
  by_cases hj : j ∈ own ∧ j < σ.length
  · rw [if_pos hj, if_pos hj]
  · rw [if_neg hj, if_neg hj]
    by_cases hm : j ∈ own
    · have : ¬ j < σ.length := fun z => hj ⟨hm, z⟩
      rw [List.getElem?_eq_none (by omega), List.getElem?_eq_none (by omega)]
    · exact h j hm
theorem wipe_wipe {σ : L2.St} {own : List Nat} : wipe (wipe σ own) own = wipe σ own := by
  refine wipe_eq (wipe_length σ own) fun j hj => ?_
  induction own with
  | nil => rfl
  | cons a r ih =>
    simp only [List.mem_cons, not_or] at hj
    unfold wipe
    rw [List.getElem?_set_ne (Ne.symm hj.1)]
    exact ih hj.2
/-- nothing is wished for -/
abbrev WF : WX := fun _ _ _ _ => False
def anyD (U : Wd) (X : Cx) (sem : MP.Env → DS → R D) : TE := fun σ H Q => ∃ F, TDx U X F WF sem σ H Q
def anyB (U : Wd) (X : Cx) (sem : MP.Env → DS → R Bool) : TT := fun σ H Q => ∃ F, TBx U X F WF sem σ H Q
theorem lc_turn {items : List D} {tg : TN} {own : List Nat} {sc : MP.Env → DS → R Bool} {se : MP.Env → DS → R D} {m : Bool} {σ : L2.St} {ρ : MP.Env} {Q : VK} {J : It} {μ1 : List Addr} {H1 : Hp} {st1 : DS} (hown : ∀ j ∈ tnS tg, j ∈ own)
    (E1 : EnvRel X.K F μ1 H1 ρ σ) (S1 : StRel X.K U.cls F μ1 H1 st1) (hJ : SeqIt X.K F J μ1 H1 items)
    (P1 : Post X.K U.cls U.xf F (rlD X.K F) W σ μ1 H1 ((lcL (lcF tg own sc se ρ) items [] st1).bind fun ys st2 => newL m ys st2) Q) :
    ∀ D, H1 D = none → ∃ W' : Nat → Nat → Hp → Prop, (∃ m, W' 0 m (upd H1 D (.lst []))) ∧ ∀ i m H, W' i m H →
      (J.stop i H ∧ Q (.ref D) H) ∨ (J.go i H ∧ ∃ Nx : Hp → Prop, (∀ H', Nx H' → ∃ m', m' < m ∧ W' (i + 1) m' H') ∧ ∀ x H', J.yld i H x H' → gTN X.K tg x (wipe σ own) H' fun σ2 H2 => wipe σ2 own = wipe σ own ∧ anyB U X sc σ2 H2 fun b H3 =>
        if b = true then anyD U X se σ2 H3 fun y H4 => ∃ acc, H4 D = some (.lst acc) ∧ acc.length < sizeLine ∧ Nx (upd H4 D (.lst (acc ++ [y]))) else Nx H3) := by
  intro D hD
  have hF : D ∉ F := S1.freshF hD
  -- what holds ahead of turn i
  let Inn : Nat → Hp → Prop := fun i H => ∃ (μ' : List Addr) (st : DS) (acc : List MP.D) (vs : List V), i ≤ items.length ∧ Ext (D :: μ1) (D :: μ') (upd H1 D (.lst [])) H ∧ StRel X.K U.cls (D :: F) μ' H st ∧ H D = some (.lst vs) ∧ RelL X.K (D :: F) μ' H acc vs ∧
    (∀ d v, Rel X.K F μ1 H1 d v → Rel X.K (D :: F) μ' H d v) ∧
    Post X.K U.cls U.xf F (rlD X.K F) W σ μ1 H1 ((lcL (lcF tg own sc se ρ) (items.drop i) acc st).bind fun ys st2 => newL m ys st2) Q
  refine ⟨fun i k H => k = items.length - i ∧ Inn i H, ⟨items.length, by simp, μ1, st1, [], [], Nat.zero_le _, Ext.refl, S1.lay hD _, upd_same, .nil, fun d v r => ?_, by simpa using P1⟩, ?_⟩
  · exact Rel.mono (ext_new hD) _ _ (Rel.addF hD d v r)
  rintro i k H ⟨rfl, μ', st, acc, vs, hi, e, S, hv, ra, car, P⟩
  have nmD : D ∉ μ' := fun z => S.dis D z List.mem_cons_self
  have e1 : Ext μ1 μ' H1 H := ext_made hD _ e
  by_cases hlt : i < items.length
  · refine .inr ⟨hJ.go i μ' H e1 hlt, Inn (i + 1), fun H' q => ⟨items.length - (i + 1), by omega, rfl, q⟩, fun x H' y => ?_⟩
    obtain ⟨d, ed, rd, hh⟩ := hJ.yld i (D :: F) μ' H x H' e1 car (fun p hp => S.fresh hp) hlt y
    -- the heap with the yielded thing
    have e2 : Ext μ' μ' H H' := by
      rcases hh with rfl | ⟨T, xs, hT, rfl⟩
      · exact .refl
      · exact ext_new hT
    have S2 : StRel X.K U.cls (D :: F) μ' H' st := by
      rcases hh with rfl | ⟨T, xs, hT, rfl⟩
      · exact S
      · exact S.new hT
    have hv2 : H' D = some (.lst vs) := e2.keep _ _ hv nmD (fun _ z => nomatch z)
    have E2 : EnvRel X.K (D :: F) μ' H' (wipeV ρ own) (wipe σ own) := EnvRel.wipe ⟨E1.1, fun j dd hj => by
      obtain ⟨v, a, b⟩ := E1.2 j dd hj
      exact ⟨v, a, (car dd v b).up e2⟩⟩ own
    have hdrop : items.drop i = d :: items.drop (i + 1) := by
      obtain ⟨h1, h2⟩ := List.getElem?_eq_some_iff.mp ed
      rw [← h2]
      exact List.drop_eq_getElem_cons h1
    rw [hdrop] at P
    have P : Post X.K U.cls U.xf F (rlD X.K F) W σ μ1 H1 ((match lcF tg own sc se ρ d st with | .ok (some d) st1 => if acc.length < sizeLine then lcL (lcF tg own sc se ρ) (items.drop (i + 1)) (acc ++ [d]) st1 else .bad | .ok none st1 => lcL (lcF tg own sc se ρ) (items.drop (i + 1)) acc st1 | _ => .bad).bind fun ys st2 => newL m ys st2) Q := P
    unfold lcF at P
    cases et : tnD tg d (wipeV ρ own) with
    | none => rw [et] at P; exact P.elim
    | some ρ2 =>
      simp only [et] at P
      refine ⟨D :: F, μ', wipeV ρ own, d, ρ2, E2, rd, et, fun σ2 Eσ hl hj => ⟨?_, ?_⟩⟩
      · exact (wipe_eq hl fun j hj' => hj j fun z => hj' (hown j z)).trans wipe_wipe
      -- the test
      refine ⟨D :: F, ρ2, st, μ', Eσ, S2, ?_⟩
      cases es : sc ρ2 st with
      | bad => rw [es] at P; exact P.elim
      | exc a b c => rw [es] at P; exact P.elim
      | ok kb st3 =>
        rw [es] at P
        intro μ3 H3 kb' x3 S3 rk
        cases rk
        have hv3 : H3 D = some (.lst vs) := x3.keep _ _ hv2 nmD (fun _ z => nomatch z)
        cases kb with
        | false =>
          rw [if_neg (by decide)]
          exact ⟨μ3, st3, acc, vs, hlt, e.trans ((e2.trans x3).cons D), S3, hv3, ra.up (e2.trans x3), fun d v r => (car d v r).up (e2.trans x3), P⟩
        | true =>
          rw [if_pos rfl]
          have P : Post X.K U.cls U.xf F (rlD X.K F) W σ μ1 H1 ((match (se ρ2 st3).bind fun d st4 => R.ok (some d) st4 with | .ok (some d) st1 => if acc.length < sizeLine then lcL (lcF tg own sc se ρ) (items.drop (i + 1)) (acc ++ [d]) st1 else .bad | .ok none st1 => lcL (lcF tg own sc se ρ) (items.drop (i + 1)) acc st1 | _ => .bad).bind fun ys st2 => newL m ys st2) Q := P
          refine ⟨D :: F, ρ2, st3, μ3, Eσ.mono x3, S3, ?_⟩
          cases ee : se ρ2 st3 with
          | bad => rw [ee] at P; exact P.elim
          | exc a b c => rw [ee] at P; exact P.elim
          | ok dy st4 =>
            rw [ee] at P
            intro μ4 H4 y4 x4 S4 r4
            have nm3 : D ∉ μ3 := fun z => S3.dis D z List.mem_cons_self
            have nm4 : D ∉ μ4 := fun z => S4.dis D z List.mem_cons_self
            have hv4 : H4 D = some (.lst vs) := x4.keep _ _ hv3 nm3 (fun _ z => nomatch z)
            have P : Post X.K U.cls U.xf F (rlD X.K F) W σ μ1 H1 ((if acc.length < sizeLine then lcL (lcF tg own sc se ρ) (items.drop (i + 1)) (acc ++ [dy]) st4 else .bad).bind fun ys st2 => newL m ys st2) Q := P
            have e4 := (e2.trans x3).trans x4
            have ra4 := ra.up e4
            by_cases hz : acc.length < sizeLine
            · rw [if_pos hz] at P
              have ch : Chg F μ4 H4 (upd H4 D (.lst (vs ++ [y4]))) D := ⟨⟨_, hv4, .inl ⟨_, rfl⟩⟩, fun a ha => upd_ne ha⟩
              refine ⟨vs, hv4, by rw [← ra4.length]; exact hz, μ4, st4, acc ++ [dy], vs ++ [y4], hlt, ?_, S4.chg ch (by rw [upd_same]; exact fun z => nomatch z), upd_same, ?_, fun d v r => Rel.chg ch _ _ ((car d v r).up e4), P⟩
              · exact (e.trans (e4.cons D)).trans (ext_set List.mem_cons_self)
              · exact (RelL.chg ch _ _ ra4).append (.cons (Rel.chg ch _ _ r4) .nil)
            · rw [if_neg hz] at P; exact P.elim
  · have hi' : i = items.length := by omega
    subst hi'
    refine .inl ⟨hJ.stop μ' H e1, ?_⟩
    rw [List.drop_length] at P
    exact newL_end hD _ e S hv ra (Post.shift .refl P) hF
end
end MP

set_option Elab.async false
set_option linter.all false
set_option maxRecDepth 100000
set_option maxHeartbeats 4000000
namespace MP
open PySem L2 PyProof.Rows
theorem takesF {X : Cx} : Takes X WF := fun _ _ x => by
  obtain ⟨_, _, _, _, _, _, _, _, _, _, _, _, _, _, _, _, z⟩ := x
  exact z.elim
section
variable {U : Wd} {n : Nat} {W : WX} {X : Cx} {F : List Addr}
/-- within a comprehension's block -/
theorem Ctx.inBlk (c : Ctx U n W X) {s : Shared} {H : Hp} {scope : Scope} {env : PySem.Env} {fp : List Addr} : Ctx U n WF (X.blk s H scope env fp) :=
  ⟨⟨c.good.gd, c.good.hu⟩, c.calm, c.nd, takesF, c.room, c.fns, c.gls⟩
def ownN (N : List Str) (own : List Nat) : List (Str × Nat) := own.map fun i => ((N[i]?).getD "", i)
theorem ownN_snd {N : List Str} {own : List Nat} : (ownN N own).map (·.2) = own := by
  unfold ownN
  rw [List.map_map]
  exact List.map_id' own
def notSet : Expr → Bool | .Set _ _ _ => false | _ => true
theorem notSet_eq {e : Expr} (h : notSet e = true) {env : PySem.Env} : ∀ x, foldedSetIterable e env x = pure x := by
  intro x
  unfold foldedSetIterable
  cases e <;> first | rfl | cases h
theorem pe_any {X : Cx} {e : Expr} {sem : MP.Env → DS → R D} (h : ∀ F, PE X e (TDx U X F WF sem)) : PE X e (anyD U X sem) := ⟨fun pins s σ H Q I ⟨F, q⟩ => (h F).run pins s σ H Q I q⟩
theorem pt_any {X : Cx} {e : Expr} {sem : MP.Env → DS → R Bool} (h : ∀ F, PT X e (TBx U X F WF sem)) : PT X e (anyB U X sem) := ⟨fun pins s σ H Q I ⟨F, q⟩ => (h F).run pins s σ H Q I q⟩
/-- the tests of a clause: none, or one -/
theorem pts_any0 {X : Cx} : PTs X [] (anyB U X fun ρ st => R.ok true st) := by
  refine ⟨fun pins s σ H Q I ⟨F, ρ, st, μ, hE, hS, hP⟩ => ?_⟩
  exact pts_nil.run pins s σ H Q I (hP μ H true .refl hS rfl)
theorem pts_any1 {X : Cx} {e : Expr} {sem : MP.Env → DS → R Bool} (h : ∀ F, PT X e (TBx U X F WF sem)) : PTs X [e] (anyB U X fun ρ st => (sem ρ st).bind fun k st1 => if k then R.ok true st1 else .ok false st1) := by
  refine pts_one (pt_imp (pt_any h) fun σ H Q ⟨F, q⟩ => ⟨F, ?_⟩)
  have e1 : (fun (ρ : MP.Env) (st : DS) => (sem ρ st).bind fun k st1 => if k then R.ok true st1 else R.ok false st1) = sem := by
    funext ρ st
    cases sem ρ st with
    | ok a st1 => cases a <;> rfl
    | exc a b c => rfl
    | bad => rfl
  rw [e1] at q
  exact q
/-- a comprehension: what it asks and what it gives -/
def lcS (m : Bool) (tg : TN) (own : List Nat) (si : MP.Env → DS → R (List D)) (sc : MP.Env → DS → R Bool) (se : MP.Env → DS → R D) : MP.Env → DS → R D := fun ρ st => (si ρ st).bind fun items st1 => (lcL (lcF tg own sc se ρ) items [] st1).bind fun ys st2 => newL m ys st2
theorem lc_imp {m : Bool} {tg : TN} {own : List Nat} {si : MP.Env → DS → R (List D)} {sc : MP.Env → DS → R Bool} {se : MP.Env → DS → R D} (hown : ∀ j ∈ tnS tg, j ∈ own) {σ : L2.St} {H : Hp} {Q : VK} (h : TDx U X F W (lcS m tg own si sc se) σ H Q) :
    tLc (ITx U X F W si) (gTN X.K tg) (anyB U X sc) (anyD U X se) own σ H Q := by
  obtain ⟨ρ, st, μ, hE, hS, hP⟩ := h
  refine RD.bind hE hS hP fun items st1 μ1 H1 J x1 S1 r1 E1 P1 => ?_
  exact lc_turn hown E1 S1 r1 P1
theorem k_lc (c : Ctx U n W X) {m : Bool} {tg : TN} {own : List Nat} {elt tge iter : Expr} {ifs : List Expr} {scope : Scope} {pos : Pos} {si : MP.Env → DS → R (List D)} {sc : MP.Env → DS → R Bool} {se : MP.Env → DS → R D}
    (hown : (tnS tg).all (fun j => decide (j ∈ own)) = true) (hb : blkC X.N X.env.scope scope (ownN X.N own) = true) (hns : notSet iter = true) (htg : cTN X.N (relS scope X.env.scope) (fun x => scope.names.lookup x == some .cell) tg tge = true)
    (hi : PI X tge iter (ITx U X F W si)) (ht : ∀ (Y : Cx) (s : Shared) (H : Hp) (C : Addr) (cl : List (Str × Addr)) (fp : List Addr), Y = X.blk s H scope (compEnvC scope cl C X.env) fp → PTs Y ifs (anyB U X sc))
    (he : ∀ (Y : Cx) (s : Shared) (H : Hp) (C : Addr) (cl : List (Str × Addr)) (fp : List Addr), Y = X.blk s H scope (compEnvC scope cl C X.env) fp → PE Y elt (anyD U X se)) :
    PE X (.ListComp elt [⟨tge, iter, ifs, 0⟩] scope pos) (TDx U X F W (lcS m tg own si sc se)) := by
  have hown' : ∀ j ∈ tnS tg, j ∈ own := fun j hj => by simpa using List.all_eq_true.mp hown j hj
  refine pe_imp (pe_lc (wi := ITx U X F W si) (g := gTN X.K tg) (tt := anyB U X sc) (te := anyD U X se) c.calm c.nd hi (blkOk_by hb) (fun s H C cl fp => pgTN (X := X.blk s H scope (compEnvC scope cl C X.env) fp) c.calm c.nd tg tge htg) (fun s H C cl fp => ht _ s H C cl fp rfl) (fun s H C cl fp => he _ s H C cl fp rfl) (notSet_eq hns)) fun σ H Q h => ?_
  rw [ownN_snd]
  exact lc_imp hown' h
end
end MP

set_option Elab.async false
set_option linter.all false
set_option maxRecDepth 100000
set_option maxHeartbeats 4000000
namespace MP
open PySem L2 PyProof.Rows
/-! ### walks over a list as it stands -/
structure LvIt (K : PySem.W.Frag) (cls : Cl) (F : List Addr) (J : It) (μ : List Addr) (H1 : Hp) (x : D) (en : Bool) : Prop where
  go : ∀ F' μ' H' st' i d, Ext μ μ' H1 H' → StRel K cls F' μ' H' st' → (∀ d v, Rel K F μ H1 d v → Rel K F' μ' H' d v) → wkD en st' x i = some (some d) →
    J.go i H' ∧ ∀ y H'', J.yld i H' y H'' → Rel K F' μ' H'' d y ∧ (H'' = H' ∨ ∃ T xs, H' T = none ∧ H'' = upd H' T (.tup xs))
  stop : ∀ F' μ' H' st' i, Ext μ μ' H1 H' → StRel K cls F' μ' H' st' → (∀ d v, Rel K F μ H1 d v → Rel K F' μ' H' d v) → wkD en st' x i = some none → J.stop i H'
def ITv (U : Wd) (X : Cx) (F : List Addr) (W : WX) (en : Bool) (sem : MP.Env → DS → R D) : TI := RD X.K U.cls U.xf F (fun μ H x J => LvIt X.K U.cls F J μ H x en) W sem
/-- what is read at a lap -/
theorem wk_some {en : Bool} {st : DS} {x : D} {i : Nat} {d : D} (h : wkD en st x i = some (some d)) : ∃ xs e, srcD en st x = some xs ∧ xs[i]? = some e ∧ d = if en then .tup [.int (i : Int), e] else e := by
  unfold wkD at h
  split at h
  · rename_i xs hx
    cases e : xs[i]? with
    | none => rw [e] at h; cases h
    | some y => rw [e] at h; cases h; exact ⟨xs, y, hx, e, rfl⟩
  · cases h
theorem wk_none {en : Bool} {st : DS} {x : D} {i : Nat} (h : wkD en st x i = some none) : ∃ xs, srcD en st x = some xs ∧ xs.length ≤ i := by
  unfold wkD at h
  split at h
  · rename_i xs hx
    cases e : xs[i]? with
    | none => exact ⟨xs, hx, List.getElem?_eq_none_iff.mp e⟩
    | some y => rw [e] at h; cases h
  · cases h
/-- a value that is a list, at each later state -/
def LisAt (K : PySem.W.Frag) (cls : Cl) (F μ : List Addr) (H1 : Hp) (x : D) (a : Addr) : Prop := ∀ F' μ' H' st' xs, Ext μ μ' H1 H' → StRel K cls F' μ' H' st' → (∀ d v, Rel K F μ H1 d v → Rel K F' μ' H' d v) → seqD st' x = some xs → ∃ vs, SqL K H' a vs ∧ RelL K F' μ' H' xs vs
theorem lisAt_lst {K : PySem.W.Frag} {cls : Cl} {F μ : List Addr} {H1 : Hp} {ds : List D} {v : V} (r : Rel K F μ H1 (.lst ds) v) : ∃ a, v = .ref a ∧ (∃ vs, SqL K H1 a vs) ∧ LisAt K cls F μ H1 (.lst ds) a := by
  cases r with
  | lst h1 h2 h4 h3 => exact ⟨_, rfl, ⟨_, SqL.of h1⟩, fun F' μ' H' st' xs e S c q => by cases q; exact ⟨_, SqL.of (e.keep _ _ h1 h2 (fun _ z => nomatch z)), relL_all c h3⟩⟩
theorem lisAt_scr {K : PySem.W.Frag} {cls : Cl} {F μ : List Addr} {H1 : Hp} {ds : List D} {v : V} (r : Rel K F μ H1 (.scr ds) v) : ∃ a, v = .ref a ∧ (∃ vs, SqL K H1 a vs) ∧ LisAt K cls F μ H1 (.scr ds) a := by
  cases r with
  | scr h1 h2 h3 => exact ⟨_, rfl, ⟨_, .inl (.inr ⟨_, h1⟩)⟩, fun F' μ' H' st' xs e S c q => by cases q; exact ⟨_, .inl (.inr ⟨_, e.keep _ _ h1 h2 (fun _ z => nomatch z)⟩), relL_all c h3⟩⟩
  | scrK h1 h3 => exact ⟨_, rfl, ⟨_, h1 H1⟩, fun F' μ' H' st' xs e S c q => by cases q; exact ⟨_, h1 H', relL_all c h3⟩⟩
theorem lisAt_ref {K : PySem.W.Frag} {cls : Cl} {F μ : List Addr} {H1 : Hp} {st1 : DS} {n : Nat} {v : V} {ys : List D} (S1 : StRel K cls F μ H1 st1) (hy : seqD st1 (.ref n) = some ys) (r : Rel K F μ H1 (.ref n) v) : ∃ a, v = .ref a ∧ (∃ vs, SqL K H1 a vs) ∧ LisAt K cls F μ H1 (.ref n) a := by
  have key : ∀ {F' μ' : List Addr} {H' : Hp} {st' : DS} {xs : List D} {a : Addr}, StRel K cls F' μ' H' st' → μ'[n]? = some a → seqD st' (.ref n) = some xs → ∃ vs, H' a = some (.lst vs) ∧ RelL K F' μ' H' xs vs := by
    intro F' μ' H' st' xs a S h q
    obtain ⟨ob, g, o⟩ := S.obj n a h
    have q : (match getO st' n with | some (.lst xs) => some xs | _ => none) = some xs := q
    rw [g] at q
    cases ob with
    | lst zs => cases q; exact o
    | dic _ => cases q
    | ins _ _ => cases q
  cases r with
  | ref h =>
    obtain ⟨vs, h1, _⟩ := key S1 h hy
    refine ⟨_, rfl, ⟨vs, SqL.of h1⟩, fun F' μ' H' st' xs e S c q => ?_⟩
    obtain ⟨ws, h2, r2⟩ := key S (e.at h) q
    exact ⟨ws, SqL.of h2, r2⟩
theorem lv_list {K : PySem.W.Frag} {cls : Cl} {F μ : List Addr} {H1 : Hp} {x : D} {a : Addr} (L : LisAt K cls F μ H1 x a) : LvIt K cls F (Itl K a) μ H1 x false := by
  refine ⟨fun F' μ' H' st' i d e S c h => ?_, fun F' μ' H' st' i e S c h => ?_⟩
  · obtain ⟨xs, y, q, ei, rfl⟩ := wk_some h
    obtain ⟨vs, sq, r⟩ := L F' μ' H' st' xs e S c q
    obtain ⟨v, ev, rv⟩ := r.get ei
    refine ⟨⟨vs, v, sq, ev⟩, fun z H'' yy => ?_⟩
    obtain ⟨rfl, yy⟩ := yy
    have := yy vs sq
    rw [ev] at this
    cases this
    exact ⟨rv, .inl rfl⟩
  · obtain ⟨xs, q, hl⟩ := wk_none h
    obtain ⟨vs, sq, r⟩ := L F' μ' H' st' xs e S c q
    exact ⟨vs, sq, by rw [← r.length]; exact hl⟩
/-- what is a list is a sequence -/
theorem lis_seq {st : DS} {x : D} {xs : List D} (h : lisD st x = some xs) : seqD st x = some xs := by
  cases x <;> first | exact h | cases h
theorem lv_enum {K : PySem.W.Frag} {cls : Cl} {F μ : List Addr} {H1 : Hp} {x : D} {a : Addr} (L : LisAt K cls F μ H1 x a) : LvIt K cls F (Ite K a) μ H1 x true := by
  refine ⟨fun F' μ' H' st' i d e S c h => ?_, fun F' μ' H' st' i e S c h => ?_⟩
  · obtain ⟨xs, y, q, ei, rfl⟩ := wk_some h
    obtain ⟨vs, sq, r⟩ := L F' μ' H' st' xs e S c (lis_seq q)
    obtain ⟨v, ev, rv⟩ := r.get ei
    refine ⟨⟨vs, v, sq, ev⟩, fun z H'' yy => ?_⟩
    obtain ⟨T, u, rfl, hT, rfl, yy⟩ := yy
    have := yy vs sq
    rw [ev] at this
    cases this
    have e0 : Ext μ' μ' H' (upd H' T (.tup [.int (i : Nat), v])) := ext_new hT
    exact ⟨.tup upd_same (S.fresh hT) (.cons (.int _) (.cons (rv.up e0) .nil)), .inr ⟨T, _, hT, rfl⟩⟩
  · obtain ⟨xs, q, hl⟩ := wk_none h
    obtain ⟨vs, sq, r⟩ := L F' μ' H' st' xs e S c (lis_seq q)
    exact ⟨vs, sq, by rw [← r.length]; exact hl⟩
theorem lv_tup {K : PySem.W.Frag} {cls : Cl} {F μ : List Addr} {H1 : Hp} {ds : List D} {a : Addr} {vs : List V} (r : RelL K F μ H1 ds vs) (hs : ∀ μ' H', Ext μ μ' H1 H' → SqT K H' a vs) : LvIt K cls F (Itt K a) μ H1 (.tup ds) false := by
  refine ⟨fun F' μ' H' st' i d e S c h => ?_, fun F' μ' H' st' i e S c h => ?_⟩
  · obtain ⟨xs, y, q, ei, rfl⟩ := wk_some h
    cases q
    obtain ⟨v, ev, rv⟩ := (relL_all c r).get ei
    refine ⟨⟨vs, v, hs μ' H' e, ev⟩, fun z H'' yy => ?_⟩
    obtain ⟨rfl, yy⟩ := yy
    have := yy vs (hs μ' _ e)
    rw [ev] at this
    cases this
    exact ⟨rv, .inl rfl⟩
  · obtain ⟨xs, q, hl⟩ := wk_none h
    cases q
    exact ⟨vs, hs μ' H' e, by rw [← r.length]; exact hl⟩
/-- at the first lap it must be a sequence -/
def seqG (en : Bool) (x : D) (st : DS) : R D := match srcD en st x with | some _ => .ok x st | none => .bad
section
variable {U : Wd} {n : Nat} {W : WX} {X : Cx} {F : List Addr}
theorem seqG_ok {x : D} {st : DS} {μ : List Addr} {H : Hp} {σ : L2.St} {β : Type} {Rg : List Addr → Hp → D → β → Prop} {Q : β → Hp → Prop} {en : Bool} (h : Post X.K U.cls U.xf F Rg W σ μ H (seqG en x st) Q) : ∃ ys, srcD en st x = some ys ∧ Post X.K U.cls U.xf F Rg W σ μ H (.ok x st) Q := by
  unfold seqG at h
  split at h
  · rename_i ys hy; exact ⟨ys, hy, h⟩
  · exact h.elim
theorem k_seqv {tg e : Expr} {sa : MP.Env → DS → R D} (ha : PE X e (TDx U X F W sa)) : PI X tg e (ITv U X F W false fun ρ st => (sa ρ st).bind fun x st1 => seqG false x st1) := by
  refine pi_imp (pi_or (pi_list ha) (pi_tup ha)) fun σ H Z ⟨ρ, st, μ, hE, hS, hP⟩ => ?_
  have hP : Post X.K U.cls U.xf F (fun μ H x J => LvIt X.K U.cls F J μ H x false) W σ μ H ((sa ρ st).bind fun x st1 => seqG false x st1) Z := hP
  cases es : sa ρ st with
  | bad => rw [es] at hP; exact hP.elim
  | exc a b st1 => exact .inl ⟨ρ, st, μ, hE, hS, by rw [es] at hP ⊢; exact hP⟩
  | ok d st1 =>
    rw [es] at hP
    obtain ⟨ys, hy, k⟩ := seqG_ok (U := U) (X := X) (x := d) (st := st1) hP
    cases d with
    | tup ds =>
      refine .inr ⟨ρ, st, μ, hE, hS, ?_⟩
      rw [es]
      intro μ1 H1 v x1 S1 r1
      cases r1 with
      | tup h1 h2 h3 => exact ⟨_, rfl, ⟨_, SqT.of h1⟩, k μ1 H1 _ x1 S1 (lv_tup h3 fun μ' H' e => SqT.of (e.keep _ _ h1 h2 (fun _ z => nomatch z)))⟩
      | tupK h1 h3 => exact ⟨_, rfl, ⟨_, SqT.ofW h1⟩, k μ1 H1 _ x1 S1 (lv_tup h3 fun μ' H' e => SqT.ofW h1)⟩
    | lst ds =>
      refine .inl ⟨ρ, st, μ, hE, hS, ?_⟩
      rw [es]
      intro μ1 H1 v x1 S1 r1
      obtain ⟨a, rfl, h2, L⟩ := lisAt_lst r1
      exact ⟨a, rfl, h2, k μ1 H1 _ x1 S1 (lv_list L)⟩
    | scr ds =>
      refine .inl ⟨ρ, st, μ, hE, hS, ?_⟩
      rw [es]
      intro μ1 H1 v x1 S1 r1
      obtain ⟨a, rfl, h2, L⟩ := lisAt_scr r1
      exact ⟨a, rfl, h2, k μ1 H1 _ x1 S1 (lv_list L)⟩
    | ref m =>
      refine .inl ⟨ρ, st, μ, hE, hS, ?_⟩
      rw [es]
      intro μ1 H1 v x1 S1 r1
      obtain ⟨a, rfl, h2, L⟩ := lisAt_ref S1 hy r1
      exact ⟨a, rfl, h2, k μ1 H1 _ x1 S1 (lv_list L)⟩
    | str _ => cases hy
    | non => cases hy
    | bl _ => cases hy
    | int _ => cases hy
    | dic _ => cases hy
theorem k_enumv (c : Ctx U n W X) {elts : List Expr} {kk : Nat} {tpos : Pos} {e : Expr} {p pos : Pos} {sa : MP.Env → DS → R D} (hg : Gl X "enumerate") (hn : noStar e = true) (ha : PE X e (TDx U X F W sa)) :
    PI X (.Tuple elts kk tpos) (.Call (.Name "enumerate" p) [e] [] pos) (ITv U X F W true fun ρ st => (sa ρ st).bind fun x st1 => seqG true x st1) := by
  refine pi_imp (pi_enum hg (c.gls.bi _ (by simp)) (pa_cons ha pa_nil (star1 hn)) (star1 hn)) fun σ H Z ⟨ρ, st, μ, hE, hS, hP⟩ => ?_
  refine RD.bindE hE hS hP fun d st1 μ1 H1 v eq x1 S1 r1 E1 P1 => ?_
  obtain ⟨ys, hy, k⟩ := seqG_ok (U := U) (X := X) P1
  have : ∃ a, v = .ref a ∧ (∃ vs, SqL X.K H1 a vs) ∧ LisAt X.K U.cls F μ1 H1 d a := by
    cases d with
    | lst ds => exact lisAt_lst r1
    | scr ds => exact lisAt_scr r1
    | ref m => exact lisAt_ref S1 (show seqD st1 (.ref m) = some ys from hy) r1
    | _ => cases hy
  obtain ⟨a, rfl, ⟨vs, hvs⟩, L⟩ := this
  exact ⟨a, vs, rfl, hvs, k μ1 H1 _ .refl S1 (lv_enum L)⟩
end
end MP

set_option Elab.async false
set_option linter.all false
set_option maxRecDepth 100000
set_option maxHeartbeats 4000000
namespace MP
open PySem L2 PyProof.Rows
section
variable {U : Wd} {n : Nat} {W : WX} {X : Cx} {F : List Addr}
theorem lcv_turn {x0 : D} {en : Bool} {tg : TN} {own : List Nat} {sc : MP.Env → DS → R Bool} {se : MP.Env → DS → R D} {m : Bool} {σ : L2.St} {ρ : MP.Env} {Q : VK} {J : It} {μ1 : List Addr} {H1 : Hp} {st1 : DS} (hown : ∀ j ∈ tnS tg, j ∈ own)
    (E1 : EnvRel X.K F μ1 H1 ρ σ) (S1 : StRel X.K U.cls F μ1 H1 st1) (hJ : LvIt X.K U.cls F J μ1 H1 x0 en)
    (P1 : Post X.K U.cls U.xf F (rlD X.K F) W σ μ1 H1 ((lcV (lcF tg own sc se ρ) en x0 fuel 0 [] st1).bind fun ys st2 => newL m ys st2) Q) :
    ∀ D, H1 D = none → ∃ W' : Nat → Nat → Hp → Prop, (∃ m, W' 0 m (upd H1 D (.lst []))) ∧ ∀ i m H, W' i m H →
      (J.stop i H ∧ Q (.ref D) H) ∨ (J.go i H ∧ ∃ Nx : Hp → Prop, (∀ H', Nx H' → ∃ m', m' < m ∧ W' (i + 1) m' H') ∧ ∀ x H', J.yld i H x H' → gTN X.K tg x (wipe σ own) H' fun σ2 H2 => wipe σ2 own = wipe σ own ∧ anyB U X sc σ2 H2 fun b H3 =>
        if b = true then anyD U X se σ2 H3 fun y H4 => ∃ acc, H4 D = some (.lst acc) ∧ acc.length < sizeLine ∧ Nx (upd H4 D (.lst (acc ++ [y]))) else Nx H3) := by
  intro D hD
  have hF : D ∉ F := S1.freshF hD
  -- what holds ahead of turn i
  let Inn : Nat → Nat → Hp → Prop := fun k i H => ∃ (μ' : List Addr) (st : DS) (acc : List MP.D) (vs : List V), Ext (D :: μ1) (D :: μ') (upd H1 D (.lst [])) H ∧ StRel X.K U.cls (D :: F) μ' H st ∧ H D = some (.lst vs) ∧ RelL X.K (D :: F) μ' H acc vs ∧
    (∀ d v, Rel X.K F μ1 H1 d v → Rel X.K (D :: F) μ' H d v) ∧
    Post X.K U.cls U.xf F (rlD X.K F) W σ μ1 H1 ((lcV (lcF tg own sc se ρ) en x0 k i acc st).bind fun ys st2 => newL m ys st2) Q
  refine ⟨fun i k H => Inn k i H, ⟨fuel, μ1, st1, [], [], Ext.refl, S1.lay hD _, upd_same, .nil, fun d v r => ?_, P1⟩, ?_⟩
  · exact Rel.mono (ext_new hD) _ _ (Rel.addF hD d v r)
  rintro i k H ⟨μ', st, acc, vs, e, S, hv, ra, car, P⟩
  cases k with
  | zero => exact P.elim
  | succ k =>
  have nmD : D ∉ μ' := fun z => S.dis D z List.mem_cons_self
  have e1 : Ext μ1 μ' H1 H := ext_made hD _ e
  have P : Post X.K U.cls U.xf F (rlD X.K F) W σ μ1 H1 ((match wkD en st x0 i with
    | none => R.bad
    | some none => .ok acc st
    | some (some d) => match lcF tg own sc se ρ d st with
      | .ok (some y) st1 => if acc.length < sizeLine then lcV (lcF tg own sc se ρ) en x0 k (i + 1) (acc ++ [y]) st1 else .bad
      | .ok none st1 => lcV (lcF tg own sc se ρ) en x0 k (i + 1) acc st1
      | _ => .bad).bind fun ys st2 => newL m ys st2) Q := P
  cases ew : wkD en st x0 i with
  | none => rw [ew] at P; exact P.elim
  | some o =>
   cases o with
   | some d =>
    simp only [ew] at P
    obtain ⟨hgo, hyl⟩ := hJ.go (D :: F) μ' H st i d e1 S car ew
    refine .inr ⟨hgo, Inn k (i + 1), fun H' q => ⟨k, Nat.lt_succ_self k, q⟩, fun x H' y => ?_⟩
    obtain ⟨rd, hh⟩ := hyl x H' y
    have e2 : Ext μ' μ' H H' := by
      rcases hh with rfl | ⟨T, xs, hT, rfl⟩
      · exact .refl
      · exact ext_new hT
    have S2 : StRel X.K U.cls (D :: F) μ' H' st := by
      rcases hh with rfl | ⟨T, xs, hT, rfl⟩
      · exact S
      · exact S.new hT
    have hv2 : H' D = some (.lst vs) := e2.keep _ _ hv nmD (fun _ z => nomatch z)
    have E2 : EnvRel X.K (D :: F) μ' H' (wipeV ρ own) (wipe σ own) := EnvRel.wipe ⟨E1.1, fun j dd hj => by
      obtain ⟨v, a, b⟩ := E1.2 j dd hj
      exact ⟨v, a, (car dd v b).up e2⟩⟩ own
    unfold lcF at P
    cases et : tnD tg d (wipeV ρ own) with
    | none => rw [et] at P; exact P.elim
    | some ρ2 =>
      simp only [et] at P
      refine ⟨D :: F, μ', wipeV ρ own, d, ρ2, E2, rd, et, fun σ2 Eσ hl hj => ⟨?_, ?_⟩⟩
      · exact (wipe_eq hl fun j hj' => hj j fun z => hj' (hown j z)).trans wipe_wipe
      -- the test
      refine ⟨D :: F, ρ2, st, μ', Eσ, S2, ?_⟩
      cases es : sc ρ2 st with
      | bad => rw [es] at P; exact P.elim
      | exc a b c => rw [es] at P; exact P.elim
      | ok kb st3 =>
        rw [es] at P
        intro μ3 H3 kb' x3 S3 rk
        cases rk
        have hv3 : H3 D = some (.lst vs) := x3.keep _ _ hv2 nmD (fun _ z => nomatch z)
        cases kb with
        | false =>
          rw [if_neg (by decide)]
          exact ⟨μ3, st3, acc, vs, e.trans ((e2.trans x3).cons D), S3, hv3, ra.up (e2.trans x3), fun d v r => (car d v r).up (e2.trans x3), P⟩
        | true =>
          rw [if_pos rfl]
          have P : Post X.K U.cls U.xf F (rlD X.K F) W σ μ1 H1 ((match (se ρ2 st3).bind fun d st4 => R.ok (some d) st4 with | .ok (some d) st1 => if acc.length < sizeLine then lcV (lcF tg own sc se ρ) en x0 k (i + 1) (acc ++ [d]) st1 else .bad | .ok none st1 => lcV (lcF tg own sc se ρ) en x0 k (i + 1) acc st1 | _ => .bad).bind fun ys st2 => newL m ys st2) Q := P
          refine ⟨D :: F, ρ2, st3, μ3, Eσ.mono x3, S3, ?_⟩
          cases ee : se ρ2 st3 with
          | bad => rw [ee] at P; exact P.elim
          | exc a b c => rw [ee] at P; exact P.elim
          | ok dy st4 =>
            rw [ee] at P
            intro μ4 H4 y4 x4 S4 r4
            have nm3 : D ∉ μ3 := fun z => S3.dis D z List.mem_cons_self
            have nm4 : D ∉ μ4 := fun z => S4.dis D z List.mem_cons_self
            have hv4 : H4 D = some (.lst vs) := x4.keep _ _ hv3 nm3 (fun _ z => nomatch z)
            have P : Post X.K U.cls U.xf F (rlD X.K F) W σ μ1 H1 ((if acc.length < sizeLine then lcV (lcF tg own sc se ρ) en x0 k (i + 1) (acc ++ [dy]) st4 else .bad).bind fun ys st2 => newL m ys st2) Q := P
            have e4 := (e2.trans x3).trans x4
            have ra4 := ra.up e4
            by_cases hz : acc.length < sizeLine
            · rw [if_pos hz] at P
              have ch : Chg F μ4 H4 (upd H4 D (.lst (vs ++ [y4]))) D := ⟨⟨_, hv4, .inl ⟨_, rfl⟩⟩, fun a ha => upd_ne ha⟩
              refine ⟨vs, hv4, by rw [← ra4.length]; exact hz, μ4, st4, acc ++ [dy], vs ++ [y4], ?_, S4.chg ch (by rw [upd_same]; exact fun z => nomatch z), upd_same, ?_, fun d v r => Rel.chg ch _ _ ((car d v r).up e4), P⟩
              · exact (e.trans (e4.cons D)).trans (ext_set List.mem_cons_self)
              · exact (RelL.chg ch _ _ ra4).append (.cons (Rel.chg ch _ _ r4) .nil)
            · rw [if_neg hz] at P; exact P.elim
   | none =>
    simp only [ew] at P
    refine .inl ⟨hJ.stop (D :: F) μ' H st i e1 S car ew, ?_⟩
    exact newL_end hD _ e S hv ra (Post.shift .refl P) hF
/-- a comprehension over a list as it stands -/
def lvS (m en : Bool) (tg : TN) (own : List Nat) (si : MP.Env → DS → R D) (sc : MP.Env → DS → R Bool) (se : MP.Env → DS → R D) : MP.Env → DS → R D := fun ρ st => (si ρ st).bind fun x st1 => (lcV (lcF tg own sc se ρ) en x fuel 0 [] st1).bind fun ys st2 => newL m ys st2
theorem lv_imp {m en : Bool} {tg : TN} {own : List Nat} {si : MP.Env → DS → R D} {sc : MP.Env → DS → R Bool} {se : MP.Env → DS → R D} (hown : ∀ j ∈ tnS tg, j ∈ own) {σ : L2.St} {H : Hp} {Q : VK} (h : TDx U X F W (lvS m en tg own si sc se) σ H Q) :
    tLc (ITv U X F W en si) (gTN X.K tg) (anyB U X sc) (anyD U X se) own σ H Q := by
  obtain ⟨ρ, st, μ, hE, hS, hP⟩ := h
  refine RD.bind hE hS hP fun x st1 μ1 H1 J x1 S1 r1 E1 P1 => ?_
  exact lcv_turn hown E1 S1 r1 P1
theorem k_lcv (c : Ctx U n W X) {m en : Bool} {tg : TN} {own : List Nat} {elt tge iter : Expr} {ifs : List Expr} {scope : Scope} {pos : Pos} {si : MP.Env → DS → R D} {sc : MP.Env → DS → R Bool} {se : MP.Env → DS → R D}
    (hown : (tnS tg).all (fun j => decide (j ∈ own)) = true) (hb : blkC X.N X.env.scope scope (ownN X.N own) = true) (hns : notSet iter = true) (htg : cTN X.N (relS scope X.env.scope) (fun x => scope.names.lookup x == some .cell) tg tge = true)
    (hi : PI X tge iter (ITv U X F W en si)) (ht : ∀ (Y : Cx) (s : Shared) (H : Hp) (C : Addr) (cl : List (Str × Addr)) (fp : List Addr), Y = X.blk s H scope (compEnvC scope cl C X.env) fp → PTs Y ifs (anyB U X sc))
    (he : ∀ (Y : Cx) (s : Shared) (H : Hp) (C : Addr) (cl : List (Str × Addr)) (fp : List Addr), Y = X.blk s H scope (compEnvC scope cl C X.env) fp → PE Y elt (anyD U X se)) :
    PE X (.ListComp elt [⟨tge, iter, ifs, 0⟩] scope pos) (TDx U X F W (lvS m en tg own si sc se)) := by
  have hown' : ∀ j ∈ tnS tg, j ∈ own := fun j hj => by simpa using List.all_eq_true.mp hown j hj
  refine pe_imp (pe_lc (wi := ITv U X F W en si) (g := gTN X.K tg) (tt := anyB U X sc) (te := anyD U X se) c.calm c.nd hi (blkOk_by hb) (fun s H C cl fp => pgTN (X := X.blk s H scope (compEnvC scope cl C X.env) fp) c.calm c.nd tg tge htg) (fun s H C cl fp => ht _ s H C cl fp rfl) (fun s H C cl fp => he _ s H C cl fp rfl) (notSet_eq hns)) fun σ H Q h => ?_
  rw [ownN_snd]
  exact lv_imp hown' h
end
end MP

set_option Elab.async false
set_option linter.all false
set_option maxRecDepth 100000
set_option maxHeartbeats 4000000
namespace MP
open PySem L2 PyProof.Rows PySem.Spec
/-! ### a tuple, the other way round -/
section
variable {prog : Program} {w : World} {A : Around} {E : Value → Shared → Prop} {s : Shared}
theorem rev_picks (xs : Array Value) : ((List.range xs.size).filterMap fun (m : Nat) => xs[(((xs.size : Int) - 1) + (m : Int) * (-1)).toNat]?).toArray = xs.toList.reverse.toArray := by
  congr 1
  have e : (List.range xs.size).filterMap (fun (m : Nat) => xs[(((xs.size : Int) - 1) + (m : Int) * (-1)).toNat]?) = (List.range xs.size).filterMap ((fun k => xs[k]?) ∘ fun k => xs.size - 1 - k) := by
    have go : ∀ l : List Nat, (∀ m ∈ l, m < xs.size) → l.filterMap (fun (m : Nat) => xs[(((xs.size : Int) - 1) + (m : Int) * (-1)).toNat]?) = l.filterMap ((fun k => xs[k]?) ∘ fun k => xs.size - 1 - k) := by
      intro l
      induction l with
      | nil => intro _; rfl
      | cons m r ih =>
        intro hl
        have h := hl m List.mem_cons_self
        have e1 : (((xs.size : Int) - 1) + (m : Int) * (-1)).toNat = xs.size - 1 - m := by omega
        rw [List.filterMap_cons, List.filterMap_cons, ih fun j hj => hl j (List.mem_cons_of_mem _ hj), e1]
        rfl
    exact go _ fun m hm => List.mem_range.mp hm
  rw [e, ← List.filterMap_map, PySem.W.krv_range, List.filterMap_reverse, PySem.W.krv_all]
theorem adjust_rev (n : Nat) : Builtin.Slice.sliceAdjust none none (-1) (n : Int) = ((n : Int) - 1, -1) := by
  unfold Builtin.Slice.sliceAdjust
  rfl
theorem places_rev (n : Nat) : Builtin.Slice.slicePlaces ((n : Int) - 1) (-1) (-1) = n := by
  unfold Builtin.Slice.slicePlaces
  rw [if_neg (by decide), show (- -1 : Int) = 1 by decide, Int.ediv_one]
  split <;> omega
theorem getItem_tuple_rev {t sl : Addr} {items : Array Value} {vk : Value} {Q : Value → Shared → Prop} (ht : IsTup s.heap t items)
    (hs : s.heap.IsSliceOf sl .none .none vk) (pk : IsPart vk (some (-1)))
    (h : Q (.ref s.heap.objs.size) { s with heap := s.heap.push { cls := .type "tuple", data := .seq items.toList.reverse.toArray } })
    (hz : items.size ≤ sizeLine) : wpAny (model prog w) A (getItem (.ref t) (.ref sl)) Q E s := by
  have fits : sizeOk (.seq items.toList.reverse.toArray) := by
    show items.toList.reverse.toArray.size ≤ sizeLine
    rw [List.size_toArray, List.length_reverse, Array.length_toList]
    exact hz
  obtain ⟨os, hos, hcs, hds⟩ := id hs
  have isl : s.TypeIs (.ref sl) "slice" := ⟨os, hos, hcs⟩
  unfold getItem
  try with_reducible refine wpAny_holding ?_
  first
  | refine wpAny_bind (wpAny_pure ?_)
  | skip
  refine wpAny_bind (wpAny_sequenceKey ht.typeIs
    (by decide) ?_)
  refine wpAny_bind (wpAny_callSpecial?_slot
    (name := Str.ofString "__getitem__") ht.typeIs
    PyProof.Rows.slot_tuple_getitem
    (wpAny_call_entry PyProof.Rows.slot_tuple_getitem
      ht.typeIs entry_tuple_getitem ?_ (args_tuple_getitem _ _)))
  show wpAny _ _
    (Builtin.Tuple.tupleItemsOf (.ref t) >>= _) _ _ s
  refine wpAny_bind
    (tupleItemsOf_ ht ?_)
  refine wpAny_bind
    (wpAny_typeOf isl ?_)
  rw [if_pos
    (by decide)]
  refine wpAny_bind (Q := _) ?_
  unfold Builtin.Slice.sliceApplied
  unfold Builtin.Slice.sliceFields
  refine wpAny_bind (wpAny_bind
    (wpAny_field hos hds (x := .none) rfl (wpAny_bind
      (wpAny_field hos hds (x := .none) rfl (wpAny_bind
        (wpAny_field hos hds (x := vk) rfl (wpAny_pure ?_)))))))
  refine wpAny_bind
    (HT.slicePart_ pk ?_)
  show wpAny _ _
    (if ((-1 : Int) == 0) = true then _ else _) _ _ s
  rw [if_neg
    (by decide)]
  refine wpAny_bind (HT.slicePart_ .none
    (wpAny_bind (HT.slicePart_ .none (wpAny_bind (wpAny_pure ?_)))))
  show wpAny _ _ (match Builtin.Slice.sliceAdjust none none (-1) (items.size : Int) with
    | (lo, hi) => pure (lo, (-1 : Int), Builtin.Slice.slicePlaces lo hi (-1))) _ _ s
  rw [adjust_rev]
  show wpAny _ _ (pure ((items.size : Int) - 1, (-1 : Int), Builtin.Slice.slicePlaces ((items.size : Int) - 1) (-1) (-1))) _ _ s
  rw [places_rev]
  refine wpAny_pure ?_
  show wpAny _ _ (if ((((items.size : Int) - 1) == 0 && (-1 : Int) == 1 && items.size == items.size) = true) then _ else _) _ _ s
  rw [if_neg (by simp), rev_picks]
  first
    | exact wpAny_bind (m := Builtin.Tuple.tupleExact _)
        (wpAny_newObj_type (wpAny_pure ⟨_, rfl, wpAny_pure h⟩) fits)
    | exact wpAny_bind (m := Builtin.Tuple.tupleExact _)
        (wpAny_newObj_type (wpAny_bind (wpAny_pure (wpAny_pure ⟨_, rfl, wpAny_pure h⟩))) fits)
    | exact wpAny_bind (wpAny_bind (m := Builtin.Tuple.tupleExact _)
        (wpAny_newObj_type (wpAny_pure (wpAny_pure ⟨_, rfl, wpAny_pure h⟩)) fits))
    | exact wpAny_bind (wpAny_bind (m := Builtin.Tuple.tupleExact _)
        (wpAny_newObj_type (wpAny_pure ⟨_, rfl, wpAny_pure h⟩) fits))
end
section
variable {X : Cx}
def tRevT (K : PySem.W.Frag) (te : TE) : TE := fun σ H Q => te σ H fun x H1 => ∃ a xs, x = .ref a ∧ SqT K H1 a xs ∧ ∀ p, H1 p = none → Q (.ref p) (upd H1 p (.tup xs.reverse))
theorem pe_revT {e : Expr} {te : TE} {k : Nat} {p1 p2 p3 pos : Pos} (he : PE X e te) : PE X (.Subscript e (.Slice none none (some (.UnaryOp .USub (.Constant (.int 1) k p1) p2)) p3) pos) (tRevT X.K te) := by
  refine ⟨fun pins s σ H Q I h => ?_⟩
  refine Subscript_ (thn (he.run pins s σ H _ I h) fun v s1 ⟨x, H1, I1, r1, a, xs, ex, hx, q⟩ => ?_)
  subst ex
  cases r1
  have hst : PO X (some (.UnaryOp .USub (.Constant (.int 1) k p1) p2)) (tPart (tUn (rU fun i => .int (-i)) (tC (.int 1)))) :=
    po_some (pe_un un_neg pe_int)
  refine wpAny_Slice (thn (po_none.run pins s1 σ H1 (fun o H2 => o = none ∧ H2 = H1) I1
    ⟨rfl, rfl⟩) fun vl s2 ⟨l, H2, I2, pl, el, e2⟩ => ?_)
  subst el e2
  refine thn (po_none.run pins s2 σ H2 (fun o H3 => o = none ∧ H3 = H2) I2
    ⟨rfl, rfl⟩) fun vu s3 ⟨u, H3, I3, pu, eu, e3⟩ => ?_
  subst eu e3
  refine thn (hst.run pins s3 σ H3 (fun o H4 => o = some (-1) ∧ H4 = H3) I3
    ⟨1, rfl, -1, rfl, rfl, rfl⟩) fun vs s4 ⟨o, H4, I4, ps, eo, e4⟩ => ?_
  subst eo e4
  cases pl
  cases pu
  have I5 : Inv X pins σ H4 { s4 with heap := s4.heap.push { cls := .type "slice", data := .fields #[.none, .none, vs] } } :=
    I4.kept (t' := s4.toks) fun b ob q => Heap.get?_push_of_some _ q
  obtain ⟨its, r, ht, hz⟩ := I5.tuple hx
  have hlen := r.length
  show wpAny (model X.prog X.w) X.A (subscriptTail e (.Slice none none
    (some (.UnaryOp .USub (.Constant (.int 1) k p1) p2)) p3) (.ref a) (.ref s4.heap.objs.size)) (EP X pins σ Q) X.xe
    { s4 with heap := s4.heap.push { cls := .type "slice", data := .fields #[.none, .none, vs] } }
  refine tail_any (ops := [.ref a, .ref s4.heap.objs.size]) ht.typeIs
    PyProof.Rows.slot_tuple_getitem.lookup ?_ (by with_unfolding_all rfl)
  refine getItem_tuple_rev ht (Heap.IsSliceOf.new _ .none .none vs) ps ?_ (by rw [List.size_toArray]; omega)
  refine ⟨.ref _, _, I5.laid (t' := s4.toks) (o := .tup xs.reverse)
    (fun b ob q => Heap.get?_push_of_some _ q) (Nat.le_refl _) ?_, rfl, q _ (I5.hok.fresh (Nat.le_refl _))⟩
  exact ⟨by rw [List.length_reverse]; exact hz, _, r.reverse, IsTup.new _ _⟩
end
end MP

set_option Elab.async false
set_option linter.all false
set_option maxRecDepth 100000
set_option maxHeartbeats 4000000
namespace MP
open PySem L2 PyProof.Rows
section
variable {U : Wd} {n : Nat} {W : WX} {X : Cx} {F : List Addr}
theorem k_revT {a : Expr} {k : Nat} {p1 p2 p3 p : Pos} {sa : MP.Env → DS → R D} (ha : PE X a (TDx U X F W sa)) :
    PE X (.Subscript a (.Slice none none (some (.UnaryOp .USub (.Constant (.int 1) k p1) p2)) p3) p) (TDx U X F W fun ρ st => (sa ρ st).bind fun x st1 => match x with | .tup xs => .ok (.tup xs.reverse) st1 | _ => .bad) :=
  pe_imp (pe_revT ha) fun σ H Q ⟨ρ, st, μ, hE, hS, hP⟩ => RD.bind hE hS hP fun d st1 μ1 H1 v x1 S1 r1 E1 P1 => by
    cases d <;> first | exact P1.elim | skip
    obtain ⟨b, vs, rfl, sq, r4⟩ := tupD_rel r1
    exact ⟨b, vs, rfl, sq, fun q hq => P1 μ1 _ _ (ext_new hq) (S1.new hq) (new_tup S1 hq r4.reverse)⟩
theorem k_binO {op : BOp} {a b : Expr} {p : Pos} {sa sb : MP.Env → DS → R D} (ha : PE X a (TDx U X F W sa)) (hb : PE X b (TDx U X F W sb)) :
    PE X (.BinOp a (toOp op) b p) (TDx U X F W fun ρ st => (sa ρ st).bind fun x st1 => (sb ρ st1).bind fun y st2 => match catD op st2 x y with | some zs => newL true zs st2 | none => .bad) :=
  pe_imp (pe_op (cat_ok (cls := U.cls) (F := F) op) ha hb) fun σ H Q ⟨ρ, st, μ, hE, hS, hP⟩ =>
    RD.bind hE hS hP fun d1 st1 μ1 H1 v1 x1 S1 r1 E1 P1 => RD.bind E1 S1 P1 fun d2 st2 μ2 H2 v2 x2 S2 r2 E2 P2 => by
      cases e : catD op st2 d1 d2 with
      | none => rw [e] at P2; exact P2.elim
      | some zs =>
        rw [e] at P2
        exact ⟨μ2, st2, d1, d2, zs, S2, r1.up x2, r2, e, fun ws p hp rl => newL_ok S2 rl P2 hp⟩
theorem k_bad {e : Expr} : PE X e (TDx U X F W fun _ _ => .bad) := ⟨fun pins s σ H Q I ⟨ρ, st, μ, hE, hS, hP⟩ => hP.elim⟩
/-! ### dicts that come new -/
theorem RelP.append {K : PySem.W.Frag} {μ : List Addr} {H : Hp} : ∀ {ds es : List (D × D)} {vs ws : List (Key × V)}, RelP K F μ H ds vs → RelP K F μ H es ws → RelP K F μ H (ds ++ es) (vs ++ ws)
  | [], _, _, _, h, g => by cases h; exact g
  | (k, d) :: ds, _, _, _, h, g => by
    cases h with
    | cons h0 h1 h2 => exact .cons h0 h1 (RelP.append h2 g)
theorem RelP.any {K : PySem.W.Frag} {μ : List Addr} {H : Hp} {k : Key} : ∀ {ds : List (D × D)} {vs : List (Key × V)}, RelP K F μ H ds vs → ds.any (fun kv => decide (keyOf kv.1 = some k)) = vs.any fun kv => decide (kv.1 = k)
  | [], _, h => by cases h; rfl
  | (a, d) :: ds, _, h => by
    cases h with
    | cons h0 h1 h2 =>
      rw [List.any_cons, List.any_cons, RelP.any h2]
      dsimp only
      rw [h0]
      simp
theorem RelP.map {K : PySem.W.Frag} {μ : List Addr} {H : Hp} {k : Key} {y : D} {v : V} (r : Rel K F μ H y v) : ∀ {ds : List (D × D)} {vs : List (Key × V)}, RelP K F μ H ds vs →
    RelP K F μ H (ds.map fun kv => if keyOf kv.1 = some k then (kv.1, y) else kv) (vs.map fun kv => if kv.1 = k then (kv.1, v) else kv)
  | [], _, h => by cases h; exact .nil
  | (a, d) :: ds, _, h => by
    cases h with
    | @cons _ _ key w _ vs h0 h1 h2 =>
      rw [List.map_cons, List.map_cons]
      dsimp only
      by_cases e : key = k
      · rw [if_pos (by rw [h0, e]), if_pos e]
        exact .cons h0 r (RelP.map r h2)
      · rw [if_neg (by rw [h0]; simpa using e), if_neg e]
        exact .cons h0 h1 (RelP.map r h2)
theorem RelP.put {K : PySem.W.Frag} {μ : List Addr} {H : Hp} {k : Key} {x y : D} {v : V} {ds : List (D × D)} {vs : List (Key × V)} (h : RelP K F μ H ds vs) (hk : keyOf x = some k) (r : Rel K F μ H y v) : RelP K F μ H (putP ds k x y) (putK vs k v) := by
  unfold putP putK
  rw [h.any]
  split
  · exact h.map r
  · exact h.append (.cons hk r .nil)
theorem RelP.merge {K : PySem.W.Frag} {μ : List Addr} {H : Hp} : ∀ {es : List (D × D)} {ws : List (Key × V)} {ds : List (D × D)} {vs : List (Key × V)}, RelP K F μ H es ws → RelP K F μ H ds vs → RelP K F μ H (mergeP ds es) (mergeK vs ws)
  | [], _, _, _, h, g => by cases h; exact g
  | (k, d) :: es, _, ds, vs, h, g => by
    cases h with
    | @cons _ _ key w _ ws h0 h1 h2 =>
      have e1 : mergeP ds ((k, d) :: es) = mergeP (putP ds key k d) es := by
        show (match keyOf k with | some a => mergeP (putP ds a k d) es | none => ds) = _
        rw [h0]
      rw [e1]
      show RelP K F μ H _ (mergeK (putK vs key w) ws)
      exact RelP.merge h2 (g.put h0 h1)
theorem pairUp_len : ∀ {xs : List D} {kvs : List (D × D)}, pairUp xs = some kvs → xs.length = 2 * kvs.length
  | [], _, h => by cases h; rfl
  | [_], _, h => by cases h
  | k :: v :: r, _, h => by
    have h' : (pairUp r).map (fun l => (k, v) :: l) = some _ := h
    obtain ⟨l, e, rfl⟩ := laysome h'
    have := pairUp_len e
    simp only [List.length_cons]
    omega
/-- the pairs of a display, as values -/
theorem pairs_rel {K : PySem.W.Frag} {μ : List Addr} {H : Hp} : ∀ {xs : List D} {kvs : List (D × D)} {l : List (Key × D)} {ps : List (V × V)}, RelL K F μ H xs (ps.flatMap fun p => [p.1, p.2]) → pairUp xs = some kvs → keysOf kvs = some l →
    ∃ vs : List (Key × V), ps = vs.map (fun kv => (kV kv.1, kv.2)) ∧ RelP K F μ H kvs vs
  | [], _, _, ps, r, h, _ => by
    cases h
    cases ps with
    | nil => exact ⟨[], rfl, .nil⟩
    | cons p ps => cases r
  | [_], _, _, _, _, h, _ => by cases h
  | k :: v :: r, _, _, ps, rl, h, hk => by
    have h' : (pairUp r).map (fun l => (k, v) :: l) = some _ := h
    obtain ⟨kvs, e, rfl⟩ := laysome h'
    cases ps with
    | nil => cases rl
    | cons p ps =>
      have rl' : RelL K F μ H (k :: v :: r) (p.1 :: p.2 :: ps.flatMap fun p => [p.1, p.2]) := rl
      cases rl' with
      | cons r1 r2 =>
        cases r2 with
        | cons r3 r4 =>
          unfold keysOf at hk
          split at hk
          · rename_i a b ea eb
            cases hk
            obtain ⟨vs, e1, e2⟩ := pairs_rel r4 e eb
            refine ⟨(a, p.2) :: vs, ?_, .cons ea r3 e2⟩
            rw [List.map_cons, ← e1, ← rel_key r1 ea]
          · cases hk
def anyW (U : Wd) (X : Cx) (W : WX) (sem : MP.Env → DS → R D) : TE := fun σ H Q => ∃ F, TDx U X F W sem σ H Q
theorem pe_anyW {X : Cx} {e : Expr} {sem : MP.Env → DS → R D} (h : ∀ F, PE X e (TDx U X F W sem)) : PE X e (anyW U X W sem) := ⟨fun pins s σ H Q I ⟨F, q⟩ => (h F).run pins s σ H Q I q⟩
/-- the meanings of a display's expressions, one after another -/
def seqR : List (MP.Env → DS → R D) → MP.Env → DS → R (List D)
  | [], _, st => .ok [] st
  | f :: r, ρ, st => (f ρ st).bind fun x st1 => (seqR r ρ st1).bind fun xs st2 => .ok (x :: xs) st2
def trsOf (U : Wd) (X : Cx) (W : WX) : List (MP.Env → DS → R D) → List (TE × TE)
  | a :: b :: r => (anyW U X W a, anyW U X W b) :: trsOf U X W r
  | _ => []
theorem R.bind_ok {α β : Type} {x : R α} {k : α → DS → R β} {b : β} {st' : DS} (h : x.bind k = .ok b st') : ∃ a st1, x = .ok a st1 ∧ k a st1 = .ok b st' := by
  cases x with
  | ok a st1 => exact ⟨a, st1, rfl, h⟩
  | exc a b c => cases h
  | bad => cases h
theorem pairs_imp {F' : List Addr} {σ : L2.St} {ρ : MP.Env} : ∀ (fs : List (MP.Env → DS → R D)) (st : DS) (μ : List Addr) (H : Hp) (Q' : List (V × V) → Hp → Prop) (ds : List D) (st1 : DS) (kvs : List (D × D)), EnvRel X.K F' μ H ρ σ → StRel X.K U.cls F' μ H st → seqR fs ρ st = .ok ds st1 → pairUp ds = some kvs →
    (∀ μ1 H1 ps, Ext μ μ1 H H1 → StRel X.K U.cls F' μ1 H1 st1 → RelL X.K F' μ1 H1 ds (ps.flatMap fun (p : V × V) => [p.1, p.2]) → Q' ps H1) → tPairs (trsOf U X W fs) σ H Q'
  | [], st, μ, H, Q', ds, st1, kvs, hE, hS, e, ep, k => by
    cases e
    exact k μ H [] .refl hS .nil
  | [f], st, μ, H, Q', ds, st1, kvs, hE, hS, e, ep, k => by
    obtain ⟨a, s1, e1, e2⟩ := R.bind_ok e
    cases e2
    cases ep
  | f :: g :: r, st, μ, H, Q', ds, st1, kvs, hE, hS, e, ep, k => by
    obtain ⟨a, s1, e1, e2⟩ := R.bind_ok e
    obtain ⟨xs, s2, e3, e4⟩ := R.bind_ok e2
    cases e4
    obtain ⟨b, s3, e5, e6⟩ := R.bind_ok e3
    obtain ⟨ys, s4, e7, e8⟩ := R.bind_ok e6
    cases e8
    have ep' : (pairUp ys).map (fun l => (a, b) :: l) = some kvs := ep
    obtain ⟨kvs', ep2, rfl⟩ := laysome ep'
    refine ⟨F', ρ, st, μ, hE, hS, ?_⟩
    rw [e1]
    intro μ1 H1 v1 x1 S1 r1
    refine ⟨F', ρ, s1, μ1, hE.mono x1, S1, ?_⟩
    rw [e5]
    intro μ2 H2 v2 x2 S2 r2
    refine pairs_imp r s3 μ2 H2 _ ys _ kvs' (hE.mono (x1.trans x2)) S2 e7 ep2 fun μ3 H3 ps x3 S3 r3 => ?_
    exact k μ3 H3 ((v1, v2) :: ps) ((x1.trans x2).trans x3) S3 (.cons (r1.up (x2.trans x3)) (.cons (r2.up x3) r3))
/-- the dict at D is handed over -/
theorem newD_end {K : PySem.W.Frag} {cls : Cl} {xf : Nat → List Str} {μ μ' : List Addr} {H H' : Hp} {st : DS} {σ : L2.St} {Q : VK} {m : Bool} {ds : List (D × D)} {vs : List (Key × V)} {D₀ : Addr} (hD : H D₀ = none) (o : HO) (e : Ext (D₀ :: μ) (D₀ :: μ') (upd H D₀ o) H') (S : StRel K cls (D₀ :: F) μ' H' st) (hv : H' D₀ = some (.dK vs))
    (r : RelP K (D₀ :: F) μ' H' ds vs) (h : Post K cls xf F (rlD K F) W σ μ H (newD m ds st) Q) (hF : D₀ ∉ F) : Q (.ref D₀) H' := by
  have nm : D₀ ∉ μ' := fun z => S.dis D₀ z List.mem_cons_self
  unfold newD at h
  cases m with
  | false => exact h μ' H' _ (ext_made hD o e) S.lessF (.dic hv nm hF (RelP.lessF _ _ r))
  | true =>
    have g : Grows (.dK vs) := .inr ⟨vs, rfl⟩
    refine h _ H' _ (ext_madeO hD o e) (S.took hv g ⟨vs, hv, RelP.car (car_own hv g) _ _ r⟩ hF) (.ref ?_)
    have hl := S.len
    rw [List.getElem?_append_right (by omega), hl, Nat.sub_self]
    rfl
def dicS (m : Bool) (sl : MP.Env → DS → R (List D)) : MP.Env → DS → R D := fun ρ st => match sl ρ st with
  | .ok xs st1 => (match pairUp xs with
    | some kvs => if kvs.length ≤ 15 ∧ (keysOf kvs).isSome then newD m (mergeP [] kvs) st1 else .bad
    | none => .bad)
  | _ => .bad
theorem k_dic {m : Bool} {ks : List (Option Expr)} {es : List Expr} {p : Pos} {fs : List (MP.Env → DS → R D)} (h : PPs X p ks es (trsOf U X W fs)) (hall : ks.all (·.isSome) = true) (hl : ks.length = es.length) (h0 : ks ≠ []) (h15 : ks.length ≤ 15) :
    PE X (.Dict ks es p) (TDx U X F W (dicS m (seqR fs))) := by
  refine pe_imp (pe_disp h hall hl h0 h15) fun σ H Q ⟨ρ, st, μ, hE, hS, hP⟩ => ?_
  intro p hp
  unfold dicS at hP
  cases e : seqR fs ρ st with
  | exc a b c => rw [e] at hP; exact hP.elim
  | bad => rw [e] at hP; exact hP.elim
  | ok xs st1 =>
    rw [e] at hP
    dsimp only at hP
    cases ep : pairUp xs with
    | none => rw [ep] at hP; exact hP.elim
    | some kvs =>
      rw [ep] at hP
      dsimp only at hP
      split at hP
      · rename_i hc
        obtain ⟨l, el⟩ := Option.isSome_iff_exists.mp hc.2
        have e1 : Ext μ μ H (upd H p (.dK [])) := ext_new hp
        refine pairs_imp (F' := p :: F) fs st μ (upd H p (.dK [])) _ xs st1 kvs ((hE.addF hp).mono e1) (hS.lay hp _) e ep fun μ1 H1 ps x1 S1 r1 => ?_
        have nm : p ∉ μ := fun z => hS.ne z hp
        have nm1 : p ∉ μ1 := fun z => S1.dis p z List.mem_cons_self
        have hv : H1 p = some (.dK []) := x1.keep _ _ upd_same nm fun _ z => nomatch z
        obtain ⟨vs, e2, r2⟩ := pairs_rel r1 ep el
        refine ⟨hv, vs, e2, by rw [← r2.length]; exact hc.1, ?_⟩
        have ch : Chg F μ1 H1 (upd H1 p (.dK (mergeK [] vs))) p := ⟨⟨_, hv, .inr ⟨_, rfl⟩⟩, fun a ha => upd_ne ha⟩
        refine newD_end hp (.dK []) ((x1.cons p).trans (ext_set List.mem_cons_self)) (S1.chg ch (by rw [upd_same]; exact fun z => nomatch z)) upd_same (RelP.chg ch _ _ (RelP.merge r2 .nil)) hP (hS.freshF hp)
      · exact hP.elim
theorem k_emp {m : Bool} {p : Pos} : PE X (.Dict [] [] p) (TDx U X F W fun _ st => newD m [] st) :=
  pe_imp pe_dnewK fun σ H Q ⟨ρ, st, μ, hE, hS, hP⟩ q hq => newD_end hq (.dK []) .refl (hS.lay hq _) upd_same .nil hP (hS.freshF hq)
/-! ### methods -/
theorem lstR' {μ : List Addr} {H : Hp} {st : DS} {n : Nat} {v : V} (S : StRel X.K U.cls F μ H st) (r : Rel X.K F μ H (.ref n) v) {ob : Ob} (e : getO st n = some ob) : ∃ a, v = .ref a ∧ μ[n]? = some a ∧ ObRel X.K U.cls F μ H a ob := by
  cases r with
  | ref hn =>
    obtain ⟨ob', e', o⟩ := S.obj n _ hn
    rw [e] at e'; cases e'
    exact ⟨_, rfl, hn, o⟩
theorem tyL {μ : List Addr} {H : Hp} {st : DS} {d : D} {v : V} (S : StRel X.K U.cls F μ H st) (r : Rel X.K F μ H d v) (h : (lstD st d).isSome = true) : tyV X.K "list" v H := by
  obtain ⟨xs, e⟩ := Option.isSome_iff_exists.mp h
  obtain ⟨a, vs, rfl, ha, _⟩ := lstR S r e
  exact .inl ⟨rfl, vs, SqL.of ha⟩
theorem setL {μ : List Addr} {H : Hp} {st : DS} {n : Nat} {a : Addr} {xs ys : List D} {ws : List V} (S : StRel X.K U.cls F μ H st) (hn : μ[n]? = some a) (r : RelL X.K F μ H ys ws) : Ext μ μ H (upd H a (.lst ws)) ∧ StRel X.K U.cls F μ (upd H a (.lst ws)) (setO st n (.lst ys)) := by
  have e : Ext μ μ H (upd H a (.lst ws)) := ext_set (List.mem_of_getElem? hn)
  exact ⟨e, S.set hn ⟨ws, upd_same, r.up e⟩⟩
/-- o.append(x) -/
theorem k_append {o e : Expr} {apos cpos : Pos} {so : MP.Env → DS → R D} {sr : MP.Env → DS → R (List D)} (ho : PE X o (TDx U X F W so)) (hr : PA X [e] (TLx U X F W sr)) (hn : noStar e = true) (hb : plainBase o = true) (hln : (apos.endLine == cpos.line) = true) :
    PE X (.Call (.Attribute o "append" apos) [e] [] cpos) (TDx U X F W fun ρ st => (so ρ st).bind fun x st1 => if mtyD .append st1 x then (sr ρ st1).bind fun xs st2 => methD .append st2 x xs else .bad) := by
  refine pe_imp (pe_bm (r := rAppend) PySem.F.plainAttrs_list PySem.F.slot_list_append type_list_append mt_append ho hr (plainBase_eq hb) (by rw [star1 hn]; rfl) hln (star1 hn) rfl) fun σ H Q ⟨ρ, st, μ, hE, hS, hP⟩ => RD.bind hE hS hP fun d st1 μ1 H1 v x1 S1 r1 E1 P1 => ?_
  split at P1
  · rename_i hm
    refine ⟨tyL S1 r1 hm, RD.bind E1 S1 P1 fun ds st2 μ2 H2 vs x2 S2 r2 E2 P2 => ?_⟩
    cases d <;> first | exact P2.elim | skip
    rename_i n
    rcases ds with _ | ⟨d', _ | ⟨d2, ds⟩⟩
    · exact P2.elim
    rotate_left
    · exact P2.elim
    unfold methD at P2
    dsimp only at P2
    cases eo : getO st2 n with
    | none => rw [eo] at P2; exact P2.elim
    | some ob =>
      rw [eo] at P2
      cases ob with
      | dic _ => exact P2.elim
      | ins _ _ => exact P2.elim
      | lst ys =>
        dsimp only at P2
        split at P2
        · rename_i hl
          obtain ⟨a, rfl, hn2, ws, ea, rw2⟩ := lstR' S2 (r1.up x2) eo
          obtain ⟨y, rfl, ry⟩ := relL1 r2
          obtain ⟨e1, S3⟩ := setL (xs := ys) S2 hn2 (rw2.append (.cons ry .nil))
          exact ⟨a, ws, y, rfl, rfl, ea, by rw [← rw2.length]; exact hl, P2 μ2 _ _ e1 S3 .non⟩
        · exact P2.elim
  · exact P1.elim
/-- o.pop() -/
theorem k_pop {o : Expr} {apos cpos : Pos} {so : MP.Env → DS → R D} (ho : PE X o (TDx U X F W so)) (hb : plainBase o = true) (hln : (apos.endLine == cpos.line) = true) :
    PE X (.Call (.Attribute o "pop" apos) [] [] cpos) (TDx U X F W fun ρ st => (so ρ st).bind fun x st1 => if mtyD .pop st1 x then (R.ok [] st1).bind fun xs st2 => methD .pop st2 x xs else .bad) := by
  refine pe_imp (pe_bm0 (r := rPop) PySem.F.plainAttrs_list PySem.F.slot_list_pop PySem.F.type_list_pop mt_pop ho (plainBase_eq hb) hln) fun σ H Q ⟨ρ, st, μ, hE, hS, hP⟩ => RD.bind hE hS hP fun d st1 μ1 H1 v x1 S1 r1 E1 P1 => ?_
  split at P1
  · rename_i hm
    refine ⟨tyL S1 r1 hm, ?_⟩
    have P2 : Post X.K U.cls U.xf F (rlD X.K F) W σ μ1 H1 (methD .pop st1 d []) Q := P1
    cases d <;> first | exact P2.elim | skip
    rename_i n
    unfold methD at P2
    dsimp only at P2
    cases eo : getO st1 n with
    | none => rw [eo] at P2; exact P2.elim
    | some ob =>
      rw [eo] at P2
      cases ob with
      | dic _ => exact P2.elim
      | ins _ _ => exact P2.elim
      | lst ys =>
        dsimp only at P2
        split at P2
        · rename_i y hy
          obtain ⟨a, rfl, hn2, ws, ea, rw2⟩ := lstR' S1 r1 eo
          obtain ⟨w', hw, ry⟩ := rw2.get hy
          obtain ⟨e1, S3⟩ := setL (xs := ys) S1 hn2 rw2.dropLast
          exact ⟨a, ws, w', rfl, rfl, ea, by rw [← rw2.length]; exact hw, P2 μ1 _ _ e1 S3 (ry.up e1)⟩
        · exact P2.elim
  · exact P1.elim
/-- o.bit_length() -/
theorem k_bits {o : Expr} {apos cpos : Pos} {so : MP.Env → DS → R D} (ho : PE X o (TDx U X F W so)) (hb : plainBase o = true) (hln : (apos.endLine == cpos.line) = true) :
    PE X (.Call (.Attribute o "bit_length" apos) [] [] cpos) (TDx U X F W fun ρ st => (so ρ st).bind fun x st1 => if mtyD .bitlen st1 x then (R.ok [] st1).bind fun xs st2 => methD .bitlen st2 x xs else .bad) := by
  refine pe_imp (pe_bits ho (plainBase_eq hb) hln) fun σ H Q ⟨ρ, st, μ, hE, hS, hP⟩ => RD.bind hE hS hP fun d st1 μ1 H1 v x1 S1 r1 E1 P1 => ?_
  split at P1
  · have P2 : Post X.K U.cls U.xf F (rlD X.K F) W σ μ1 H1 (methD .bitlen st1 d []) Q := P1
    cases d <;> first | exact P2.elim | skip
    cases r1
    exact ⟨_, rfl, P2 μ1 H1 _ .refl S1 (.int _)⟩
  · exact P1.elim
end
end MP

set_option Elab.async false
set_option linter.all false
set_option maxRecDepth 100000
set_option maxHeartbeats 4000000
namespace MP
open PySem PySem.Spec PyProof.Rows L2 LamX
theorem alive {H : Hp} {P c : Addr} {o u : HO} {ps : Array Value} (hP : H P = some (.tbl ps)) (hc : H c = none) (p : Addr) (h : H p ≠ none) : upd (upd H P o) c u p ≠ none := by
  by_cases e : p = c
  · rw [e] at h; exact absurd hc h
  · rw [upd_ne e]
    by_cases e2 : p = P
    · rw [e2, upd_same]; exact fun z => nomatch z
    · rw [upd_ne e2]; exact h
def tLamG (T : List (Addr × Str)) (TT : (XK → Hp → VK → Prop) → Hp → VK → Prop) (t : XK → TE) : TE := fun σ H Q => Tabs T H ∧ ∀ H1, ExtN H H1 → Tabs T H1 → (∀ p, H p ≠ none → H1 p ≠ none) → TT (fun E H' Q' => t E σ H' Q') H1 Q
/-- the def that calls what it got -/
def GivesG (X : Cx) (Ng : List Str) (x : Str) (sg : Scope) (g : Addr) (cdg : Value) (bg : List Stmt) (a : Str) (q : Str) (TT : (XK → Hp → VK → Prop) → Hp → VK → Prop) : Prop :=
  ∀ (f c' : Addr) (s : Shared) (H : Hp) (Q : VK) (tl : XK → Hp → VK → Prop),
    (∀ (W : WX) (pn : List (Addr × Obj)) (xe : Value → Shared → Prop) (E : XK) (p1 p2 : Pos), Takes ((cxOf C8.CX0 X.prog X.w X.K X.mg X.base Ng x sg g cdg X.A X.stack s H C8.E0).tr pn xe) W → (∀ cls d σ' H', σ'.length = Ng.length → E cls d H' → W cls d σ' H') →
      PE ((cxOf C8.CX0 X.prog X.w X.K X.mg X.base Ng x sg g cdg X.A X.stack s H C8.E0).tr pn xe) (.Call (.Name a p1) [] [] p2) (fun σZ HZ Q => σZ[0]? = some (some (.ref f)) ∧ HZ c' = some (CodeO c' q) ∧ tl E HZ Q)) →
    H c' = some (CodeO c' q) → TT tl H Q →
    ∃ t, PSs (cxOf C8.CX0 X.prog X.w X.K X.mg X.base Ng x sg g cdg X.A X.stack s H C8.E0).nox bg t ∧ t { nx := fun _ H' => Q .non H', rt := Q } (L2.start Ng [.ref f]) H
section
variable {X : Cx} {pins : List (Addr × Obj)} {σ : L2.St} {H : Hp} {s : Shared}
theorem lamMake {T : List (Addr × Str)} {c P : Addr} {params : Arguments} {body : Expr} {scope : Scope} {pos : Pos} {E : Value → Shared → Prop} {Q : Value → Shared → Prop} (I : Inv X pins σ H s) (tab : TabB X.base X.mg c P) (cdE : X.env.code = .ref c)
    (inT : (P, X.env.qual ++ "<lambda>") ∈ T) (onlyT : ∀ p ∈ T, p.1 = P → p.2 = X.env.qual ++ "<lambda>") (tbs : Tabs T H) (noDf : defaultsOf params X.env = ([], [])) (frC : ∀ y ∈ scope.names, y.2 = .free → ∃ c, X.env.cells.lookup y.1 = some c)
    (h : ∀ (f c' : Addr) (pm ctv : Value) (H1 : Hp) (s' : Shared), Inv X pins σ H1 s' → ExtN H H1 → Tabs T H1 → (∀ p, H p ≠ none → H1 p ≠ none) →
      s'.heap.get? f = some (PySem.W.kla_obj "<lambda>" (X.env.qual ++ "<lambda>") params body scope (cloFrom X.env.cells scope.names []) pm c' ctv) → H1 f = none → f ∉ frs X.stack → H1 c' = some (CodeO c' (X.env.qual ++ "<lambda>")) → Q (.ref f) s') :
    wpAny (model X.prog X.w) X.A (PySem.eval (.Lambda params body scope pos) X.env) Q E s := by
  obtain ⟨ps, hP, trp, ha⟩ := tbs _ inT
  refine PySem.W.kla_eval noDf ?_
  have bltP : s.heap.BuiltinsAt X.mg P := tab.bm.keeps I.bk
  have hP' : s.heap.get? P = some { cls := .none, data := .fields ps } := I.hok P _ hP
  have apart : ∀ f, s.heap.objs.size ≤ f → f ∉ frs X.stack := fun f hf z => by
    rcases List.mem_cons.mp (I.stkSub _ z) with e | e
    · have h1 := I.lt
      rw [← e] at h1
      exact Nat.lt_irrefl _ (Nat.lt_of_lt_of_le h1 hf)
    · exact I.nofs hf e
  cases hc : codeAmong pos ps.toList with
  | none =>
    refine PySem.W.kla_makeFunction (mg := X.mg) (c := c) (P := P) (ps := ps) (closure_ok frC) I.ok.glob (I.mod.glob.keeps I.bk) cdE (tab.code.keeps I.bk) hP' trp hc tab.gP bltP fun c' ctv h' tk hx hge hlt hrec htb => ?_
    obtain ⟨c2, oc, vs, t, e2, hoc, hd, hv⟩ := hrec
    cases e2
    have hsz : s.heap.objs.size ≤ h'.objs.size := Nat.le_trans hge (Nat.le_of_lt hlt)
    have nwC : H c' = none := I.hok.fresh hge
    have J1 := inv_table (t' := tk) (more := #[rawInt pos.line, rawInt pos.col, .ref c']) (h' := h'.push (PySem.W.kla_obj "<lambda>" (X.env.qual ++ "<lambda>") params body scope (cloFrom X.env.cells scope.names []) ((X.mg "__name__").getD .none) c' ctv)) I hP
      (fun b o hb e => Heap.get?_push_of_some _ (hx b o hb e)) (Heap.get?_push_of_some _ htb) hge ⟨oc, vs, t, Heap.get?_push_of_some _ hoc, hd, hv⟩
    have ext1 : ExtN H (upd (upd H P (.tbl (ps ++ #[rawInt pos.line, rawInt pos.col, .ref c']))) c' (CodeO c' (X.env.qual ++ "<lambda>"))) := fun b o e n => by
      rw [upd_ne (ne_of_none e nwC), upd_ne (fun z => n ps (Option.some.inj (e.symm.trans (by rw [z]; exact hP))))]
      exact e
    have eL : (ps ++ #[rawInt pos.line, rawInt pos.col, .ref c']).toList = ps.toList ++ [rawInt pos.line, rawInt pos.col, .ref c'] := by simp
    refine h h'.objs.size c' ((X.mg "__name__").getD .none) ctv _ _ J1 ext1 (fun p hp => ?_) (fun p hp => alive hP nwC p hp) (Heap.get?_push_size _ rfl) ?_ (apart _ hsz) upd_same
    · by_cases hb : p.1 = P
      · rw [onlyT p hp hb, hb]
        refine ⟨_, by rw [upd_ne (ne_of_none hP nwC), upd_same], by rw [eL]; exact PySem.TriplesOk_snoc _ _ _ _ trp, fun p' cv hcv => ?_⟩
        rw [eL] at hcv
        rcases among_app _ trp hcv with z | z
        · obtain ⟨c0, e1, e2⟩ := ha p' cv z
          exact ⟨c0, e1, ext1 _ _ e2 codeO_ne⟩
        · exact ⟨c', z, upd_same⟩
      · obtain ⟨ps', a1, a2, a3⟩ := tbs p hp
        refine ⟨ps', by rw [upd_ne (ne_of_none a1 nwC), upd_ne hb]; exact a1, a2, fun p' cv hcv => ?_⟩
        obtain ⟨c0, e1, e2⟩ := a3 p' cv hcv
        exact ⟨c0, e1, ext1 _ _ e2 codeO_ne⟩
    · have n1 : h'.objs.size ≠ c' := Nat.ne_of_gt hlt
      have n2 : h'.objs.size ≠ P := Nat.ne_of_gt (Nat.lt_of_lt_of_le (Heap.lt_size hP') hsz)
      rw [upd_ne n1, upd_ne n2]
      exact I.hok.fresh hsz
  | some cv =>
    obtain ⟨c', e, cdO⟩ := ha pos cv hc
    subst e
    refine PySem.W.kla_makeFunctionHit (mg := X.mg) (c := c) (P := P) (ps := ps) (closure_ok frC) I.ok.glob (I.mod.glob.keeps I.bk) cdE (tab.code.keeps I.bk) hP' trp hc bltP fun ctv h' tk hx hsz => ?_
    have J1 : Inv X pins σ H { s with heap := h'.push (PySem.W.kla_obj "<lambda>" (X.env.qual ++ "<lambda>") params body scope (cloFrom X.env.cells scope.names []) ((X.mg "__name__").getD .none) c' ctv), toks := tk } := I.kept fun b o e => Heap.get?_push_of_some _ (hx b o e)
    exact h h'.objs.size c' ((X.mg "__name__").getD .none) ctv H _ J1 (ExtN.refl H) tbs (fun _ z => z) (Heap.get?_push_size _ rfl) (I.hok.fresh hsz) (apart _ hsz) cdO
end
section
variable {X : Cx} {pins : List (Addr × Obj)} {σ : L2.St} {H HZ : Hp} {s s1 : Shared}
theorem pe_actG {CXg : CXT} {Eg : XK} {Ng : List Str} {qg : Str} {sg : Scope} {g f c' : Addr} {cdg pm ctv : Value} {params : Arguments} {body : Expr} {scope : Scope} {k i : Nat} {a : Str} {pn : List (Addr × Obj)} {xe : Value → Shared → Prop} {W : WX} {E : XK} {tb : TE} {p1 p2 : Pos}
    (I : Inv X pins σ H s) (L : LamS X.env.scope scope) (hf : s.heap.get? f = some (PySem.W.kla_obj "<lambda>" (X.env.qual ++ "<lambda>") params body scope (cloFrom X.env.cells scope.names []) pm c' ctv)) (hfn : H f = none) (hfr : f ∉ frs X.stack)
    (bnd0 : bindArgs (PySem.W.kla_fn "<lambda>" (X.env.qual ++ "<lambda>") params body scope (cloFrom X.env.cells scope.names []) pm (.ref c') ctv) ⟨[], []⟩ = pure [])
    (tk : Takes ((cxOf CXg X.prog X.w X.K X.mg X.base Ng qg sg g cdg X.A X.stack s H Eg).tr pn xe) W) (hW : ∀ cls d σ' H', σ'.length = Ng.length → E cls d H' → W cls d σ' H') (hr : Room (k + 1) (X.A.deeper (envOfC qg sg s.heap.objs.size g cdg)))
    (gX : X.A.guards = some []) (hbody : ∀ (A : Around) (outer : List PySem.Env) (s : Shared) (H : Hp), A.guards = some [] → Room k (A.deeper (lamEnv X scope s.heap.objs.size f c')) → PE (lamCx X A outer s H E scope f c') body tb)
    (hN : Ng[i]? = some a) (hv : Vis sg a) (hd : (a == ("__debug__" : Str)) = false := by decide) (cdB : (a == ("__classdict__" : Str)) = false := by decide) :
    PE ((cxOf CXg X.prog X.w X.K X.mg X.base Ng qg sg g cdg X.A X.stack s H Eg).tr pn xe) (.Call (.Name a p1) [] [] p2)
      (fun σZ HZ Q => σZ[i]? = some (some (.ref f)) ∧ HZ c' = some (CodeO c' (X.env.qual ++ "<lambda>")) ∧ tb σ HZ Q) := by
  refine ⟨fun pinsZ sZ σZ HZ Q IZ h => ?_⟩
  obtain ⟨hs, hc, trp⟩ := h
  refine wpAny_Call_Name_kw (thn ((pe_var (pos := p1) (i := i) hN hv hd cdB).run pinsZ sZ σZ HZ (fun v H1 => v = .ref f ∧ H1 = HZ) IZ ⟨.ref f, hs, rfl, rfl⟩) fun u s1 ⟨v, H1, J1, r1, q1⟩ => ?_)
  obtain ⟨ev, eH⟩ := q1
  subst ev
  rw [eH] at J1
  obtain rfl : u = Value.ref f := r1
  have of1 : s1.heap.get? f = some (PySem.W.kla_obj "<lambda>" (X.env.qual ++ "<lambda>") params body scope (cloFrom X.env.cells scope.names []) pm c' ctv) := J1.base.keep f _ hf hfn hfr (fun z => nomatch (show f ∈ ([] : List Addr) from z))
  refine PySem.W.callWith_F0 ⟨_, _, _, _, of1⟩ ?_
  have un : Un (frs X.stack) [] H HZ s.heap s1.heap := J1.base
  obtain ⟨⟨oc, vs, t, hoc, hdc, hvc⟩, _, _⟩ := J1.hok c' _ hc
  have rc : codeAny (model X.prog X.w) (X.A.deeper (envOfC qg sg s.heap.objs.size g cdg)) (.call (.ref f) ⟨[], []⟩) (CR (L2.CX X.prog X.w) (envOfC qg sg s.heap.objs.size g cdg :: X.stack) X.prog X.w HZ s1 Q E) s1 := by
    refine PySem.W.kla_callFunE hr.depth of1 rfl L.co L.gen rfl ⟨c', oc, vs, t, rfl, hoc, hdc, hvc⟩ ?_
    rw [bnd0]
    refine wpAny_pure (wpAny_newFunctionEnv (fun y hy => (L.own y hy).2) (fun y hy => absurd hy (by simp)) (fun h₁ hns hsb => ⟨J1.nolimit.fresh _ hsb, ?_⟩) L.kind)
    show codeAny _ _ (.expr body (lamEnv X scope s1.heap.objs.size f c')) _ _
    have kp : ∀ b o, s1.heap.get? b = some o → h₁.get? b = some o := fun b o e => hsb.extBut b o (Nat.ne_of_lt (Heap.lt_size e)) (Heap.get?_push_of_some _ e)
    have J : Inv (lamCx X (X.A.deeper (envOfC qg sg s.heap.objs.size g cdg)) (envOfC qg sg s.heap.objs.size g cdg :: X.stack) s1 HZ E scope f c') [] σ HZ { s1 with heap := h₁, toks := s1.toks + ([] : List (Str × Value)).length } :=
      lam_start2 I L J1.env0 hr.hd un hns kp
    refine PySem.W.kla_codeExpr (wpAny_mono ((hbody (X.A.deeper (envOfC qg sg s.heap.objs.size g cdg)) _ s1 HZ gX (hr.deeper _)).run [] _ _ HZ Q J trp) (fun v s' hq => ?_) fun e s' hq => hq)
    obtain ⟨w', H', J', rv, q⟩ := hq
    exact ⟨w', H', J'.os, J'.bare, J'.base, J'.hok, rv, q⟩
  have hx : Passes (L2.CX X.prog X.w) ((cxOf CXg X.prog X.w X.K X.mg X.base Ng qg sg g cdg X.A X.stack s H Eg).tr pn xe) E := fun _ σ1 _ _ er s1 I9 c9 => tk er s1 (XE.of_call I9 (fun cls d H' h => hW cls d σ1 H' I9.len h) c9)
  refine wpAny_call (codeAny_mono rc fun r s' hq => ?_)
  cases r with
  | error e => exact hx pinsZ σZ HZ s1 e s' J1 hq
  | ok fl =>
    cases fl with
    | ret u => exact J1.after hq
    | next => exact False.elim hq
    | brk => exact False.elim hq
    | cont => exact False.elim hq
end
section
variable {X : Cx}
theorem pe_lamG {T : List (Addr × Str)} {TT : (XK → Hp → VK → Prop) → Hp → VK → Prop} {x a : Str} {g c P : Addr} {k : Nat} {pg : Arguments} {bg : List Stmt} {sg : Scope} {dV kV doc pm cdv ct oc : Value} {an od : Option Addr} {osl : Array (Option Value)} {Ng : List Str}
    {params : Arguments} {body : Expr} {scope : Scope} {t : XK → TE} {p lpos pos : Pos} (hg : Gl X x) (gl : X.mg x = some (.ref g)) (hk : PySem.W.keepIn X.K (.ref g) = true)
    (lk : X.K.lookup g = some ⟨oc, od, .func (PySem.W.fnOf x x pg bg sg dV kV doc pm an cdv ct), osl⟩) (hcg : PySem.W.codeIn X.K cdv x = true) (hb : L2.Binds X.K (PySem.W.fnOf x x pg bg sg dV kV doc pm an cdv ct) [a] []) (Sg : FnScope Ng [a] sg) (hNg : Ng[0]? = some a) (hva : Vis sg a)
    (hG : GivesG X Ng x sg g cdv bg a (X.env.qual ++ "<lambda>") TT)
    (tab : TabB X.base X.mg c P) (cdE : X.env.code = .ref c) (hmT : (P, X.env.qual ++ "<lambda>") ∈ T) (onlyT : ∀ p ∈ T, p.1 = P → p.2 = X.env.qual ++ "<lambda>") (hr : Room (k + 2) X.A) (gX : X.A.guards = some []) (L : LamS X.env.scope scope) (noDf : defaultsOf params X.env = ([], []))
    (bnd0 : ∀ (q : Str) (cl : List (Str × Addr)) (pm cv ctv : Value), bindArgs (PySem.W.kla_fn "<lambda>" q params body scope cl pm cv ctv) ⟨[], []⟩ = pure [])
    (hbody : ∀ (A : Around) (outer : List PySem.Env) (s : Shared) (H : Hp) (E : XK) (f c' : Addr), A.guards = some [] → Room k (A.deeper (lamEnv X scope s.heap.objs.size f c')) → PE (lamCx X A outer s H E scope f c') body (t E))
    (hdb : (x == ("__debug__" : Str)) = false := by decide) (hd : (a == ("__debug__" : Str)) = false := by decide) (cdB : (a == ("__classdict__" : Str)) = false := by decide) :
    PE X (.Call (.Name x p) [.Lambda params body scope lpos] [] pos) (tLamG T TT t) := by
  refine ⟨fun pins s σ H Q I h => ?_⟩
  obtain ⟨tbs, h⟩ := h
  refine wpAny_Call_Name_kw (ld_glob I hg gl ?_ hdb)
  refine PySem.W.callWith_K (h₀ := X.base) I.ok.mod.kin hk ?_ (by rfl) (by rfl)
  show wpAny _ _ (spliced ((false, PySem.eval (.Lambda params body scope lpos) X.env) :: backTo pos (starEach [] X.env))) _ _ s
  refine Calls.spliced_cons (lamMake I tab cdE hmT onlyT tbs noDf (L.has I.ok) fun f c' pm' ctv H1 s' J1 eN T1 lv hf hfn hfr cdO => ?_)
  refine Calls.spliced_nil ⟨J1.kIn, ?_⟩
  have rc : codeAny (model X.prog X.w) X.A (.call (.ref g) ⟨[.ref f], []⟩) (CR C8.CX0 X.stack X.prog X.w H1 s' Q C8.E0) s' := by
    refine run_ofS (N := Ng) (ps := [a]) (us := [.ref f]) (vs := [.ref f]) lk hcg Sg hr J1.env0 (hb s' [.ref f] J1.kIn rfl) (.cons rfl .nil) rfl fun hr' => ?_
    obtain ⟨t', ht', hq'⟩ := hG f c' s' H1 Q (fun E H' Q' => t E σ H' Q') (fun W pn xe E p1 p2 tk hW => pe_actG (i := 0) J1 L hf hfn hfr (bnd0 _ _ _ _ _) tk hW hr' gX (fun A outer s H hg2 hr2 => hbody A outer s H E f c' hg2 hr2) hNg hva hd cdB) cdO (h H1 eN T1 lv)
    exact ⟨t', ht'.nox, hq'⟩
  refine wpAny_call (codeAny_mono rc fun r s2 hq => ?_)
  cases r with
  | error e => exact (show False from hq).elim
  | ok fl =>
    cases fl with
    | ret u => exact J1.after hq
    | next => exact False.elim hq
    | brk => exact False.elim hq
    | cont => exact False.elim hq
end
end MP

set_option Elab.async false
set_option linter.all false
set_option maxRecDepth 100000
set_option maxHeartbeats 4000000
namespace MP
open PySem PySem.Spec PyProof.Rows L2 LamX
/-! ### try: return ("told", call()) / except C as n: return ("great", n.fld) -/
/-- what such a def makes of what it gets -/
def TT2 (C : Addr) (fld : Str) : (XK → Hp → VK → Prop) → Hp → VK → Prop := fun tl H Q =>
  tl (fun cls d H' => cls = .ref C ∧ ∃ dd fs v, d = some dd ∧ H' dd = some (.xd fs) ∧ fs.lookup fld = some v ∧ ([V.str "great", v].length ≤ sizeLine ∧ ∀ p, H' p = none → Q (.ref p) (upd H' p (.tup [.str "great", v])))) H
    fun v H' => [V.str "told", v].length ≤ sizeLine ∧ ∀ p, H' p = none → Q (.ref p) (upd H' p (.tup [.str "told", v]))
structure ToldX (K : PySem.W.Frag) (mg : Str → Option Value) (C : Addr) (fld : Str) (x : Str) (g : Addr) (a e n : Str) (pg : Arguments) (bg : List Stmt) (sg : Scope) (dV kV doc pm cdv ct : Value) (an : Option Addr) : Prop where
  mgx : mg x = some (.ref g)
  kx : PySem.W.keepIn K (.ref g) = true
  lk : ∃ oc od osl, K.lookup g = some ⟨oc, od, .func (PySem.W.fnOf x x pg bg sg dV kV doc pm an cdv ct), osl⟩
  cd : PySem.W.codeIn K cdv x = true
  bd : L2.Binds K (PySem.W.fnOf x x pg bg sg dV kV doc pm an cdv ct) [a] []
  sc : FnScope [a, n] [a] sg
  va : Vis sg a
  ln : sg.names.lookup n = some .local
  ge : sg.names.lookup e = some .globalImplicit
  mge : mg e = some (.ref C)
  oka : okNm a = true
  oke : okNm e = true
  okn : okNm n = true
  okx : okNm x = true
  xf : XfC K C
  nofld : PySem.W.findIn K (.ref C) fld = some none
  exm : PySem.W.exmOne K (.ref C) (.ref C) = some true
  body : ∃ j1 j2 k1 k2 q1 q2 q3 q4 q5 q6 q7 q8 q9 q10 q11 q12 q13, bg = [.Try [.Return (some (.Tuple [.Constant (.str "told") j1 q1, .Call (.Name a q2) [] [] q3] k1 q4)) q5]
    [.ExceptHandler (some (.Name e q6)) (some n) [.Return (some (.Tuple [.Constant (.str "great") j2 q7, .Attribute (.Name n q8) fld q9] k2 q10)) q11] q12] [] [] q13]
theorem told_givesG {X : Cx} {C : Addr} {fld x : Str} {g : Addr} {a e n q : Str} {pg : Arguments} {bg : List Stmt} {sg : Scope} {dV kV doc pm cdv ct : Value} {an : Option Addr} (T : ToldX X.K X.mg C fld x g a e n pg bg sg dV kV doc pm cdv ct an) :
    GivesG X [a, n] x sg g cdv bg a q (TT2 C fld) := by
  intro f c' s H Q tl act hc h
  obtain ⟨j1, j2, k1, k2, q1, q2, q3, q4, q5, q6, q7, q8, q9, q10, q11, q12, q13, rfl⟩ := T.body
  have hgl : Gl (cxOf C8.CX0 X.prog X.w X.K X.mg X.base [a, n] x sg g cdv X.A X.stack s H C8.E0).nox e := T.ge
  refine ⟨_, pss_one (ps_try_as (X := (cxOf C8.CX0 X.prog X.w X.K X.mg X.base [a, n] x sg g cdv X.A X.stack s H C8.E0).nox) (c := .ref C) (i := 1) (n := n)
      (tb := fun W D σ H => ∃ Ech : XK, (∀ cls d σ' H', σ'.length = 2 → Ech cls d H' → W cls d σ' H') ∧ σ[0]? = some (some (.ref f)) ∧ H c' = some (CodeO c' q) ∧ tl Ech H fun v H' => [V.str "told", v].length ≤ sizeLine ∧ ∀ p, H' p = none → D.rt (.ref p) (upd H' p (.tup [.str "told", v])))
      rfl rfl T.sc.nd rfl T.ln ⟨hgl, (okNm_eq T.oke).1, .inl T.mge⟩ takesF (fun W pn xe tk _ => ?_)
      (fun b oe cls d pn hz hf => pss_one (ps_ret (pe_tup (pa_cons pe_str (pa_cons (pe_xf T.xf T.nofld hz hf (pe_var (i := 1) rfl (.inl T.ln) (okNm_eq T.okn).1 (okNm_eq T.okn).2)) pa_nil)))))), ?_⟩
  · refine ⟨fun pins s' σ H' D I h' => ?_⟩
    obtain ⟨Ech, hW, h1, h2, h3⟩ := h'
    have hp := act W pn xe Ech q2 q3 tk hW
    have hq : PSs ((cxOf C8.CX0 X.prog X.w X.K X.mg X.base [a, n] x sg g cdv X.A X.stack s H C8.E0).tr pn xe) [.Return (some (.Tuple [.Constant (.str "told") j1 q1, .Call (.Name a q2) [] [] q3] k1 q4)) q5] _ :=
      pss_one (ps_ret (pe_tup (pa_cons pe_str (pa_cons hp pa_nil))))
    exact hq.run pins s' σ H' D I ⟨h1, h2, h3⟩
  · refine ⟨_, fun cls d σ' H' hl hx => ?_, rfl, hc, h⟩
    obtain ⟨rfl, dd, fs, v, rfl, hdd, hlk, hv⟩ := hx
    refine ⟨true, T.exm, fun _ b hb => ?_, fun z => by cases z⟩
    refine ⟨.ref b, ?_, rfl, rfl, dd, fs, v, rfl, hdd, hlk, hv⟩
    rw [List.getElem?_set_self (by omega)]
/-- what the maker of such lambdas must have -/
structure LamOk (U : Wd) (n : Nat) (X : Cx) : Prop where
  room : Room (3 * n + 5) X.A
  tab : ∃ c P, TabB X.base X.mg c P ∧ X.env.code = .ref c ∧ (P, X.env.qual ++ "<lambda>") ∈ U.cls.T ∧ ∀ p ∈ U.cls.T, p.1 = P → p.2 = X.env.qual ++ "<lambda>"
/-- .. and the defs that get them -/
structure LamT (U : Wd) (n : Nat) (X : Cx) : Prop where
  ok : LamOk U n X
  td : ∀ f nm, U.tn f = some nm → ∃ (fld : Str) (g : Addr) (a e nn : Str) (pg : Arguments) (bg : List Stmt) (sg : Scope) (dV kV doc pm cdv ct : Value) (an : Option Addr), ToldX X.K X.mg (U.cls 0) fld nm g a e nn pg bg sg dV kV doc pm cdv ct an ∧ (U.xf 0)[0]? = some fld
section
variable {U : Wd} {n : Nat} {W : WX} {X : Cx} {F : List Addr}
theorem ext_tab {μ : List Addr} {H H1 : Hp} (e : ExtN H H1) (lv : ∀ p, H p ≠ none → H1 p ≠ none) : Ext μ μ H H1 := ⟨⟨[], by simp, fun _ z => nomatch z⟩, fun p o h _ nt => e p o h nt, lv⟩
def toldS (se : MP.Env → DS → R D) : MP.Env → DS → R D := fun ρ st => match se ρ st with
  | .ok d st1 => .ok (.tup [.str "told", d]) st1
  | .exc 0 [d] st1 => .ok (.tup [.str "great", d]) st1
  | _ => .bad
/-- x(lambda: e), e the text of the lambda's body -/
theorem k_told (c : Ctx U n W X) (L : LamOk U n X) {C : Addr} {fld x : Str} {g : Addr} {a e nn : Str} {pg : Arguments} {bg : List Stmt} {sg : Scope} {dV kV doc pm cdv ct : Value} {an : Option Addr} (T : ToldX X.K X.mg C fld x g a e nn pg bg sg dV kV doc pm cdv ct an)
    (hC : C = U.cls 0) (hf : (U.xf 0)[0]? = some fld) {params : Arguments} {body : Expr} {scope : Scope} {p lpos pos : Pos} {se : MP.Env → DS → R D} (hg : Gl X x) (hS : LamS X.env.scope scope) (hdef : defaultsOf params X.env = ([], []))
    (hbind : ∀ (q : Str) (cl : List (Str × Addr)) (pm cv ctv : Value), bindArgs (PySem.W.kla_fn "<lambda>" q params body scope cl pm cv ctv) ⟨[], []⟩ = pure [])
    (hbody : ∀ (Y : Cx) (E : XK), Ctx U n (fun cls d _ H' => E cls d H') Y → Y.N = X.N → Y.env.scope = scope → Y.K = X.K → ∀ F, PE Y body (TDx U Y F (fun cls d _ H' => E cls d H') se)) :
    PE X (.Call (.Name x p) [.Lambda params body scope lpos] [] pos) (TDx U X F W (toldS se)) := by
  obtain ⟨cc, P, tab, cdE, inT, onlyT⟩ := L.tab
  obtain ⟨oc, od, osl, lk⟩ := T.lk
  refine pe_imp (pe_lamG (k := 3 * n + 3) (T := U.cls.T) (TT := TT2 C fld) (t := fun E σ H Q => ∃ F, TDx U X F (fun cls d _ H' => E cls d H') se σ H Q) hg T.mgx T.kx lk T.cd T.bd T.sc rfl T.va (told_givesG T) tab cdE inT onlyT L.room c.good.gd hS hdef hbind (fun A out s H E f c' hg2 hr2 => ?_) (okNm_eq T.okx).1 (okNm_eq T.oka).1 (okNm_eq T.oka).2) fun σ H Q ⟨ρ, st, μ, hE, hSt, hP⟩ => ?_
  · have cY : Ctx U n (fun cls d _ H' => E cls d H') (lamCx X A out s H E scope f c') := by
      refine ⟨⟨hg2, ?_⟩, rfl, c.nd, takes_of rfl rfl rfl (E₁ := fun e' s'' => L2.CX X.prog X.w out H s E e' s'') rfl, hr2, c.fns, c.gls⟩
      have := hr2.un
      show (A.deeper _).units + 70 < cLine
      omega
    have hb := hbody _ E cY rfl rfl rfl
    exact ⟨fun pins s' σ H' Q I ⟨F, q⟩ => (hb F).run pins s' σ H' Q I q⟩
  · refine ⟨hSt.tb, fun H1 eN T1 lv => ?_⟩
    have x1 : Ext μ μ H H1 := ext_tab eN lv
    have S1 : StRel X.K U.cls F μ H1 st := by
      refine hSt.keep x1 (fun b hb => ?_) T1
      cases q : H b with
      | none => exact absurd q (hSt.ne hb)
      | some o => exact eN b o q fun ps z => hSt.notTab hb o q (.inl ⟨ps, z⟩)
    have hP : Post X.K U.cls U.xf F (rlD X.K F) W σ μ H (toldS se ρ st) Q := hP
    have hP1 := hP.shift x1
    unfold toldS at hP1
    show ∃ F, TDx U X F _ se σ H1 _
    refine ⟨F, ρ, st, μ, hE.mono x1, S1, ?_⟩
    cases es : se ρ st with
    | ok d st1 =>
      rw [es] at hP1
      intro μ2 H2 v x2 S2 r2
      refine ⟨by show 2 ≤ sizeLine; decide, fun p hp => ?_⟩
      exact hP1 μ2 _ _ (x2.trans (ext_new hp)) (S2.new hp) (new_tup S2 hp (.cons (.str _) (.cons r2 .nil)))
    | exc k fs st1 =>
      rw [es] at hP1
      match k, fs, hP1 with
      | 0, [d], hP1 =>
        intro μ2 H2 dd l x2 S2 hdd hx
        obtain ⟨v, hl, rv⟩ := hx 0 fld d hf rfl
        refine ⟨by rw [hC], dd, l, v, rfl, hdd, hl, by show 2 ≤ sizeLine; decide, fun p hp => ?_⟩
        exact hP1 μ2 _ _ (x2.trans (ext_new hp)) (S2.new hp) (new_tup S2 hp (.cons (.str _) (.cons rv .nil)))
      | 0, [], hP1 => exact hP1.elim
      | 0, _ :: _ :: _, hP1 => exact hP1.elim
      | k + 1, _, hP1 => exact hP1.elim
    | bad => rw [es] at hP1; exact hP1.elim
end
end MP

set_option Elab.async false
set_option linter.all false
set_option maxRecDepth 100000
set_option maxHeartbeats 4000000
namespace MP
open PySem L2 PyProof.Rows
/-! ### the checker: a text is what the small syntax says -/
section
variable (U : Sg) (N : List Str)
/-- the expressions that a walk evaluates ahead -/
def asIter (sc : Scope) (ik : IK) (tge iter : Expr) : Option (List Expr) := match ik with
  | .seq => if noStar iter then some [iter] else none
  | .rng => match asCall iter with
    | some (g, xs, [], _) => if decide (asName g = some ("range" : Str)) && glB sc "range" && xs.all noStar && (xs.length == 1 || xs.length == 2) then some xs else none
    | _ => none
  | .enum => match asCall iter with
    | some (g, xs, [], _) => if decide (asName g = some ("enumerate" : Str)) && glB sc "enumerate" && xs.all noStar && xs.length == 1 && (asTup tge).isSome then some xs else none
    | _ => none
  | _ => none
def asLam : Expr → Option (Arguments × Expr × Scope) | .Lambda a b s _ => some (a, b, s) | _ => none
theorem asLam_eq {e b : Expr} {a : Arguments} {s : Scope} (h : asLam e = some (a, b, s)) : ∃ p, e = .Lambda a b s p := by cases e <;> first | (cases h; done) | skip; cases h; exact ⟨_, rfl⟩
def noArgs : Arguments → Bool | ⟨[], [], none, [], [], none, []⟩ => true | _ => false
theorem noArgs_eq {a : Arguments} (h : noArgs a = true) : a = ⟨[], [], none, [], [], none, []⟩ := by
  unfold noArgs at h
  split at h
  · rfl
  · cases h
def asGen : List Comprehension → Option (Expr × Expr × List Expr)
  | [⟨t, i, ifs, 0⟩] => some (t, i, ifs)
  | _ => none
theorem asGen_eq {gs : List Comprehension} {t i : Expr} {ifs : List Expr} (h : asGen gs = some (t, i, ifs)) : gs = [⟨t, i, ifs, 0⟩] := by
  unfold asGen at h
  split at h
  · cases h; rfl
  · cases h
def asIterV (sc : Scope) (en : Bool) (t i : Expr) : Option Expr := if en then (match asIter sc .enum t i with | some [x] => some x | _ => none) else (match asIter sc .seq t i with | some [x] => some x | _ => none)
def bitsB (U : Sg) : BI → Bool
  | .gcd => U.gc
  | .isqrt => U.iq
  | _ => true
mutual
def cE (lm : Bool) (sc : Scope) : E → Expr → Bool
  | .var i, pe => match asName pe with | some x => decide (N[i]? = some x) && visB sc x && okNm x | none => false
  | .lit d, pe => match asConst pe with | some c => constB d c | none => false
  | .con k d, pe => match asName pe with | some x => glB sc x && okNm x && (match U.cn k with | some (y, e) => decide (x = y) && eqDD d e | none => false) | none => false
  | .bin op a b, pe => match asBin pe with | some (x, o, y) => opB op o && cE lm sc a x && cE lm sc b y | none => false
  | .binO op a b, pe => match asBin pe with | some (x, o, y) => opB op o && cE lm sc a x && cE lm sc b y | none => false
  | .neg a, pe => match asUn pe with | some (.USub, x) => cE lm sc a x | _ => false
  | .not a, pe => match asUn pe with | some (.Not, x) => cE lm sc a x | _ => false
  | .and a b, pe => match asBool pe with
    | some (.And, [x, y], _) => cE lm sc a x && cE lm sc b y
    | some (.And, x :: y :: z :: r, p) => cE lm sc a x && cE lm sc b (.BoolOp .And (y :: z :: r) p)
    | _ => false
  | .or a b, pe => match asBool pe with
    | some (.Or, [x, y], _) => cE lm sc a x && cE lm sc b y
    | some (.Or, x :: y :: z :: r, p) => cE lm sc a x && cE lm sc b (.BoolOp .Or (y :: z :: r) p)
    | _ => false
  | .cmp op a b, pe => match asCmp pe with | some (x, [o], [y]) => cmpB op o && cE lm sc a x && cE lm sc b y && !behindInMarks o y | _ => false
  | .chain o1 o2 a b c, pe => match asCmp pe with | some (x, [p1, p2], [y, z]) => cmpB o1 p1 && cmpB o2 p2 && cE lm sc a x && cE lm sc b y && cE lm sc c z && !lastMarks [p1, p2] [y, z] | _ => false
  | .isN ng a, pe => match asCmp pe with | some (x, [o], [y]) => decide (asConst y = some .none) && (match ng, o with | false, .Is => true | true, .IsNot => true | _, _ => false) && cE lm sc a x | _ => false
  | .ife c a b, pe => match asIf pe with | some (x, y, z) => cT lm sc c x && cE lm sc a y && cE lm sc b z | none => false
  | .tup es, pe => match asTup pe with | some xs => xs.all noStar && cL lm sc es xs | none => false
  | .tupX bs es, pe => match asTup pe with | some xs => cX lm sc bs es xs | none => false
  | .isa [t] a, pe => match asCall pe with
    | some (g, [x, y], [], _) => decide (asName g = some ("isinstance" : Str)) && decide (asName y = some (itN t)) && glB sc "isinstance" && glB sc (itN t) && noStar x && cE lm sc a x
    | _ => false
  | .lst m es, pe => match asList pe with | some xs => xs.all noStar && cL lm sc es xs | none => false
  | .ix a i, pe => match asSub pe with | some (x, y) => plainIx y && cE lm sc a x && cE lm sc i y | none => false
  | .dix a i, pe => match asSub pe with | some (x, y) => plainIx y && cE lm sc a x && cE lm sc i y | none => false
  | .din ng a b, pe => match asCmp pe with | some (x, [o], [y]) => (match ng, o with | false, .In => true | true, .NotIn => true | _, _ => false) && cE lm sc a x && cE lm sc b y && !behindInMarks o y | _ => false
  | .sl m a lo hi, pe => match asSub pe with
    | some (x, y) => (match asSlice y with | some (l, h, none) => cE lm sc a x && cO lm sc lo l && cO lm sc hi h | _ => false)
    | none => false
  | .rev m a, pe => match asSub pe with
    | some (x, y) => (match asSlice y with | some (none, none, some z) => isMinusOne z && cE lm sc a x | _ => false)
    | none => false
  | .revT a, pe => match asSub pe with
    | some (x, y) => (match asSlice y with | some (none, none, some z) => isMinusOne z && cE lm sc a x | _ => false)
    | none => false
  | .call f es, pe => match asCall pe with
    | some (g, [], [], _) => (match asName g, U.Pg f, es with
        | some nm, some fd, [] => fd.gl && decide (nm = fd.nm) && glB sc nm && okNm nm && decide (fd.np = 0)
        | _, _, _ => false)
    | some (g, x :: xs, [], _) => (match asName g, U.Pg f with
        | some nm, some fd => fd.gl && decide (nm = fd.nm) && glB sc nm && okNm nm && (x :: xs).all noStar && cL lm sc es (x :: xs) && decide (es.length = fd.np)
        | _, _ => false)
    | _ => false
  | .bi b es, pe => match asCall pe with
    | some (g, x :: xs, [], _) => (match asName g with
        | some nm => decide (nm = biN b) && glB sc nm && (x :: xs).all noStar && cL lm sc es (x :: xs) && bitsB U b
        | _ => false)
    | _ => false
  | .newl m a, pe => match asCall pe with
    | some (g, [x], [], _) => (match asName g with
        | some nm => decide (nm = ("list" : Str)) && glB sc nm && noStar x && cE lm sc a x
        | _ => false)
    | _ => false
  | .meth .append o es, pe => match asCall pe with
    | some (g, [x], [], p) => (match asAttr g with
      | some (y, m, ap) => decide (m = ("append" : Str)) && noStar x && plainBase y && (ap.endLine == p.line) && cE lm sc o y && cL lm sc es [x]
      | _ => false)
    | _ => false
  | .meth .pop o [], pe => match asCall pe with
    | some (g, [], [], p) => (match asAttr g with
      | some (y, m, ap) => decide (m = ("pop" : Str)) && plainBase y && (ap.endLine == p.line) && cE lm sc o y
      | _ => false)
    | _ => false
  | .meth .bitlen o [], pe => match asCall pe with
    | some (g, [], [], p) => (match asAttr g with
      | some (y, m, ap) => decide (m = ("bit_length" : Str)) && plainBase y && (ap.endLine == p.line) && cE lm sc o y
      | _ => false)
    | _ => false
  | .emp m, pe => match asDict pe with | some ([], []) => true | _ => false
  | .dic m es, pe => match asDict pe with | some (k :: ks, vs) => decide ((k :: ks).length ≤ 15) && decide ((k :: ks).length = vs.length) && (k :: ks).all (·.isSome) && cP lm sc es (k :: ks) vs | _ => false
  | .lc m elt tg ik src ifs own, pe => match asLC pe with
    | some (pelt, gs, scope) => (match asGen gs with
      | some (tge, iter, pifs) => (match asIter sc ik tge iter with
        | some xs => (tnS tg).all (fun j => decide (j ∈ own)) && blkC N sc scope (ownN N own) && notSet iter && cTN N (relS scope sc) (fun x => scope.names.lookup x == some .cell) tg tge &&
            cL lm sc src xs && cE false (relS scope sc) elt pelt && cI false (relS scope sc) ifs pifs
        | none => false)
      | none => false)
    | none => false
  | .lcv m elt tg en src ifs own, pe => match asLC pe with
    | some (pelt, gs, scope) => (match asGen gs with
      | some (tge, iter, pifs) => (match asIterV sc en tge iter with
        | some x => (tnS tg).all (fun j => decide (j ∈ own)) && blkC N sc scope (ownN N own) && notSet iter && cTN N (relS scope sc) (fun x => scope.names.lookup x == some .cell) tg tge &&
            cE lm sc src x && cE false (relS scope sc) elt pelt && cI false (relS scope sc) ifs pifs
        | none => false)
      | none => false)
    | none => false
  | .bad, _ => true
  | .told f e, pe => lm && (match asCall pe with
    | some (g, [a], [], _) => (match asName g, asLam a, U.tn f with
      | some nm, some (params, body, scope), some nm' => decide (nm = nm') && glB sc nm && LamX.lamSB sc scope && noArgs params && cE false scope e body
      | _, _, _ => false)
    | _ => false)
  | _, _ => false
def cT (lm : Bool) (sc : Scope) : E → Expr → Bool
  | .not a, pe => match asUn pe with | some (.Not, x) => cT lm sc a x | _ => false
  | .and a b, pe => match asBool pe with
    | some (.And, [x, y], _) => cT lm sc a x && cT lm sc b y
    | some (.And, x :: y :: z :: r, p) => cT lm sc a x && cT lm sc b (.BoolOp .And (y :: z :: r) p)
    | _ => false
  | .or a b, pe => match asBool pe with
    | some (.Or, [x, y], _) => cT lm sc a x && cT lm sc b y
    | some (.Or, x :: y :: z :: r, p) => cT lm sc a x && cT lm sc b (.BoolOp .Or (y :: z :: r) p)
    | _ => false
  | .cmp op a b, pe => match asCmp pe with | some (x, [o], [y]) => cmpB op o && cE lm sc a x && cE lm sc b y && !behindInMarks o y | _ => false
  | .isN ng a, pe => match asCmp pe with | some (x, [o], [y]) => decide (asConst y = some .none) && (match ng, o with | false, .Is => true | true, .IsNot => true | _, _ => false) && cE lm sc a x | _ => false
  | .din ng a b, pe => match asCmp pe with | some (x, [o], [y]) => (match ng, o with | false, .In => true | true, .NotIn => true | _, _ => false) && cE lm sc a x && cE lm sc b y && !behindInMarks o y | _ => false
  | .chain o1 o2 a b c, pe => match asCmp pe with | some (x, [p1, p2], [y, z]) => cmpB o1 p1 && cmpB o2 p2 && cE lm sc a x && cE lm sc b y && cE lm sc c z && !lastMarks [p1, p2] [y, z] | _ => false
  | .tv a, pe => plainT pe && cE lm sc a pe
  | _, _ => false
def cL (lm : Bool) (sc : Scope) : List E → List Expr → Bool
  | [], [] => true
  | e :: es, x :: xs => cE lm sc e x && cL lm sc es xs
  | _, _ => false
def cX (lm : Bool) (sc : Scope) : List Bool → List E → List Expr → Bool
  | _, [], [] => true
  | false :: bs, e :: es, x :: xs => noStar x && cE lm sc e x && cX lm sc bs es xs
  | true :: bs, e :: es, x :: xs => (match asStarred x with | some y => cE lm sc e y | none => false) && cX lm sc bs es xs
  | _, _, _ => false
def cO (lm : Bool) (sc : Scope) : List E → Option Expr → Bool
  | [], none => true
  | [e], some x => cE lm sc e x
  | _, _ => false
def cP (lm : Bool) (sc : Scope) : List E → List (Option Expr) → List Expr → Bool
  | [], [], [] => true
  | a :: b :: es, some x :: ks, y :: vs => cE lm sc a x && cE lm sc b y && cP lm sc es ks vs
  | _, _, _ => false
def cI (lm : Bool) (sc : Scope) : List E → List Expr → Bool
  | [], [] => true
  | [e], [x] => cT lm sc e x
  | _, _ => false
end
end
/-! ### what is checked does as it is computed -/
section
variable {U : Wd} {n : Nat}
theorem evalL_len (C : Nat → List D → DS → R D) : ∀ (es : List E) (ρ : MP.Env) (st : DS) (ds : List D) (st1 : DS), evalL C es ρ st = .ok ds st1 → ds.length = es.length
  | [], _, _, _, _, h => by
    unfold evalL at h; cases h; rfl
  | e :: es, ρ, st, ds, st1, h => by
    unfold evalL at h
    obtain ⟨a, s1, e1, e2⟩ := R.bind_ok h
    obtain ⟨xs, s2, e3, e4⟩ := R.bind_ok e2
    cases e4
    simp [evalL_len C es ρ s1 xs _ e3]
theorem evalL_seq (C : Nat → List D → DS → R D) : ∀ (es : List E), evalL C es = seqR (es.map (eval C))
  | [] => by funext ρ st; unfold evalL; rfl
  | e :: es => by
    funext ρ st
    unfold evalL
    rw [evalL_seq C es]
    rfl
theorem cL_len {N : List Str} {lm : Bool} {sc : Scope} : ∀ {es : List E} {xs : List Expr}, cL U.toSg N lm sc es xs = true → es.length = xs.length
  | [], [], _ => rfl
  | [], _ :: _, h => by simp [cL] at h
  | _ :: _, [], h => by simp [cL] at h
  | e :: es, x :: xs, h => by
    simp only [cL, Bool.and_eq_true] at h
    simp [cL_len h.2]
/-- as constants stand in the module -/
theorem k_con {W : WX} {X : Cx} {F : List Addr} (c : Ctx U n W X) {k : Nat} {d e : D} {x : Str} {p : Pos} (hg : Gl X x) (hd : (x == ("__debug__" : Str)) = false) (hk : U.cn k = some (x, e)) (he : d = e) :
    PE X (.Name x p) (TDx U X F W fun _ st => .ok d st) := by
  subst he
  obtain ⟨⟨u, hm, hr⟩, hrel⟩ := c.gls.cn k x d hk
  refine ⟨fun pins s σ H Q I ⟨ρ, st, μ, hE, hS, hP⟩ => ?_⟩
  exact ld_glob I hg hm ⟨U.cd k, H, I, hr, hP μ H _ .refl hS (hrel F μ H)⟩ hd
theorem pe_cong {W : WX} {X : Cx} {F : List Addr} {e : Expr} {s t : MP.Env → DS → R D} (h : ∀ ρ st, s ρ st = t ρ st) (p : PE X e (TDx U X F W t)) : PE X e (TDx U X F W s) := by
  have z : s = t := funext fun ρ => funext fun st => h ρ st
  rw [z]; exact p
theorem pt_cong {W : WX} {X : Cx} {F : List Addr} {e : Expr} {s t : MP.Env → DS → R Bool} (h : ∀ ρ st, s ρ st = t ρ st) (p : PT X e (TBx U X F W t)) : PT X e (TBx U X F W s) := by
  have z : s = t := funext fun ρ => funext fun st => h ρ st
  rw [z]; exact p
theorem pa_cong {W : WX} {X : Cx} {F : List Addr} {e : List Expr} {s t : MP.Env → DS → R (List D)} (h : ∀ ρ st, s ρ st = t ρ st) (p : PA X e (TLx U X F W t)) : PA X e (TLx U X F W s) := by
  have z : s = t := funext fun ρ => funext fun st => h ρ st
  rw [z]; exact p
/-! ### tests -/
theorem k_notT {W : WX} {X : Cx} {F : List Addr} {a : Expr} {p : Pos} {sa : MP.Env → DS → R Bool} (ha : PT X a (TBx U X F W sa)) : PT X (.UnaryOp .Not a p) (TBx U X F W fun ρ st => (sa ρ st).bind fun k st1 => .ok (!k) st1) :=
  pt_imp (pt_not ha) fun σ H Q ⟨ρ, st, μ, hE, hS, hP⟩ => RD.bind hE hS hP fun k st1 μ1 H1 v x1 S1 r1 E1 P1 => by
    have r1 : k = v := r1
    subst r1
    exact P1 μ1 H1 _ .refl S1 rfl
theorem and_imp {W : WX} {X : Cx} {F : List Addr} {sa sb : MP.Env → DS → R Bool} (σ : L2.St) (H : Hp) (Q : Bool → Hp → Prop) (h : TBx U X F W (fun ρ st => (sa ρ st).bind fun k st1 => if k then sb ρ st1 else .ok false st1) σ H Q) : tAnd (TBx U X F W sa) (TBx U X F W sb) σ H Q := by
  obtain ⟨ρ, st, μ, hE, hS, hP⟩ := h
  refine RD.bind hE hS hP fun k st1 μ1 H1 v x1 S1 r1 E1 P1 => ?_
  have r1 : k = v := r1
  subst r1
  cases k with
  | true => exact ⟨ρ, st1, μ1, E1, S1, P1⟩
  | false => exact P1 μ1 H1 _ .refl S1 rfl
theorem or_imp {W : WX} {X : Cx} {F : List Addr} {sa sb : MP.Env → DS → R Bool} (σ : L2.St) (H : Hp) (Q : Bool → Hp → Prop) (h : TBx U X F W (fun ρ st => (sa ρ st).bind fun k st1 => if k then .ok true st1 else sb ρ st1) σ H Q) : tOr (TBx U X F W sa) (TBx U X F W sb) σ H Q := by
  obtain ⟨ρ, st, μ, hE, hS, hP⟩ := h
  refine RD.bind hE hS hP fun k st1 μ1 H1 v x1 S1 r1 E1 P1 => ?_
  have r1 : k = v := r1
  subst r1
  cases k with
  | false => exact ⟨ρ, st1, μ1, E1, S1, P1⟩
  | true => exact P1 μ1 H1 _ .refl S1 rfl
theorem k_andT {W : WX} {X : Cx} {F : List Addr} {a b : Expr} {p : Pos} {sa sb : MP.Env → DS → R Bool} (ha : PT X a (TBx U X F W sa)) (hb : PT X b (TBx U X F W sb)) :
    PT X (.BoolOp .And [a, b] p) (TBx U X F W fun ρ st => (sa ρ st).bind fun k st1 => if k then sb ρ st1 else .ok false st1) := pt_imp (pw_and ha (pw_and1 hb)).pt and_imp
theorem k_orT {W : WX} {X : Cx} {F : List Addr} {a b : Expr} {p : Pos} {sa sb : MP.Env → DS → R Bool} (ha : PT X a (TBx U X F W sa)) (hb : PT X b (TBx U X F W sb)) :
    PT X (.BoolOp .Or [a, b] p) (TBx U X F W fun ρ st => (sa ρ st).bind fun k st1 => if k then .ok true st1 else sb ρ st1) := pt_imp (pw_or ha (pw_or1 hb)).pt or_imp
theorem k_andT3 {W : WX} {X : Cx} {F : List Addr} {a b : Expr} {r : List Expr} {p : Pos} {sa sb : MP.Env → DS → R Bool} (ha : PT X a (TBx U X F W sa)) (hb : PT X (.BoolOp .And (b :: r) p) (TBx U X F W sb)) :
    PT X (.BoolOp .And (a :: b :: r) p) (TBx U X F W fun ρ st => (sa ρ st).bind fun k st1 => if k then sb ρ st1 else .ok false st1) := pt_imp (pw_and ha (pw_of hb)).pt and_imp
theorem k_orT3 {W : WX} {X : Cx} {F : List Addr} {a b : Expr} {r : List Expr} {p : Pos} {sa sb : MP.Env → DS → R Bool} (ha : PT X a (TBx U X F W sa)) (hb : PT X (.BoolOp .Or (b :: r) p) (TBx U X F W sb)) :
    PT X (.BoolOp .Or (a :: b :: r) p) (TBx U X F W fun ρ st => (sa ρ st).bind fun k st1 => if k then .ok true st1 else sb ρ st1) := pt_imp (pw_or ha (pw_of hb)).pt or_imp
theorem k_tv {W : WX} {X : Cx} {F : List Addr} {a : Expr} {sa : MP.Env → DS → R D} (hp : plainT a = true) (ha : PE X a (TDx U X F W sa)) : PT X a (TBx U X F W fun ρ st => (sa ρ st).bind fun x st1 => R.of (truD st1 x) st1) := by
  refine ⟨fun pins s σ H Q I ⟨ρ, st, μ, hE, hS, hP⟩ => ?_⟩
  have q : TDx U X F W sa σ H fun x H1 => ∃ k, TruV X.K x H1 k ∧ Q k H1 := RD.bind hE hS hP fun d st1 μ1 H1 v x1 S1 r1 E1 P1 => by
    obtain ⟨k, e, P2⟩ := Post.of P1
    exact ⟨k, tru_rel S1 r1 e, P2 μ1 H1 _ .refl S1 rfl⟩
  refine isTrue_plain (thn (ha.run pins s σ H _ I q) fun v s1 ⟨x, H1, I1, r1, k, e1, q1⟩ => ?_) (plainT_eq hp _)
  exact thn (tru_ok pins s1 σ H1 x v (fun c H2 => Q c H2) I1 r1 ⟨k, e1, q1⟩) fun c s2 ⟨H2, I2, q2⟩ => ⟨H2, I2, q2⟩
end
end MP

set_option Elab.async false
set_option linter.all false
set_option maxRecDepth 100000
set_option maxHeartbeats 8000000
namespace MP
open PySem L2 PyProof.Rows
section
variable {U : Wd} {n : Nat}
theorem glB_eq' {X : Cx} {x : Str} (h : glB X.env.scope x = true) : Gl X x := glB_eq h
theorem asConst_none {e : Expr} (h : decide (asConst e = some Const.none) = true) : ∃ k p, e = .Constant .none k p := asConst_eq (of_decide_eq_true h)
theorem bits_eq {b : BI} {X : Cx} (g : Gls U X.K X.mg) (h : bitsB U.toSg b = true) : biM X.mg b := by
  cases b <;> first | exact True.intro | exact g.gcOk h | exact g.iqOk h
theorem asIter_seq {sc : Scope} {t i : Expr} {xs : List Expr} (h : asIter sc .seq t i = some xs) : xs = [i] := by
  simp only [asIter] at h
  split at h
  · cases h; rfl
  · cases h
theorem asIter_rng {sc : Scope} {t i : Expr} {xs : List Expr} (h : asIter sc .rng t i = some xs) : ∃ p pos, i = .Call (.Name "range" p) xs [] pos ∧ glB sc "range" = true ∧ xs.all noStar = true ∧ (xs.length = 1 ∨ xs.length = 2) := by
  simp only [asIter] at h
  split at h
  · rename_i g ys pos hx
    obtain rfl := asCall_eq hx
    split at h
    · rename_i hc
      cases h
      simp only [Bool.and_eq_true, Bool.or_eq_true, decide_eq_true_eq, beq_iff_eq] at hc
      obtain ⟨p, rfl⟩ := asName_eq hc.1.1.1
      exact ⟨p, pos, rfl, hc.1.1.2, hc.1.2, hc.2⟩
    · cases h
  · cases h
theorem asIter_enum {sc : Scope} {t i : Expr} {xs : List Expr} (h : asIter sc .enum t i = some xs) : ∃ p pos, i = .Call (.Name "enumerate" p) xs [] pos ∧ glB sc "enumerate" = true ∧ xs.all noStar = true ∧ xs.length = 1 ∧ ∃ es k p2, t = .Tuple es k p2 := by
  simp only [asIter] at h
  split at h
  · rename_i g ys pos hx
    obtain rfl := asCall_eq hx
    split at h
    · rename_i hc
      cases h
      simp only [Bool.and_eq_true, decide_eq_true_eq, beq_iff_eq] at hc
      obtain ⟨p, rfl⟩ := asName_eq hc.1.1.1.1
      obtain ⟨es, he⟩ := Option.isSome_iff_exists.mp hc.2
      exact ⟨p, pos, rfl, hc.1.1.1.2, hc.1.1.2, hc.1.2, es, asTup_eq he⟩
    · cases h
  · cases h
theorem asIter_star {sc : Scope} {ik : IK} {t i : Expr} {xs : List Expr} (h : asIter sc ik t i = some xs) : xs.all noStar = true := by
  cases ik with
  | seq =>
    simp only [asIter] at h
    split at h
    · rename_i hn
      cases h
      simp [hn]
    · cases h
  | rng => obtain ⟨p, pos, _, _, hn, _⟩ := asIter_rng h; exact hn
  | enum => obtain ⟨p, pos, _, _, hn, _⟩ := asIter_enum h; exact hn
  | enumT => cases h
  | zip => cases h
  | keys => cases h
  | items => cases h
  | vals => cases h
  | rev => cases h
/-- what a walk asks, from the arguments' meaning -/
theorem k_iter {W : WX} {X : Cx} {F : List Addr} (c : Ctx U n W X) {ik : IK} {tge iter : Expr} {xs : List Expr} {es : List E} (h : asIter X.env.scope ik tge iter = some xs) (hl : es.length = xs.length) (hr : PA X xs (TLx U X F W (evalL (callN U.Pg n) es))) (h1 : ∀ e e', xs = [e] → es = [e'] → PE X e (TDx U X F W (eval (callN U.Pg n) e'))) :
    PI X tge iter (ITx U X F W fun ρ st => (evalL (callN U.Pg n) es ρ st).bind fun xs st1 => R.of (itD ik st1 xs) st1) := by
  have len : ∀ ρ st ds st1, evalL (callN U.Pg n) es ρ st = .ok ds st1 → ds.length = xs.length := fun ρ st ds st1 e => by rw [evalL_len _ es ρ st ds st1 e, hl]
  cases ik with
  | seq =>
    obtain rfl := asIter_seq h
    obtain ⟨e', rfl⟩ := List.length_eq_one_iff.mp hl
    have z : (fun ρ st => (evalL (callN U.Pg n) [e'] ρ st).bind fun xs st1 => R.of (itD .seq st1 xs) st1) = fun ρ st => (eval (callN U.Pg n) e' ρ st).bind fun x st1 => R.of (itD .seq st1 [x]) st1 := by
      funext ρ st
      rw [evalL]
      cases eval (callN U.Pg n) e' ρ st with
      | ok a st1 => show (((evalL (callN U.Pg n) [] ρ st1).bind fun xs st2 => R.ok (a :: xs) st2).bind fun xs st1 => R.of (itD .seq st1 xs) st1) = _; rw [evalL]; rfl
      | exc a b c => rfl
      | bad => rfl
    rw [z]
    exact k_seq (h1 _ _ rfl rfl)
  | rng =>
    obtain ⟨p, pos, rfl, hg, hn, hxl⟩ := asIter_rng h
    rcases hxl with q | q
    · obtain ⟨e, rfl⟩ := List.length_eq_one_iff.mp q
      simp only [List.all_cons, List.all_nil, Bool.and_true] at hn
      exact k_rng1 c (glB_eq hg) hn hr len
    · rcases xs with _ | ⟨e, _ | ⟨e2, _ | ⟨e3, r⟩⟩⟩ <;> first | (simp at q; done) | skip
      simp only [List.all_cons, List.all_nil, Bool.and_true, Bool.and_eq_true] at hn
      exact k_rng2 c (glB_eq hg) hn.1 hn.2 hr len
  | enum =>
    obtain ⟨p, pos, rfl, hg, hn, hxl, es2, k, p2, rfl⟩ := asIter_enum h
    obtain ⟨e, rfl⟩ := List.length_eq_one_iff.mp hxl
    simp only [List.all_cons, List.all_nil, Bool.and_true] at hn
    exact k_enum c (glB_eq hg) hn hr len
  | enumT => cases h
  | zip => cases h
  | keys => cases h
  | items => cases h
  | vals => cases h
  | rev => cases h
theorem evalTs_one (C : Nat → List D → DS → R D) (e : E) (ρ : MP.Env) (st : DS) : evalTs C [e] ρ st = (evalT C e ρ st).bind fun k st1 => if k then R.ok true st1 else .ok false st1 := by
  rw [evalTs]
  congr 1
theorem lc_eq {C : Nat → List D → DS → R D} {m : Bool} {elt : E} {tg : TN} {ik : IK} {src ifs : List E} {own : List Nat} {ρ : MP.Env} {st : DS} :
    eval C (.lc m elt tg ik src ifs own) ρ st = lcS m tg own (fun ρ st => (evalL C src ρ st).bind fun xs st1 => R.of (itD ik st1 xs) st1) (evalTs C ifs) (eval C elt) ρ st := by
  rw [eval]
  unfold lcS lcF
  dsimp only
  cases evalL C src ρ st with
  | ok xs st1 =>
    simp only [R.bind]
    cases itD ik st1 xs with
    | none => rfl
    | some items => rfl
  | exc a b c => rfl
  | bad => rfl
theorem fuel_s : fuel = 18446744073709551615 + 1 := by decide
theorem lcv_eq {C : Nat → List D → DS → R D} {m en : Bool} {elt : E} {tg : TN} {src : E} {ifs : List E} {own : List Nat} {ρ : MP.Env} {st : DS} :
    eval C (.lcv m elt tg en src ifs own) ρ st = lvS m en tg own (fun ρ st => (eval C src ρ st).bind fun x st1 => seqG en x st1) (evalTs C ifs) (eval C elt) ρ st := by
  rw [eval]
  unfold lvS lcF
  dsimp only
  cases eval C src ρ st with
  | ok x st1 =>
    simp only [R.bind]
    unfold seqG
    cases e : srcD en st1 x with
    | none => rw [fuel_s]; simp only [lcV, wkD, e]
    | some items => rfl
  | exc a b c => rfl
  | bad => rfl
theorem k_iterV {W : WX} {X : Cx} {F : List Addr} (c : Ctx U n W X) {en : Bool} {tge iter x : Expr} {se : MP.Env → DS → R D} (h : asIterV X.env.scope en tge iter = some x) (hx : PE X x (TDx U X F W se)) :
    PI X tge iter (ITv U X F W en fun ρ st => (se ρ st).bind fun x st1 => seqG en x st1) := by
  unfold asIterV at h
  cases en with
  | false =>
    simp only [Bool.false_eq_true, if_false] at h
    split at h
    · rename_i y hy
      cases h
      have := asIter_seq hy
      cases this
      exact k_seqv hx
    · cases h
  | true =>
    simp only [if_true] at h
    split at h
    · rename_i y hy
      cases h
      obtain ⟨p, pos, rfl, hg, hn, hxl, es2, k, p2, rfl⟩ := asIter_enum hy
      simp only [List.all_cons, List.all_nil, Bool.and_true] at hn
      exact k_enumv c (glB_eq hg) hn hx
    · cases h
theorem po_cong {W : WX} {X : Cx} {F : List Addr} {e : Option Expr} {s t : MP.Env → DS → R (Option Int)} (h : ∀ ρ st, s ρ st = t ρ st) (p : PO X e (TOx U X F W t)) : PO X e (TOx U X F W s) := by
  have z : s = t := funext fun ρ => funext fun st => h ρ st
  rw [z]; exact p
theorem pts_cong {X : Cx} {es : List Expr} {s t : MP.Env → DS → R Bool} (h : ∀ ρ st, s ρ st = t ρ st) (p : PTs X es (anyB U X t)) : PTs X es (anyB U X s) := by
  have z : s = t := funext fun ρ => funext fun st => h ρ st
  rw [z]; exact p
mutual
theorem sE : ∀ (e : E) {W : WX} {X : Cx} {lm : Bool} (F : List Addr) (c : Ctx U n W X) (hl : lm = true → LamT U n X) (pe : Expr), cE U.toSg X.N lm X.env.scope e pe = true → PE X pe (TDx U X F W (eval (callN U.Pg n) e))
  | .var i, W, X, lm, F, c, hl, pe, h => by
    simp only [cE] at h
    split at h
    · rename_i x hx
      obtain ⟨p, rfl⟩ := asName_eq hx
      simp only [Bool.and_eq_true, decide_eq_true_eq] at h
      obtain ⟨h1, h2⟩ := okNm_eq h.2
      exact pe_cong (fun ρ st => by rw [eval] <;> rfl) (k_var h.1.1 (visB_eq h.1.2) h1 h2)
    · cases h
  | .lit d, W, X, lm, F, c, hl, pe, h => by
    simp only [cE] at h
    split at h
    · rename_i x hx
      obtain ⟨k, p, rfl⟩ := asConst_eq hx
      exact pe_cong (fun ρ st => by rw [eval] <;> rfl) (k_lit h)
    · cases h
  | .con k d, W, X, lm, F, c, hl, pe, h => by
    simp only [cE] at h
    split at h
    · rename_i x hx
      obtain ⟨p, rfl⟩ := asName_eq hx
      simp only [Bool.and_eq_true] at h
      obtain ⟨⟨h1, h2⟩, h3⟩ := h
      split at h3
      · rename_i y e hk
        simp only [Bool.and_eq_true, decide_eq_true_eq] at h3
        obtain ⟨rfl, h4⟩ := h3
        exact pe_cong (fun ρ st => by rw [eval] <;> rfl) (k_con c (glB_eq h1) (okNm_eq h2).1 hk (eqDD_eq _ _ h4))
      · cases h3
    · cases h
  | .bin op a b, W, X, lm, F, c, hl, pe, h => by
    simp only [cE] at h
    split at h
    · rename_i x o y hx
      obtain ⟨p, rfl⟩ := asBin_eq hx
      simp only [Bool.and_eq_true] at h
      rw [opB_eq h.1.1]
      exact pe_cong (fun ρ st => by rw [eval] <;> rfl) (k_bin (sE a F c hl x h.1.2) (sE b F c hl y h.2))
    · cases h
  | .binO op a b, W, X, lm, F, c, hl, pe, h => by
    simp only [cE] at h
    split at h
    · rename_i x o y hx
      obtain ⟨p, rfl⟩ := asBin_eq hx
      simp only [Bool.and_eq_true] at h
      rw [opB_eq h.1.1]
      exact pe_cong (fun ρ st => by rw [eval] <;> rfl) (k_binO (sE a F c hl x h.1.2) (sE b F c hl y h.2))
    · cases h
  | .neg a, W, X, lm, F, c, hl, pe, h => by
    simp only [cE] at h
    split at h
    · rename_i x hx
      obtain ⟨p, rfl⟩ := asUn_eq hx
      exact pe_cong (fun ρ st => by rw [eval] <;> rfl) (k_neg (sE a F c hl x h))
    · cases h
  | .not a, W, X, lm, F, c, hl, pe, h => by
    simp only [cE] at h
    split at h
    · rename_i x hx
      obtain ⟨p, rfl⟩ := asUn_eq hx
      exact pe_cong (fun ρ st => by rw [eval] <;> rfl) (k_not (sE a F c hl x h))
    · cases h
  | .and a b, W, X, lm, F, c, hl, pe, h => by
    simp only [cE] at h
    split at h
    · rename_i x y p hx
      obtain rfl := asBool_eq hx
      simp only [Bool.and_eq_true] at h
      exact pe_cong (fun ρ st => by rw [eval] <;> rfl) (k_and (sE a F c hl x h.1) (pe_one (sE b F c hl y h.2)))
    · rename_i x y z r p hx
      obtain rfl := asBool_eq hx
      simp only [Bool.and_eq_true] at h
      exact pe_cong (fun ρ st => by rw [eval] <;> rfl) (k_and (sE a F c hl x h.1) (sE b F c hl _ h.2))
    · cases h
  | .or a b, W, X, lm, F, c, hl, pe, h => by
    simp only [cE] at h
    split at h
    · rename_i x y p hx
      obtain rfl := asBool_eq hx
      simp only [Bool.and_eq_true] at h
      exact pe_cong (fun ρ st => by rw [eval] <;> rfl) (k_or (sE a F c hl x h.1) (pe_one (sE b F c hl y h.2)))
    · rename_i x y z r p hx
      obtain rfl := asBool_eq hx
      simp only [Bool.and_eq_true] at h
      exact pe_cong (fun ρ st => by rw [eval] <;> rfl) (k_or (sE a F c hl x h.1) (sE b F c hl _ h.2))
    · cases h
  | .cmp op a b, W, X, lm, F, c, hl, pe, h => by
    simp only [cE] at h
    split at h
    · rename_i x o y hx
      obtain ⟨p, rfl⟩ := asCmp_eq hx
      simp only [Bool.and_eq_true, Bool.not_eq_true'] at h
      obtain ⟨⟨⟨h1, h2⟩, h3⟩, h4⟩ := h
      obtain rfl := cmpB_eq h1
      exact pe_cong (fun ρ st => by rw [eval] <;> rfl) (k_cmp c.good (sE a F c hl x h2) (sE b F c hl y h3) h4)
    · cases h
  | .chain o1 o2 a b d, W, X, lm, F, c, hl, pe, h => by
    simp only [cE] at h
    split at h
    · rename_i x p1 p2 y z hx
      obtain ⟨p, rfl⟩ := asCmp_eq hx
      simp only [Bool.and_eq_true, Bool.not_eq_true'] at h
      obtain ⟨⟨⟨⟨⟨h1, h2⟩, h3⟩, h4⟩, h5⟩, h6⟩ := h
      obtain rfl := cmpB_eq h1
      obtain rfl := cmpB_eq h2
      exact pe_cong (fun ρ st => by rw [eval] <;> rfl) (k_chain c.good (sE a F c hl x h3) (sE b F c hl y h4) (sE d F c hl z h5) h6)
    · cases h
  | .isN ng a, W, X, lm, F, c, hl, pe, h => by
    simp only [cE] at h
    split at h
    · rename_i x o y hx
      obtain ⟨p, rfl⟩ := asCmp_eq hx
      simp only [Bool.and_eq_true] at h
      obtain ⟨⟨h1, h2⟩, h3⟩ := h
      obtain ⟨k, p2, rfl⟩ := asConst_none h1
      exact pe_cong (fun ρ st => by rw [eval] <;> rfl) (k_isN (sE a F c hl x h3) h2)
    · cases h
  | .ife d a b, W, X, lm, F, c, hl, pe, h => by
    simp only [cE] at h
    split at h
    · rename_i x y z hx
      obtain ⟨p, rfl⟩ := asIf_eq hx
      simp only [Bool.and_eq_true] at h
      exact pe_cong (fun ρ st => by rw [eval] <;> rfl) (k_ife (sT d F c hl x h.1.1) (sE a F c hl y h.1.2) (sE b F c hl z h.2))
    · cases h
  | .tup es, W, X, lm, F, c, hl, pe, h => by
    simp only [cE] at h
    split at h
    · rename_i xs hx
      obtain ⟨k, p, rfl⟩ := asTup_eq hx
      simp only [Bool.and_eq_true] at h
      exact pe_cong (fun ρ st => by rw [eval] <;> rfl) (k_tup (sL es F c hl xs h.1 h.2))
    · cases h
  | .tupX bs es, W, X, lm, F, c, hl, pe, h => by
    simp only [cE] at h
    split at h
    · rename_i xs hx
      obtain ⟨k, p, rfl⟩ := asTup_eq hx
      exact pe_cong (fun ρ st => by rw [eval] <;> rfl) (k_tupX (sX bs es F c hl xs h))
    · cases h
  | .isa [t] a, W, X, lm, F, c, hl, pe, h => by
    simp only [cE] at h
    split at h
    · rename_i g x y p hx
      obtain rfl := asCall_eq hx
      simp only [Bool.and_eq_true, decide_eq_true_eq] at h
      obtain ⟨⟨⟨⟨⟨h1, h2⟩, h3⟩, h4⟩, h5⟩, h6⟩ := h
      obtain ⟨p2, rfl⟩ := asName_eq h1
      obtain ⟨p3, rfl⟩ := asName_eq h2
      exact pe_cong (fun ρ st => by rw [eval] <;> rfl) (k_isa c (glB_eq h3) (glB_eq h4) h5 (sE a F c hl x h6))
    · cases h
  | .isa [] _, W, X, lm, F, c, hl, pe, h => by simp [cE] at h
  | .isa (_ :: _ :: _) _, W, X, lm, F, c, hl, pe, h => by simp [cE] at h
  | .lst m es, W, X, lm, F, c, hl, pe, h => by
    simp only [cE] at h
    split at h
    · rename_i xs hx
      obtain ⟨p, rfl⟩ := asList_eq hx
      simp only [Bool.and_eq_true] at h
      exact pe_cong (fun ρ st => by rw [eval] <;> rfl) (k_lst (m := m) (sL es F c hl xs h.1 h.2))
    · cases h
  | .ix a i, W, X, lm, F, c, hl, pe, h => by
    simp only [cE] at h
    split at h
    · rename_i x y hx
      obtain ⟨p, rfl⟩ := asSub_eq hx
      simp only [Bool.and_eq_true] at h
      exact pe_cong (fun ρ st => by rw [eval] <;> rfl) (k_ix h.1.1 (sE a F c hl x h.1.2) (sE i F c hl y h.2))
    · cases h
  | .dix a i, W, X, lm, F, c, hl, pe, h => by
    simp only [cE] at h
    split at h
    · rename_i x y hx
      obtain ⟨p, rfl⟩ := asSub_eq hx
      simp only [Bool.and_eq_true] at h
      exact pe_cong (fun ρ st => by rw [eval] <;> rfl) (k_dix c.good h.1.1 (sE a F c hl x h.1.2) (sE i F c hl y h.2))
    · cases h
  | .din ng a b, W, X, lm, F, c, hl, pe, h => by
    simp only [cE] at h
    split at h
    · rename_i x o y hx
      obtain ⟨p, rfl⟩ := asCmp_eq hx
      simp only [Bool.and_eq_true, Bool.not_eq_true'] at h
      obtain ⟨⟨⟨h1, h2⟩, h3⟩, h4⟩ := h
      exact pe_cong (fun ρ st => by rw [eval] <;> rfl) (k_din c.good (sE a F c hl x h2) (sE b F c hl y h3) h1 h4)
    · cases h
  | .sl m a lo hi, W, X, lm, F, c, hl, pe, h => by
    simp only [cE] at h
    split at h
    · rename_i x y hx
      obtain ⟨p, rfl⟩ := asSub_eq hx
      split at h
      · rename_i l r hy
        obtain ⟨p2, rfl⟩ := asSlice_eq hy
        simp only [Bool.and_eq_true] at h
        exact pe_cong (fun ρ st => by rw [eval] <;> rfl) (k_sl (m := m) (sE a F c hl x h.1.1) (sO lo F c hl l h.1.2) (sO hi F c hl r h.2))
      · cases h
    · cases h
  | .rev m a, W, X, lm, F, c, hl, pe, h => by
    simp only [cE] at h
    split at h
    · rename_i x y hx
      obtain ⟨p, rfl⟩ := asSub_eq hx
      split at h
      · rename_i z hy
        obtain ⟨p2, rfl⟩ := asSlice_eq hy
        simp only [Bool.and_eq_true] at h
        obtain ⟨k, p3, p4, rfl⟩ := isMinusOne_eq h.1
        exact pe_cong (fun ρ st => by rw [eval] <;> rfl) (k_rev (m := m) (sE a F c hl x h.2))
      · cases h
    · cases h
  | .revT a, W, X, lm, F, c, hl, pe, h => by
    simp only [cE] at h
    split at h
    · rename_i x y hx
      obtain ⟨p, rfl⟩ := asSub_eq hx
      split at h
      · rename_i z hy
        obtain ⟨p2, rfl⟩ := asSlice_eq hy
        simp only [Bool.and_eq_true] at h
        obtain ⟨k, p3, p4, rfl⟩ := isMinusOne_eq h.1
        exact pe_cong (fun ρ st => by rw [eval] <;> rfl) (k_revT (sE a F c hl x h.2))
      · cases h
    · cases h
  | .call f es, W, X, lm, F, c, hl, pe, h => by
    simp only [cE] at h
    split at h
    · rename_i g p hx
      obtain rfl := asCall_eq hx
      split at h
      · rename_i nm fd hnm hf
        obtain ⟨p2, rfl⟩ := asName_eq hnm
        simp only [Bool.and_eq_true, decide_eq_true_eq] at h
        obtain ⟨⟨⟨⟨h1, h2⟩, h3⟩, h4⟩, h5⟩ := h
        subst h2
        exact pe_cong (fun ρ st => by rw [eval, evalL] <;> rfl) (k_call0 c hf h1 (glB_eq h3) (okNm_eq h4).1 h5)
      · cases h
    · rename_i g x xs p hx
      obtain rfl := asCall_eq hx
      split at h
      · rename_i nm fd hnm hf
        obtain ⟨p2, rfl⟩ := asName_eq hnm
        simp only [Bool.and_eq_true, decide_eq_true_eq] at h
        obtain ⟨⟨⟨⟨⟨⟨h1, h2⟩, h3⟩, h4⟩, h5⟩, h6⟩, h7⟩ := h
        subst h2
        exact pe_cong (fun ρ st => by rw [eval] <;> rfl) (k_call c hf h1 (glB_eq h3) (okNm_eq h4).1 (by simpa using h5) (sL es F c hl _ (by simpa using h5) h6) fun ρ st ds st1 e => by rw [evalL_len _ es ρ st ds st1 e, h7])
      · cases h
    · cases h
  | .bi b es, W, X, lm, F, c, hl, pe, h => by
    simp only [cE] at h
    split at h
    · rename_i g x xs p hx
      obtain rfl := asCall_eq hx
      split at h
      · rename_i nm hnm
        obtain ⟨p2, rfl⟩ := asName_eq hnm
        simp only [Bool.and_eq_true, decide_eq_true_eq] at h
        obtain ⟨⟨⟨⟨h1, h2⟩, h3⟩, h4⟩, h5⟩ := h
        subst h1
        exact pe_cong (fun ρ st => by rw [eval] <;> rfl) (k_bi c (glB_eq h2) (bits_eq c.gls h5) (by simpa using h3) (sL es F c hl _ (by simpa using h3) h4))
      · cases h
    · cases h
  | .newl m a, W, X, lm, F, c, hl, pe, h => by
    simp only [cE] at h
    split at h
    · rename_i g x p hx
      obtain rfl := asCall_eq hx
      split at h
      · rename_i nm hnm
        obtain ⟨p2, rfl⟩ := asName_eq hnm
        simp only [Bool.and_eq_true, decide_eq_true_eq] at h
        obtain ⟨⟨⟨h1, h2⟩, h3⟩, h4⟩ := h
        subst h1
        exact pe_cong (fun ρ st => by rw [eval] <;> rfl) (k_newl (m := m) c (glB_eq h2) h3 (sE a F c hl x h4))
      · cases h
    · cases h
  | .meth .append o es, W, X, lm, F, c, hl, pe, h => by
    simp only [cE] at h
    split at h
    · rename_i g x p hx
      obtain rfl := asCall_eq hx
      split at h
      · rename_i y m ap hy
        obtain rfl := asAttr_eq hy
        simp only [Bool.and_eq_true, decide_eq_true_eq] at h
        obtain ⟨⟨⟨⟨⟨h1, h2⟩, h3⟩, h4⟩, h5⟩, h6⟩ := h
        subst h1
        exact pe_cong (fun ρ st => by rw [eval] <;> rfl) (k_append (sE o F c hl y h5) (sL es F c hl [x] (by simp [h2]) h6) h2 h3 h4)
      · cases h
    · cases h
  | .meth .pop o [], W, X, lm, F, c, hl, pe, h => by
    simp only [cE] at h
    split at h
    · rename_i g p hx
      obtain rfl := asCall_eq hx
      split at h
      · rename_i y m ap hy
        obtain rfl := asAttr_eq hy
        simp only [Bool.and_eq_true, decide_eq_true_eq] at h
        obtain ⟨⟨⟨h1, h2⟩, h3⟩, h4⟩ := h
        subst h1
        exact pe_cong (fun ρ st => by rw [eval]; simp only [evalL] <;> rfl) (k_pop (sE o F c hl y h4) h2 h3)
      · cases h
    · cases h
  | .meth .bitlen o [], W, X, lm, F, c, hl, pe, h => by
    simp only [cE] at h
    split at h
    · rename_i g p hx
      obtain rfl := asCall_eq hx
      split at h
      · rename_i y m ap hy
        obtain rfl := asAttr_eq hy
        simp only [Bool.and_eq_true, decide_eq_true_eq] at h
        obtain ⟨⟨⟨h1, h2⟩, h3⟩, h4⟩ := h
        subst h1
        exact pe_cong (fun ρ st => by rw [eval]; simp only [evalL] <;> rfl) (k_bits (sE o F c hl y h4) h2 h3)
      · cases h
    · cases h
  | .emp m, W, X, lm, F, c, hl, pe, h => by
    simp only [cE] at h
    split at h
    · rename_i hx
      obtain ⟨p, rfl⟩ := asDict_eq hx
      exact pe_cong (fun ρ st => by rw [eval] <;> rfl) (k_emp (m := m))
    · cases h
  | .dic m es, W, X, lm, F, c, hl, pe, h => by
    simp only [cE] at h
    split at h
    · rename_i k ks vs hx
      obtain ⟨p, rfl⟩ := asDict_eq hx
      simp only [Bool.and_eq_true, decide_eq_true_eq] at h
      obtain ⟨⟨⟨h1, h2⟩, h3⟩, h4⟩ := h
      exact pe_cong (fun ρ st => by rw [eval, evalL_seq]; rfl) (k_dic (m := m) (fs := es.map (eval (callN U.Pg n))) (sP es F c hl p _ _ h4) h3 h2 (by simp) h1)
    · cases h
  | .lc m elt tg ik src ifs own, W, X, lm, F, c, hl, pe, h => by
    simp only [cE] at h
    split at h
    · rename_i pelt gs scope hx
      obtain ⟨pos, rfl⟩ := asLC_eq hx
      split at h
      · rename_i tge iter pifs hg
        obtain rfl := asGen_eq hg
        split at h
        · rename_i xs hi
          simp only [Bool.and_eq_true] at h
          obtain ⟨⟨⟨⟨⟨⟨h1, h2⟩, h3⟩, h4⟩, h5⟩, h6⟩, h7⟩ := h
          have hr : PA X xs (TLx U X F W (evalL (callN U.Pg n) src)) := sL src F c hl xs (asIter_star hi) h5
          exact pe_cong (fun ρ st => lc_eq) (k_lc c h1 h2 h3 h4 (k_iter c hi (cL_len h5) hr (sE1 src F c hl xs h5)) (fun Y s H C cl fp hY => by subst hY; exact sI ifs (lm := false) c.inBlk (fun z => nomatch z) pifs h7) fun Y s H C cl fp hY => by subst hY; exact pe_any fun F' => sE elt F' (X := X.blk s H scope (compEnvC scope cl C X.env) fp) (lm := false) c.inBlk (fun z => nomatch z) pelt h6)
        · cases h
      · cases h
    · cases h
  | .lcv m elt tg en src ifs own, W, X, lm, F, c, hl, pe, h => by
    simp only [cE] at h
    split at h
    · rename_i pelt gs scope hx
      obtain ⟨pos, rfl⟩ := asLC_eq hx
      split at h
      · rename_i tge iter pifs hg
        obtain rfl := asGen_eq hg
        split at h
        · rename_i x hi
          simp only [Bool.and_eq_true] at h
          obtain ⟨⟨⟨⟨⟨⟨h1, h2⟩, h3⟩, h4⟩, h5⟩, h6⟩, h7⟩ := h
          exact pe_cong (fun ρ st => lcv_eq) (k_lcv c h1 h2 h3 h4 (k_iterV c hi (sE src F c hl x h5)) (fun Y s H C cl fp hY => by subst hY; exact sI ifs (lm := false) c.inBlk (fun z => nomatch z) pifs h7) fun Y s H C cl fp hY => by subst hY; exact pe_any fun F' => sE elt F' (X := X.blk s H scope (compEnvC scope cl C X.env) fp) (lm := false) c.inBlk (fun z => nomatch z) pelt h6)
        · cases h
      · cases h
    · cases h
  | .told f e, W, X, lm, F, c, hl, pe, h => by
    simp only [cE] at h
    rw [Bool.and_eq_true] at h
    obtain ⟨hlm, h⟩ := h
    have LT := hl hlm
    split at h
    · rename_i g a p hx
      obtain rfl := asCall_eq hx
      split at h
      · rename_i nm params body scope nm' hnm ha hk
        obtain ⟨p2, rfl⟩ := asName_eq hnm
        obtain ⟨lp, rfl⟩ := asLam_eq ha
        simp only [Bool.and_eq_true, decide_eq_true_eq] at h
        obtain ⟨⟨⟨⟨h1, h2⟩, h3⟩, h4⟩, h5⟩ := h
        subst h1
        obtain rfl := noArgs_eq h4
        obtain ⟨fld, g, a', e', nn, pg, bg, sg, dV, kV, doc, pm, cdv, ct, an, TX, hf⟩ := LT.td f _ hk
        refine pe_cong (fun ρ st => by rw [eval] <;> rfl) (k_told (se := eval (callN U.Pg n) e) c LT.ok TX rfl hf (glB_eq h2) (LamX.lamS_by h3) rfl (fun _ _ _ _ _ => rfl) fun Y E cY hN hsc _ F' => ?_)
        exact sE e F' cY (lm := false) (fun z => nomatch z) body (by rw [hN, hsc]; exact h5)
      · cases h
    · cases h
  | .bad, W, X, lm, F, c, hl, pe, h => by
    simp only [cE] at h
    exact pe_cong (fun ρ st => by rw [eval]) k_bad
  | .newd _ _, W, X, lm, F, c, hl, pe, h => by simp [cE] at h
  | .imeth _ _ _ _, W, X, lm, F, c, hl, pe, h => by simp [cE] at h
  | .mk _ _ _, W, X, lm, F, c, hl, pe, h => by simp [cE] at h
  | .fld _ _ _, W, X, lm, F, c, hl, pe, h => by simp [cE] at h
  | .tv _, W, X, lm, F, c, hl, pe, h => by simp [cE] at h
  | .meth .extend _ _, W, X, lm, F, c, hl, pe, h => by simp [cE] at h
  | .meth .dget _ _, W, X, lm, F, c, hl, pe, h => by simp [cE] at h
  | .meth .dget2 _ _, W, X, lm, F, c, hl, pe, h => by simp [cE] at h
  | .meth .join _ _, W, X, lm, F, c, hl, pe, h => by simp [cE] at h
  | .meth .dupdate _ _, W, X, lm, F, c, hl, pe, h => by simp [cE] at h
  | .meth .pop _ (_ :: _), W, X, lm, F, c, hl, pe, h => by simp [cE] at h
  | .meth .bitlen _ (_ :: _), W, X, lm, F, c, hl, pe, h => by simp [cE] at h
theorem sT : ∀ (e : E) {W : WX} {X : Cx} {lm : Bool} (F : List Addr) (c : Ctx U n W X) (hl : lm = true → LamT U n X) (pe : Expr), cT U.toSg X.N lm X.env.scope e pe = true → PT X pe (TBx U X F W (evalT (callN U.Pg n) e))
  | .not a, W, X, lm, F, c, hl, pe, h => by
    simp only [cT] at h
    split at h
    · rename_i x hx
      obtain ⟨p, rfl⟩ := asUn_eq hx
      exact pt_cong (fun ρ st => by rw [evalT] <;> rfl) (k_notT (sT a F c hl x h))
    · cases h
  | .and a b, W, X, lm, F, c, hl, pe, h => by
    simp only [cT] at h
    split at h
    · rename_i x y p hx
      obtain rfl := asBool_eq hx
      simp only [Bool.and_eq_true] at h
      exact pt_cong (fun ρ st => by rw [evalT] <;> rfl) (k_andT (sT a F c hl x h.1) (sT b F c hl y h.2))
    · rename_i x y z r p hx
      obtain rfl := asBool_eq hx
      simp only [Bool.and_eq_true] at h
      exact pt_cong (fun ρ st => by rw [evalT] <;> rfl) (k_andT3 (sT a F c hl x h.1) (sT b F c hl _ h.2))
    · cases h
  | .or a b, W, X, lm, F, c, hl, pe, h => by
    simp only [cT] at h
    split at h
    · rename_i x y p hx
      obtain rfl := asBool_eq hx
      simp only [Bool.and_eq_true] at h
      exact pt_cong (fun ρ st => by rw [evalT] <;> rfl) (k_orT (sT a F c hl x h.1) (sT b F c hl y h.2))
    · rename_i x y z r p hx
      obtain rfl := asBool_eq hx
      simp only [Bool.and_eq_true] at h
      exact pt_cong (fun ρ st => by rw [evalT] <;> rfl) (k_orT3 (sT a F c hl x h.1) (sT b F c hl _ h.2))
    · cases h
  | .cmp op a b, W, X, lm, F, c, hl, pe, h => by
    simp only [cT] at h
    split at h
    · rename_i x o y hx
      obtain ⟨p, rfl⟩ := asCmp_eq hx
      simp only [Bool.and_eq_true, Bool.not_eq_true'] at h
      obtain ⟨⟨⟨h1, h2⟩, h3⟩, h4⟩ := h
      obtain rfl := cmpB_eq h1
      exact pt_cong (fun ρ st => by rw [evalT] <;> rfl) (k_cmpT c.good (sE a F c hl x h2) (sE b F c hl y h3) h4)
    · cases h
  | .chain o1 o2 a b d, W, X, lm, F, c, hl, pe, h => by
    simp only [cT] at h
    split at h
    · rename_i x p1 p2 y z hx
      obtain ⟨p, rfl⟩ := asCmp_eq hx
      simp only [Bool.and_eq_true, Bool.not_eq_true'] at h
      obtain ⟨⟨⟨⟨⟨h1, h2⟩, h3⟩, h4⟩, h5⟩, h6⟩ := h
      obtain rfl := cmpB_eq h1
      obtain rfl := cmpB_eq h2
      exact pt_cong (fun ρ st => by rw [evalT] <;> rfl) (k_chainT c.good (sE a F c hl x h3) (sE b F c hl y h4) (sE d F c hl z h5) h6)
    · cases h
  | .isN ng a, W, X, lm, F, c, hl, pe, h => by
    simp only [cT] at h
    split at h
    · rename_i x o y hx
      obtain ⟨p, rfl⟩ := asCmp_eq hx
      simp only [Bool.and_eq_true] at h
      obtain ⟨⟨h1, h2⟩, h3⟩ := h
      obtain ⟨k, p2, rfl⟩ := asConst_none h1
      exact pt_cong (fun ρ st => by rw [evalT] <;> rfl) (k_isNT (sE a F c hl x h3) h2)
    · cases h
  | .din ng a b, W, X, lm, F, c, hl, pe, h => by
    simp only [cT] at h
    split at h
    · rename_i x o y hx
      obtain ⟨p, rfl⟩ := asCmp_eq hx
      simp only [Bool.and_eq_true, Bool.not_eq_true'] at h
      obtain ⟨⟨⟨h1, h2⟩, h3⟩, h4⟩ := h
      exact pt_cong (fun ρ st => by rw [evalT] <;> rfl) (k_dinT c.good (sE a F c hl x h2) (sE b F c hl y h3) h1 h4)
    · cases h
  | .tv a, W, X, lm, F, c, hl, pe, h => by
    simp only [cT] at h
    simp only [Bool.and_eq_true] at h
    exact pt_cong (fun ρ st => by rw [evalT] <;> rfl) (k_tv h.1 (sE a F c hl pe h.2))
  | .var _, W, X, lm, F, c, hl, pe, h => by simp [cT] at h
  | .lit _, W, X, lm, F, c, hl, pe, h => by simp [cT] at h
  | .con _ _, W, X, lm, F, c, hl, pe, h => by simp [cT] at h
  | .bin _ _ _, W, X, lm, F, c, hl, pe, h => by simp [cT] at h
  | .binO _ _ _, W, X, lm, F, c, hl, pe, h => by simp [cT] at h
  | .neg _, W, X, lm, F, c, hl, pe, h => by simp [cT] at h
  | .ife _ _ _, W, X, lm, F, c, hl, pe, h => by simp [cT] at h
  | .tup _, W, X, lm, F, c, hl, pe, h => by simp [cT] at h
  | .tupX _ _, W, X, lm, F, c, hl, pe, h => by simp [cT] at h
  | .lst _ _, W, X, lm, F, c, hl, pe, h => by simp [cT] at h
  | .dic _ _, W, X, lm, F, c, hl, pe, h => by simp [cT] at h
  | .ix _ _, W, X, lm, F, c, hl, pe, h => by simp [cT] at h
  | .dix _ _, W, X, lm, F, c, hl, pe, h => by simp [cT] at h
  | .sl _ _ _ _, W, X, lm, F, c, hl, pe, h => by simp [cT] at h
  | .rev _ _, W, X, lm, F, c, hl, pe, h => by simp [cT] at h
  | .revT _, W, X, lm, F, c, hl, pe, h => by simp [cT] at h
  | .call _ _, W, X, lm, F, c, hl, pe, h => by simp [cT] at h
  | .bi _ _, W, X, lm, F, c, hl, pe, h => by simp [cT] at h
  | .newl _ _, W, X, lm, F, c, hl, pe, h => by simp [cT] at h
  | .newd _ _, W, X, lm, F, c, hl, pe, h => by simp [cT] at h
  | .meth _ _ _, W, X, lm, F, c, hl, pe, h => by simp [cT] at h
  | .imeth _ _ _ _, W, X, lm, F, c, hl, pe, h => by simp [cT] at h
  | .mk _ _ _, W, X, lm, F, c, hl, pe, h => by simp [cT] at h
  | .fld _ _ _, W, X, lm, F, c, hl, pe, h => by simp [cT] at h
  | .lc _ _ _ _ _ _ _, W, X, lm, F, c, hl, pe, h => by simp [cT] at h
  | .lcv _ _ _ _ _ _ _, W, X, lm, F, c, hl, pe, h => by simp [cT] at h
  | .bad, W, X, lm, F, c, hl, pe, h => by simp [cT] at h
  | .isa _ _, W, X, lm, F, c, hl, pe, h => by simp [cT] at h
  | .told _ _, W, X, lm, F, c, hl, pe, h => by simp [cT] at h
  | .emp _, W, X, lm, F, c, hl, pe, h => by simp [cT] at h
theorem sL : ∀ (es : List E) {W : WX} {X : Cx} {lm : Bool} (F : List Addr) (c : Ctx U n W X) (hl : lm = true → LamT U n X) (pe : List Expr), pe.all noStar = true → cL U.toSg X.N lm X.env.scope es pe = true → PA X pe (TLx U X F W (evalL (callN U.Pg n) es))
  | [], W, X, lm, F, c, hl, [], _, _ => pa_cong (fun ρ st => by rw [evalL]) k_nil
  | e :: es, W, X, lm, F, c, hl, x :: xs, hn, h => by
    simp only [cL, Bool.and_eq_true] at h
    simp only [List.all_cons, Bool.and_eq_true] at hn
    exact pa_cong (fun ρ st => by rw [evalL] <;> rfl) (k_cons hn.1 (sE e F c hl x h.1) (sL es F c hl xs hn.2 h.2))
  | [], W, X, lm, F, c, hl, _ :: _, _, h => by simp [cL] at h
  | _ :: _, W, X, lm, F, c, hl, [], _, h => by simp [cL] at h
theorem sX : ∀ (bs : List Bool) (es : List E) {W : WX} {X : Cx} {lm : Bool} (F : List Addr) (c : Ctx U n W X) (hl : lm = true → LamT U n X) (pe : List Expr), cX U.toSg X.N lm X.env.scope bs es pe = true → PA X pe (TLx U X F W (evalX (callN U.Pg n) bs es))
  | _, [], W, X, lm, F, c, hl, [], _ => pa_cong (fun ρ st => by rw [evalX]) k_nil
  | false :: bs, e :: es, W, X, lm, F, c, hl, x :: xs, h => by
    simp only [cX, Bool.and_eq_true] at h
    exact pa_cong (fun ρ st => by rw [evalX] <;> rfl) (k_cons h.1.1 (sE e F c hl x h.1.2) (sX bs es F c hl xs h.2))
  | true :: bs, e :: es, W, X, lm, F, c, hl, x :: xs, h => by
    simp only [cX, Bool.and_eq_true] at h
    obtain ⟨h1, h2⟩ := h
    split at h1
    · rename_i y hy
      obtain ⟨p, rfl⟩ := asStarred_eq hy
      exact pa_cong (fun ρ st => by rw [evalX] <;> rfl) (k_star (sE e F c hl y h1) (sX bs es F c hl xs h2))
    · cases h1
  | _, [], W, X, lm, F, c, hl, _ :: _, h => by simp [cX] at h
  | [], _ :: _, W, X, lm, F, c, hl, pe, h => by cases pe <;> simp [cX] at h
  | false :: _, _ :: _, W, X, lm, F, c, hl, [], h => by simp [cX] at h
  | true :: _, _ :: _, W, X, lm, F, c, hl, [], h => by simp [cX] at h
theorem sE1 : ∀ (es : List E) {W : WX} {X : Cx} {lm : Bool} (F : List Addr) (c : Ctx U n W X) (hl : lm = true → LamT U n X) (pe : List Expr), cL U.toSg X.N lm X.env.scope es pe = true → ∀ e e', pe = [e] → es = [e'] → PE X e (TDx U X F W (eval (callN U.Pg n) e'))
  | [], W, X, lm, F, c, hl, _, _, e, e', _, he => by cases he
  | a :: r, W, X, lm, F, c, hl, pe, h, e, e', hp, he => by
    subst hp
    simp only [cL, Bool.and_eq_true] at h
    have z : a = e' := by injection he
    rw [← z]
    exact sE a F c hl e h.1
theorem sO : ∀ (es : List E) {W : WX} {X : Cx} {lm : Bool} (F : List Addr) (c : Ctx U n W X) (hl : lm = true → LamT U n X) (pe : Option Expr), cO U.toSg X.N lm X.env.scope es pe = true → PO X pe (TOx U X F W (evalO (callN U.Pg n) es))
  | [], W, X, lm, F, c, hl, none, _ => po_cong (fun ρ st => by rw [evalO]) k_onone
  | [e], W, X, lm, F, c, hl, some x, h => by
    simp only [cO] at h
    exact po_cong (fun ρ st => by rw [evalO] <;> rfl) (k_osome (sE e F c hl x h))
  | [], W, X, lm, F, c, hl, some _, h => by simp [cO] at h
  | [_], W, X, lm, F, c, hl, none, h => by simp [cO] at h
  | _ :: _ :: _, W, X, lm, F, c, hl, _, h => by simp [cO] at h
theorem sP : ∀ (es : List E) {W : WX} {X : Cx} {lm : Bool} (F : List Addr) (c : Ctx U n W X) (hl : lm = true → LamT U n X) (p : Pos) (ks : List (Option Expr)) (vs : List Expr), cP U.toSg X.N lm X.env.scope es ks vs = true → PPs X p ks vs (trsOf U X W (es.map (eval (callN U.Pg n))))
  | [], W, X, lm, F, c, hl, p, [], [], _ => pps_nil
  | a :: b :: es, W, X, lm, F, c, hl, p, some x :: ks, y :: vs, h => by
    simp only [cP, Bool.and_eq_true] at h
    exact pps_cons (pe_anyW fun F' => sE a F' c hl x h.1.1) (pe_anyW fun F' => sE b F' c hl y h.1.2) (sP es F c hl p ks vs h.2)
  | [], W, X, lm, F, c, hl, p, _ :: _, _, h => by simp [cP] at h
  | [], W, X, lm, F, c, hl, p, [], _ :: _, h => by simp [cP] at h
  | [_], W, X, lm, F, c, hl, p, _, _, h => by simp [cP] at h
  | _ :: _ :: _, W, X, lm, F, c, hl, p, [], _, h => by simp [cP] at h
  | _ :: _ :: _, W, X, lm, F, c, hl, p, none :: _, _, h => by simp [cP] at h
  | _ :: _ :: _, W, X, lm, F, c, hl, p, some _ :: _, [], h => by simp [cP] at h
theorem sI : ∀ (es : List E) {X : Cx} {lm : Bool} (c : Ctx U n WF X) (hl : lm = true → LamT U n X) (pe : List Expr), cI U.toSg X.N lm X.env.scope es pe = true → PTs X pe (anyB U X (evalTs (callN U.Pg n) es))
  | [], X, lm, c, hl, [], _ => pts_cong (fun ρ st => by rw [evalTs]) pts_any0
  | [e], X, lm, c, hl, [x], h => by
    simp only [cI] at h
    exact pts_cong (fun ρ st => evalTs_one _ e ρ st) (pts_any1 fun F => sT e F c hl x h)
  | [], X, lm, c, hl, _ :: _, h => by simp [cI] at h
  | [_], X, lm, c, hl, [], h => by simp [cI] at h
  | [_], X, lm, c, hl, _ :: _ :: _, h => by simp [cI] at h
  | _ :: _ :: _, X, lm, c, hl, _, h => by simp [cI] at h
end
end
end MP

set_option Elab.async false
set_option linter.all false
set_option maxRecDepth 100000
set_option maxHeartbeats 4000000
namespace MP
open PySem L2 PyProof.Rows
/-! ### what a statement's meaning asks -/
section
variable (K : PySem.W.Frag) (cls : Cl) (xf : Nat → List Str) (F : List Addr)
def PostS (W : WX) (μ : List Addr) (H : Hp) (r : RS) (D : Ends) : Prop := match r with
  | .nx ρ st => ∀ μ' H' σ', Ext μ μ' H H' → StRel K cls F μ' H' st → EnvRel K F μ' H' ρ σ' → D.nx σ' H'
  | .brk ρ st => ∀ μ' H' σ', Ext μ μ' H H' → StRel K cls F μ' H' st → EnvRel K F μ' H' ρ σ' → D.bk σ' H'
  | .cont ρ st => ∀ μ' H' σ', Ext μ μ' H H' → StRel K cls F μ' H' st → EnvRel K F μ' H' ρ σ' → D.ct σ' H'
  | .ret d st => ∀ μ' H' v, Ext μ μ' H H' → StRel K cls F μ' H' st → Rel K F μ' H' d v → D.rt v H'
  | .exc c fs ρ st => ∀ μ' H' σ' dd l, Ext μ μ' H H' → StRel K cls F μ' H' st → EnvRel K F μ' H' ρ σ' → H' dd = some (.xd l) → XRel K xf F μ' H' c fs l → W (.ref (cls c)) (some dd) σ' H'
  | .bad => False
end
def TSx (U : Wd) (X : Cx) (F : List Addr) (W : WX) (sem : MP.Env → DS → RS) : TS := fun D σ H => ∃ ρ st μ, EnvRel X.K F μ H ρ σ ∧ StRel X.K U.cls F μ H st ∧ PostS X.K U.cls U.xf F W μ H (sem ρ st) D
section
variable {K : PySem.W.Frag} {cls : Cl} {xf : Nat → List Str} {F : List Addr} {W : WX} {μ : List Addr} {H : Hp} {σ : L2.St} {ρ : MP.Env} {st : DS}
theorem PostS.shift {r : RS} {D : Ends} {μ1 : List Addr} {H1 : Hp} (e : Ext μ μ1 H H1) (h : PostS K cls xf F W μ H r D) : PostS K cls xf F W μ1 H1 r D := by
  cases r with
  | nx ρ st => exact fun μ' H' σ' e' => h μ' H' σ' (e.trans e')
  | brk ρ st => exact fun μ' H' σ' e' => h μ' H' σ' (e.trans e')
  | cont ρ st => exact fun μ' H' σ' e' => h μ' H' σ' (e.trans e')
  | ret d st => exact fun μ' H' v e' => h μ' H' v (e.trans e')
  | exc c fs ρ st => exact fun μ' H' σ' dd l e' => h μ' H' σ' dd l (e.trans e')
  | bad => exact h
theorem PostS.ends {r : RS} {D D' : Ends} (h : PostS K cls xf F W μ H r D) (h1 : ∀ σ H, D.nx σ H → D'.nx σ H) (h2 : ∀ v H, D.rt v H → D'.rt v H) (h3 : ∀ σ H, D.bk σ H → D'.bk σ H) (h4 : ∀ σ H, D.ct σ H → D'.ct σ H) : PostS K cls xf F W μ H r D' := by
  cases r with
  | nx ρ st => exact fun μ' H' σ' a b c => h1 _ _ (h μ' H' σ' a b c)
  | brk ρ st => exact fun μ' H' σ' a b c => h3 _ _ (h μ' H' σ' a b c)
  | cont ρ st => exact fun μ' H' σ' a b c => h4 _ _ (h μ' H' σ' a b c)
  | ret d st => exact fun μ' H' v a b c => h2 _ _ (h μ' H' v a b c)
  | exc c fs ρ st => exact h
  | bad => exact h
/-- an expression within a statement -/
theorem RD.to {α β : Type} {Ra : List Addr → Hp → α → β → Prop} {sa : MP.Env → DS → R α} {k : α → DS → RS} {D : Ends} {Q' : β → Hp → Prop} (hE : EnvRel K F μ H ρ σ) (hS : StRel K cls F μ H st) (hP : PostS K cls xf F W μ H ((sa ρ st).to ρ k) D)
    (h : ∀ a st1 μ1 H1 v, sa ρ st = .ok a st1 → Ext μ μ1 H H1 → StRel K cls F μ1 H1 st1 → Ra μ1 H1 a v → EnvRel K F μ1 H1 ρ σ → PostS K cls xf F W μ1 H1 (k a st1) D → Q' v H1) : RD K cls xf F Ra W sa σ H Q' := by
  refine ⟨ρ, st, μ, hE, hS, ?_⟩
  cases e : sa ρ st with
  | ok a st1 =>
    rw [e] at hP
    exact fun μ1 H1 v x s r => h a st1 μ1 H1 v e x s r (hE.mono x) (hP.shift x)
  | exc c fs st1 =>
    rw [e] at hP
    exact fun μ1 H1 dd l x s hd hx => hP μ1 H1 σ dd l x s (hE.mono x) hd hx
  | bad => rw [e] at hP; exact hP.elim
end
section
variable {U : Wd} {n : Nat} {W : WX} {X : Cx} {F : List Addr}
theorem ps_imp {X : Cx} {e : Stmt} {t t' : TS} (h : PS X e t) (i : ∀ D σ H, t' D σ H → t D σ H) : PS X e t' := ⟨fun pins s σ H D I q => h.run pins s σ H D I (i D σ H q)⟩
theorem pss_imp {X : Cx} {e : List Stmt} {t t' : TS} (h : PSs X e t) (i : ∀ D σ H, t' D σ H → t D σ H) : PSs X e t' := ⟨fun pins s σ H D I q => h.run pins s σ H D I (i D σ H q)⟩
theorem w_nil : PSs X [] (TSx U X F W fun ρ st => .nx ρ st) := pss_imp pss_nil fun D σ H ⟨ρ, st, μ, hE, hS, hP⟩ => hP μ H σ .refl hS hE
theorem w_cons {s : Stmt} {r : List Stmt} {a b : MP.Env → DS → RS} (h1 : PS X s (TSx U X F W a)) (h2 : PSs X r (TSx U X F W b)) :
    PSs X (s :: r) (TSx U X F W fun ρ st => match a ρ st with | .nx ρ' st' => b ρ' st' | x => x) := by
  refine pss_imp (pss_cons h1 h2) fun D σ H ⟨ρ, st, μ, hE, hS, hP⟩ => ⟨ρ, st, μ, hE, hS, ?_⟩
  cases e : a ρ st with
  | nx ρ' st' =>
    simp only [e] at hP
    exact fun μ' H' σ' x S E => ⟨ρ', st', μ', E, S, PostS.shift x hP⟩
  | brk ρ' st' => simp only [e] at hP; exact hP
  | cont ρ' st' => simp only [e] at hP; exact hP
  | ret d st' => simp only [e] at hP; exact hP
  | exc c fs ρ' st' => simp only [e] at hP; exact hP
  | bad => simp only [e] at hP; exact hP.elim
def notComp : Expr → Bool | .ListComp _ _ _ _ => false | .SetComp _ _ _ _ => false | .DictComp _ _ _ _ _ => false | _ => true
theorem notComp_eq {e : Expr} (h : notComp e = true) (t : Option Expr) (l : Nat) (env : PySem.Env) : swapsWith e t l env = pure false := by
  cases e <;> first | rfl | cases h
theorem w_expr {e : Expr} {p : Pos} {sa : MP.Env → DS → R D} (hn : notComp e = true) (he : PE X e (TDx U X F W sa)) : PS X (.Expr e p) (TSx U X F W fun ρ st => (sa ρ st).to ρ fun _ st1 => .nx ρ st1) :=
  ps_imp (ps_expr he (notComp_eq hn _ _ _)) fun D σ H ⟨ρ, st, μ, hE, hS, hP⟩ => RD.to hE hS hP fun d st1 μ1 H1 v _ x1 S1 r1 E1 P1 => P1 μ1 H1 σ .refl S1 E1
theorem w_doc {x : Str} {j : Nat} {p p' : Pos} : PS X (.Expr (.Constant (.str x) j p) p') (TSx U X F W fun ρ st => .nx ρ st) := ps_imp ps_doc fun D σ H ⟨ρ, st, μ, hE, hS, hP⟩ => hP μ H σ .refl hS hE
theorem w_pass {p : Pos} : PS X (.Pass p) (TSx U X F W fun ρ st => .nx ρ st) := ps_imp ps_pass fun D σ H ⟨ρ, st, μ, hE, hS, hP⟩ => hP μ H σ .refl hS hE
theorem w_brk {p : Pos} : PS X (.Break p) (TSx U X F W fun ρ st => .brk ρ st) := ps_imp ps_break fun D σ H ⟨ρ, st, μ, hE, hS, hP⟩ => hP μ H σ .refl hS hE
theorem w_cont {p : Pos} : PS X (.Continue p) (TSx U X F W fun ρ st => .cont ρ st) := ps_imp ps_continue fun D σ H ⟨ρ, st, μ, hE, hS, hP⟩ => hP μ H σ .refl hS hE
theorem w_bad {s : Stmt} : PS X s (TSx U X F W fun ρ st => .bad) := ps_imp ps_never fun D σ H ⟨ρ, st, μ, hE, hS, hP⟩ => hP
theorem w_ret {e : Expr} {p : Pos} {sa : MP.Env → DS → R D} (he : PE X e (TDx U X F W sa)) : PS X (.Return (some e) p) (TSx U X F W fun ρ st => (sa ρ st).to ρ fun d st1 => .ret d st1) :=
  ps_imp (ps_ret he) fun D σ H ⟨ρ, st, μ, hE, hS, hP⟩ => RD.to hE hS hP fun d st1 μ1 H1 v _ x1 S1 r1 E1 P1 => P1 μ1 H1 v .refl S1 r1
theorem w_retN {p : Pos} : PS X (.Return none p) (TSx U X F W fun _ st => .ret .non st) := ps_imp ps_retN fun D σ H ⟨ρ, st, μ, hE, hS, hP⟩ => hP μ H .non .refl hS .non
theorem w_ife {e : Expr} {a b : List Stmt} {p : Pos} {sc : MP.Env → DS → R Bool} {sa sb : MP.Env → DS → RS} (hc : PT X e (TBx U X F W sc)) (ha : PSs X a (TSx U X F W sa)) (hb : PSs X b (TSx U X F W sb)) :
    PS X (.If e a b p) (TSx U X F W fun ρ st => (sc ρ st).to ρ fun k st1 => if k then sa ρ st1 else sb ρ st1) :=
  ps_imp (ps_if hc ha hb) fun D σ H ⟨ρ, st, μ, hE, hS, hP⟩ => RD.to hE hS hP fun k st1 μ1 H1 v _ x1 S1 r1 E1 P1 => by
    have r1 : k = v := r1
    subst r1
    cases k with
    | true => exact ⟨ρ, st1, μ1, E1, S1, P1⟩
    | false => exact ⟨ρ, st1, μ1, E1, S1, P1⟩
theorem w_while {e : Expr} {b : List Stmt} {p : Pos} {m : Nat} {sc : MP.Env → DS → R Bool} {sb : MP.Env → DS → RS} (hp : PassesOwn (model X.prog X.w) X.A X.env X.xe) (hc : PT X e (TBx U X F W sc)) (hb : PSs X b (TSx U X F W sb)) :
    PS X (.While e b [] p) (TSx U X F W fun ρ st => whileL sc sb m ρ st) := by
  refine ps_imp (ps_while hp hc hb) fun D σ H ⟨ρ, st, μ, hE, hS, hP⟩ => ?_
  refine ⟨fun k σ H => ∃ ρ st μ, EnvRel X.K F μ H ρ σ ∧ StRel X.K U.cls F μ H st ∧ PostS X.K U.cls U.xf F W μ H (whileL sc sb k ρ st) D, ⟨m, ρ, st, μ, hE, hS, hP⟩, ?_⟩
  rintro k σ H ⟨ρ, st, μ, hE, hS, hP⟩
  cases k with
  | zero => exact hP.elim
  | succ k =>
    refine RD.to hE hS (show PostS X.K U.cls U.xf F W μ H ((sc ρ st).to ρ fun c st1 => if c then (match sb ρ st1 with
      | .nx ρ' st' => whileL sc sb k ρ' st' | .cont ρ' st' => whileL sc sb k ρ' st' | .brk ρ' st' => .nx ρ' st' | r => r) else .nx ρ st1) D from hP) fun c st1 μ1 H1 v _ x1 S1 r1 E1 P1 => ?_
    have r1 : c = v := r1
    subst r1
    cases c with
    | false => exact P1 μ1 H1 σ .refl S1 E1
    | true =>
      rw [if_pos rfl] at P1 ⊢
      refine ⟨fun σ' H' => ∃ ρ st μ, EnvRel X.K F μ H' ρ σ' ∧ StRel X.K U.cls F μ H' st ∧ PostS X.K U.cls U.xf F W μ H' (whileL sc sb k ρ st) D, fun σ' H' q => ⟨k, Nat.lt_succ_self k, q⟩, ρ, st1, μ1, E1, S1, ?_⟩
      cases es : sb ρ st1 with
      | nx ρ' st' => simp only [es] at P1; exact fun μ' H' σ' x S E => ⟨ρ', st', μ', E, S, PostS.shift x P1⟩
      | cont ρ' st' => simp only [es] at P1; exact fun μ' H' σ' x S E => ⟨ρ', st', μ', E, S, PostS.shift x P1⟩
      | brk ρ' st' => simp only [es] at P1; exact P1
      | ret d st' => simp only [es] at P1; exact P1
      | exc c fs ρ' st' => simp only [es] at P1; exact P1
      | bad => simp only [es] at P1; exact P1.elim
theorem w_for {tge iter : Expr} {b : List Stmt} {p : Pos} {tg : TN} {si : MP.Env → DS → R (List D)} {sb : MP.Env → DS → RS} (hp : PassesOwn (model X.prog X.w) X.A X.env X.xe) (hc : X.calm = true) (hns : notSet iter = true) (hi : PI X tge iter (ITx U X F W si)) (hg : PG X tge (gTN X.K tg)) (hb : PSs X b (TSx U X F W sb)) :
    PS X (.For tge iter b [] p) (TSx U X F W fun ρ st => (si ρ st).to ρ fun items st1 => forL (fun x ρ' st' => match tnD tg x ρ' with | some ρ2 => sb ρ2 st' | none => .bad) items ρ st1) := by
  refine ps_imp (ps_for hp hc hi hg hb (notSet_eq hns)) fun D σ H ⟨ρ, st, μ, hE, hS, hP⟩ => RD.to hE hS hP fun items st1 μ1 H1 J _ x1 S1 hJ E1 P1 => ?_
  have hJ : SeqIt X.K F J μ1 H1 items := hJ
  generalize hbd : (fun x ρ' st' => match tnD tg x ρ' with | some ρ2 => sb ρ2 st' | none => RS.bad) = bd at P1
  let Inn : Nat → L2.St → Hp → Prop := fun i σ H => ∃ (μ' : List Addr) (ρ : MP.Env) (st : DS), i ≤ items.length ∧ Ext μ1 μ' H1 H ∧ EnvRel X.K F μ' H ρ σ ∧ StRel X.K U.cls F μ' H st ∧ PostS X.K U.cls U.xf F W μ' H (forL bd (items.drop i) ρ st) D
  refine ⟨fun i k σ H => k = items.length - i ∧ Inn i σ H, ⟨items.length, by simp, μ1, ρ, st1, Nat.zero_le _, .refl, E1, S1, by simpa using P1⟩, ?_⟩
  rintro i k σ H ⟨rfl, μ', ρ, st, hi', e, E, S, P⟩
  by_cases hlt : i < items.length
  · refine .inr ⟨hJ.go i μ' H e hlt, Inn (i + 1), fun σ' H' q => ⟨items.length - (i + 1), by omega, rfl, q⟩, fun x H' y => ?_⟩
    obtain ⟨d, ed, rd, hh⟩ := hJ.yld i F μ' H x H' e (fun d v r => r.up e) (fun p hp => S.fresh hp) hlt y
    have e2 : Ext μ' μ' H H' := by
      rcases hh with rfl | ⟨T, xs, hT, rfl⟩
      · exact .refl
      · exact ext_new hT
    have S2 : StRel X.K U.cls F μ' H' st := by
      rcases hh with rfl | ⟨T, xs, hT, rfl⟩
      · exact S
      · exact S.new hT
    have hdrop : items.drop i = d :: items.drop (i + 1) := by
      obtain ⟨h1, h2⟩ := List.getElem?_eq_some_iff.mp ed
      rw [← h2]
      exact List.drop_eq_getElem_cons h1
    rw [hdrop] at P
    have P : PostS X.K U.cls U.xf F W μ' H (match bd d ρ st with | .nx ρ' st' => forL bd (items.drop (i + 1)) ρ' st' | .cont ρ' st' => forL bd (items.drop (i + 1)) ρ' st' | .brk ρ' st' => .nx ρ' st' | r => r) D := P
    rw [← hbd] at P
    cases et : tnD tg d ρ with
    | none => simp only [et] at P; exact P.elim
    | some ρ2 =>
      simp only [et] at P
      refine ⟨F, μ', ρ, d, ρ2, E.mono e2, rd, et, fun σ2 Eσ hl hj => ⟨ρ2, st, μ', Eσ, S2, ?_⟩⟩
      have P := PostS.shift e2 P
      rw [hbd] at P
      cases es : sb ρ2 st with
      | nx ρ' st' => simp only [es] at P; exact fun μ3 H3 σ3 x3 S3 E3 => ⟨μ3, ρ', st', hlt, (e.trans e2).trans x3, E3, S3, PostS.shift x3 P⟩
      | cont ρ' st' => simp only [es] at P; exact fun μ3 H3 σ3 x3 S3 E3 => ⟨μ3, ρ', st', hlt, (e.trans e2).trans x3, E3, S3, PostS.shift x3 P⟩
      | brk ρ' st' => simp only [es] at P; exact P
      | ret d st' => simp only [es] at P; exact P
      | exc c fs ρ' st' => simp only [es] at P; exact P
      | bad => simp only [es] at P; exact P.elim
  · have hi2 : i = items.length := by omega
    subst hi2
    refine .inl ⟨hJ.stop μ' H e, ?_⟩
    rw [List.drop_length] at P
    exact P μ' H σ .refl S E
theorem w_forv {tge iter : Expr} {b : List Stmt} {p : Pos} {tg : TN} {en : Bool} {si : MP.Env → DS → R D} {sb : MP.Env → DS → RS} (hp : PassesOwn (model X.prog X.w) X.A X.env X.xe) (hc : X.calm = true) (hns : notSet iter = true) (hi : PI X tge iter (ITv U X F W en si)) (hg : PG X tge (gTN X.K tg)) (hb : PSs X b (TSx U X F W sb)) :
    PS X (.For tge iter b [] p) (TSx U X F W fun ρ st => (si ρ st).to ρ fun x0 st1 => forV (fun x ρ' st' => match tnD tg x ρ' with | some ρ2 => sb ρ2 st' | none => .bad) en x0 fuel 0 ρ st1) := by
  refine ps_imp (ps_for hp hc hi hg hb (notSet_eq hns)) fun D σ H ⟨ρ, st, μ, hE, hS, hP⟩ => RD.to hE hS hP fun x0 st1 μ1 H1 J _ x1 S1 hJ E1 P1 => ?_
  have hJ : LvIt X.K U.cls F J μ1 H1 x0 en := hJ
  generalize hbd : (fun x ρ' st' => match tnD tg x ρ' with | some ρ2 => sb ρ2 st' | none => RS.bad) = bd at P1
  let Inn : Nat → Nat → L2.St → Hp → Prop := fun k i σ H => ∃ (μ' : List Addr) (ρ : MP.Env) (st : DS), Ext μ1 μ' H1 H ∧ EnvRel X.K F μ' H ρ σ ∧ StRel X.K U.cls F μ' H st ∧ PostS X.K U.cls U.xf F W μ' H (forV bd en x0 k i ρ st) D
  refine ⟨fun i k σ H => Inn k i σ H, ⟨fuel, μ1, ρ, st1, .refl, E1, S1, P1⟩, ?_⟩
  rintro i k σ H ⟨μ', ρ, st, e, E, S, P⟩
  cases k with
  | zero => exact P.elim
  | succ k =>
  have P : PostS X.K U.cls U.xf F W μ' H (match wkD en st x0 i with
    | none => RS.bad
    | some none => .nx ρ st
    | some (some d) => match bd d ρ st with
      | .nx ρ' st' => forV bd en x0 k (i + 1) ρ' st'
      | .cont ρ' st' => forV bd en x0 k (i + 1) ρ' st'
      | .brk ρ' st' => .nx ρ' st'
      | r => r) D := P
  cases ew : wkD en st x0 i with
  | none => rw [ew] at P; exact P.elim
  | some o =>
   cases o with
   | some d =>
    simp only [ew] at P
    obtain ⟨hgo, hyl⟩ := hJ.go F μ' H st i d e S (fun d v r => r.up e) ew
    refine .inr ⟨hgo, Inn k (i + 1), fun σ' H' q => ⟨k, Nat.lt_succ_self k, q⟩, fun x H' y => ?_⟩
    obtain ⟨rd, hh⟩ := hyl x H' y
    have e2 : Ext μ' μ' H H' := by
      rcases hh with rfl | ⟨T, xs, hT, rfl⟩
      · exact .refl
      · exact ext_new hT
    have S2 : StRel X.K U.cls F μ' H' st := by
      rcases hh with rfl | ⟨T, xs, hT, rfl⟩
      · exact S
      · exact S.new hT
    rw [← hbd] at P
    cases et : tnD tg d ρ with
    | none => simp only [et] at P; exact P.elim
    | some ρ2 =>
      simp only [et] at P
      refine ⟨F, μ', ρ, d, ρ2, E.mono e2, rd, et, fun σ2 Eσ hl hj => ⟨ρ2, st, μ', Eσ, S2, ?_⟩⟩
      have P := PostS.shift e2 P
      rw [hbd] at P
      cases es : sb ρ2 st with
      | nx ρ' st' => simp only [es] at P; exact fun μ3 H3 σ3 x3 S3 E3 => ⟨μ3, ρ', st', (e.trans e2).trans x3, E3, S3, PostS.shift x3 P⟩
      | cont ρ' st' => simp only [es] at P; exact fun μ3 H3 σ3 x3 S3 E3 => ⟨μ3, ρ', st', (e.trans e2).trans x3, E3, S3, PostS.shift x3 P⟩
      | brk ρ' st' => simp only [es] at P; exact P
      | ret d st' => simp only [es] at P; exact P
      | exc c fs ρ' st' => simp only [es] at P; exact P
      | bad => simp only [es] at P; exact P.elim
   | none =>
    simp only [ew] at P
    exact .inl ⟨hJ.stop F μ' H st i e S (fun d v r => r.up e) ew, P μ' H σ .refl S E⟩
def augS (i : Nat) (op : BOp) (sa : MP.Env → DS → R D) : MP.Env → DS → RS := fun ρ st => match getV ρ i with
  | some x => (sa ρ st).to ρ fun y st1 => match augD op x y with
    | some z => .nx (setV ρ i (some z)) st1
    | none => .bad
  | none => .bad
theorem w_augF {i : Nat} {x : Str} {e : Expr} {p p' : Pos} {op : BOp} {sa : MP.Env → DS → R D} (f : Int → Int → Int) (hf2 : ∀ x y z, augD op x y = some z → ∃ i j, x = .int i ∧ y = .int j ∧ z = .int (f i j)) (hip : PIp X (toOp op) (ipI f))
    (hN : X.N.Nodup) (hi : X.N[i]? = some x) (hx : L2.Loc X.env.scope x) (hf : X.fn x = true) (he : PE X e (TDx U X F W sa)) : PS X (.AugAssign (.Name x p') (toOp op) e p) (TSx U X F W (augS i op sa)) := by
  refine ps_imp (ps_aug hN hi hx he hip (.inl hf)) fun D σ H ⟨ρ, st, μ, hE, hS, hP⟩ => ?_
  unfold augS at hP
  cases eg : getV ρ i with
  | none => simp only [eg] at hP; exact hP.elim
  | some dx =>
    simp only [eg] at hP
    obtain ⟨v, ev, rv⟩ := hE.at eg
    refine ⟨v, ev, RD.to hE hS hP fun dy st1 μ1 H1 w _ x1 S1 r1 E1 P1 => ?_⟩
    cases ez : augD op dx dy with
    | none => rw [ez] at P1; exact P1.elim
    | some z =>
      rw [ez] at P1
      obtain ⟨a, b, rfl, rfl, rfl⟩ := hf2 _ _ _ ez
      cases rv; cases r1
      exact ⟨a, b, rfl, rfl, P1 μ1 H1 _ .refl S1 (E1.set (.int _))⟩
theorem w_aug {i : Nat} {x : Str} {e : Expr} {p p' : Pos} {op : BOp} {sa : MP.Env → DS → R D} (hop : op = .add ∨ op = .sub) (hN : X.N.Nodup) (hi : X.N[i]? = some x) (hx : L2.Loc X.env.scope x) (hf : X.fn x = true) (he : PE X e (TDx U X F W sa)) :
    PS X (.AugAssign (.Name x p') (toOp op) e p) (TSx U X F W (augS i op sa)) := by
  rcases hop with rfl | rfl
  · refine w_augF (fun i j => i + j) (fun x y z h => ?_) ip_add hN hi hx hf he
    cases x <;> cases y <;> first | (cases h; done) | (cases h; exact ⟨_, _, rfl, rfl, rfl⟩)
  · refine w_augF (fun i j => i - j) (fun x y z h => ?_) ip_sub hN hi hx hf he
    cases x <;> cases y <;> first | (cases h; done) | (cases h; exact ⟨_, _, rfl, rfl, rfl⟩)
end
end MP

set_option Elab.async false
set_option linter.all false
set_option maxRecDepth 100000
set_option maxHeartbeats 4000000
namespace MP
open PySem L2 PyProof.Rows
/-! ### which stores are exchanged -/
def namesS (sc : Scope) (ts : List Expr) : List Str := ts.filterMap fun
  | .Name id pos => if sc.names.lookup id == some .local && pos.line == (ts.head?.map (·.pos.line)).getD 0 then some id else none
  | _ => none
def namesOk (sc : Scope) (ts : List Expr) : Bool := (namesS sc ts).length == ts.length && (namesS sc ts).eraseDups.length == (namesS sc ts).length
def noSwp (sc : Scope) (tg value : Expr) : Bool := match asTup tg, asTup value with
  | some ts, some vs => !(ts.length == 2 || ts.length == 3) || vs.length != ts.length || !(vs.all noStar) || !(namesOk sc ts) || vs.all (foldedForSure 8)
  | some _, none => true
  | none, _ => (match tg with | .Name _ _ => true | .Subscript _ _ _ => true | .Attribute _ _ _ => true | _ => false)
def isSwp (sc : Scope) (ts vs : List Expr) : Bool := (ts.length == 2 || ts.length == 3) && vs.length == ts.length && vs.all noStar && namesOk sc ts && !(vs.all (foldedForSure 8)) && !(vs.all (constantsAlone 8))
theorem any_star : ∀ {vs : List Expr}, (vs.any fun | .Starred .. => true | _ => false) = !(vs.all noStar)
  | [] => rfl
  | v :: vs => by
    rw [List.any_cons, List.all_cons, any_star (vs := vs)]
    cases v <;> simp [noStar]
theorem names_bad {sc : Scope} {ts : List Expr} : ((namesS sc ts).length != ts.length || (namesS sc ts).eraseDups.length != (namesS sc ts).length) = !(namesOk sc ts) := by
  unfold namesOk
  rw [Bool.not_and]
  rfl
theorem swp_none {tg value : Expr} {env : PySem.Env} (hk : env.scope.kind = .function) (h : noSwp env.scope tg value = true) : swappedStores [tg] value env = pure none := by
  have hb : env.blockKind = .function := by unfold Env.blockKind; rw [hk]; rfl
  unfold noSwp at h
  split at h
  · rename_i ts vs h1 h2
    obtain ⟨_, _, rfl⟩ := asTup_eq h1
    obtain ⟨_, _, rfl⟩ := asTup_eq h2
    unfold swappedStores
    simp only [hb]
    split
    · rfl
    · rename_i ha
      split
      · rfl
      · rename_i hst
        split
        · rfl
        · rename_i hnm
          split
          · rfl
          · rename_i hfo
            exfalso
            simp only [Bool.or_eq_true] at h
            rcases h with (((h | h) | h) | h) | h
            · exact ha (by simp only [Bool.or_eq_true]; exact .inl (.inl h))
            · exact ha (by simp only [Bool.or_eq_true]; exact .inl (.inr h))
            · exact hst (any_star.trans h)
            · exact hnm (names_bad.trans h)
            · exact hfo h
  · rename_i ts h1 h2
    obtain ⟨_, _, rfl⟩ := asTup_eq h1
    cases value <;> first | rfl | cases h2
  · split at h <;> first | (cases value <;> rfl) | cases h
theorem swp_some {ts vs : List Expr} {kt k2 : Nat} {pt pt2 : Pos} {env : PySem.Env} (hk : env.scope.kind = .function) (h : isSwp env.scope ts vs = true) : swappedStores [.Tuple ts kt pt] (.Tuple vs k2 pt2) env = pure (some (namesS env.scope ts)) := by
  have hb : env.blockKind = .function := by unfold Env.blockKind; rw [hk]; rfl
  unfold isSwp at h
  simp only [Bool.and_eq_true, Bool.not_eq_true'] at h
  obtain ⟨⟨⟨⟨⟨h1, h2⟩, h3⟩, h4⟩, h5⟩, h6⟩ := h
  have e : (vs.length != ts.length) = false := by simpa [bne] using h2
  unfold swappedStores
  simp only [hb]
  split
  · rename_i ha
    rw [h1, e] at ha
    exact absurd ha (by decide)
  · split
    · rename_i hst
      exact absurd (any_star.symm.trans hst) (by rw [h3]; decide)
    · split
      · rename_i hnm
        exact absurd (names_bad.symm.trans hnm) (by rw [h4]; decide)
      · split
        · rename_i hfo
          rw [h5] at hfo; cases hfo
        · split
          · rename_i hco
            rw [h6] at hco; cases hco
          · rfl
theorem assign_subE {o i : Expr} {pos : Pos} {env : PySem.Env} (h : plainIx i = true) : ∀ v, assign (.Subscript o i pos) env v = (do
      let ov ← holding [v] (PySem.eval o env)
      let iv ← holding [v, ov] (PySem.eval i env)
      standAt pos
      holding [v, ov, iv] (setItem ov iv v)
      release [v, ov, iv] []) := by
  intro v
  cases i <;> first | rfl | cases h
/-! ### targets -/
section
variable (U : Sg) (N : List Str)
mutual
def cTT (lm : Bool) (sc : Scope) : T → Expr → Bool
  | .nm i, pe => match asName pe with | some x => decide (N[i]? = some x) && locB sc x | none => false
  | .sub o i, pe => match asSub pe with | some (x, y) => plainIx y && cE U N lm sc o x && cE U N lm sc i y | none => false
  | .tp ts, pe => match asTup pe with | some xs => xs.all noStar && cTTL lm sc ts xs | none => false
  | .fld _ _ _, _ => false
def cTTL (lm : Bool) (sc : Scope) : List T → List Expr → Bool
  | [], [] => true
  | t :: ts, x :: xs => cTT lm sc t x && cTTL lm sc ts xs
  | _, _ => false
end
end
theorem RelL.setAt {K : PySem.W.Frag} {F μ : List Addr} {H : Hp} : ∀ {ds : List D} {vs : List V} (j : Nat) {d : D} {v : V}, RelL K F μ H ds vs → Rel K F μ H d v → RelL K F μ H (ds.set j d) (vs.set j v)
  | [], _, _, _, _, h, _ => by cases h; exact .nil
  | _ :: _, _, 0, _, _, h, r => by
    cases h with
    | cons h1 h2 => exact .cons r h2
  | _ :: _, _, j + 1, _, _, h, r => by
    cases h with
    | cons h1 h2 => exact .cons h1 (RelL.setAt j h2 r)
section
variable {U : Wd} {n : Nat} {W : WX} {X : Cx} {F : List Addr}
def onlyNx (Q : L2.St → Hp → Prop) : Ends := { nx := Q, rt := fun _ _ => False }
def gTx (U : Wd) (X : Cx) (F : List Addr) (W : WX) (C : Nat → List D → DS → R D) (t : T) : TG := fun v σ H Q => ∃ μ ρ st d, EnvRel X.K F μ H ρ σ ∧ StRel X.K U.cls F μ H st ∧ Rel X.K F μ H d v ∧ PostS X.K U.cls U.xf F W μ H (asgT C t d ρ st) (onlyNx Q)
def gTxL (U : Wd) (X : Cx) (F : List Addr) (W : WX) (C : Nat → List D → DS → R D) (t : List T) : TGs := fun vs σ H Q => ∃ μ ρ st ds, EnvRel X.K F μ H ρ σ ∧ StRel X.K U.cls F μ H st ∧ RelL X.K F μ H ds vs ∧ PostS X.K U.cls U.xf F W μ H (asgTs C t ds ρ st) (onlyNx Q)
def setO2 : TSet := fun o i v H Q => rSetD o i v H Q ∨ rSetL o i v H Q
theorem set_any (hu : X.A.units + 1 < cLine) : PSet X setO2 := fun pins s σ H o i v ov iv u Q I ro ri rv h => h.elim (set_dict hu pins s σ H o i v ov iv u Q I ro ri rv) (set_list pins s σ H o i v ov iv u Q I ro ri rv)
theorem cTTL_len {N : List Str} {lm : Bool} {sc : Scope} : ∀ {ts : List T} {xs : List Expr}, cTTL U.toSg N lm sc ts xs = true → xs.length = ts.length
  | [], [], _ => rfl
  | [], _ :: _, h => by simp [cTTL] at h
  | _ :: _, [], h => by simp [cTTL] at h
  | t :: ts, x :: xs, h => by
    simp only [cTTL, Bool.and_eq_true] at h
    simp [cTTL_len h.2]
theorem keyOf_int {d : D} {i : Int} (h : keyOf d = some (.inl i)) : d = .int i := by
  cases d <;> first | (cases h; rfl) | cases h
theorem pg_or {tg : Expr} {t1 t2 : TG} (h1 : PG X tg t1) (h2 : PG X tg t2) : PG X tg (fun v σ H Q => t1 v σ H Q ∨ t2 v σ H Q) :=
  ⟨fun pins s σ H v u Q I r h => h.elim (h1.run pins s σ H v u Q I r) (h2.run pins s σ H v u Q I r)⟩
mutual
theorem pgT {lm : Bool} (c : Ctx U n W X) (hl : lm = true → LamT U n X) (hfn : ∀ x, X.fn x = true) : ∀ (t : T) (pe : Expr), cTT U.toSg X.N lm X.env.scope t pe = true → PG X pe (gTx U X F W (callN U.Pg n) t)
  | .nm i, pe, h => by
    simp only [cTT] at h
    split at h
    · rename_i x hx
      obtain ⟨p, rfl⟩ := asName_eq hx
      simp only [Bool.and_eq_true, decide_eq_true_eq] at h
      refine pg_imp (pg_name c.nd h.1 (locB_eq h.2) (.inl (hfn x))) fun v σ H Q ⟨μ, ρ, st, d, hE, hS, hr, hP⟩ => ?_
      simp only [asgT] at hP
      exact hP μ H _ .refl hS (hE.set hr)
    · cases h
  | .sub o i, pe, h => by
    simp only [cTT] at h
    split at h
    · rename_i x y hx
      obtain ⟨p, rfl⟩ := asSub_eq hx
      simp only [Bool.and_eq_true] at h
      refine pg_imp (pg_sub (sE o F c hl x h.1.2) (sE i F c hl y h.2) (set_any (by have := c.good.hu; omega)) (assign_subE h.1.1)) fun v σ H Q ⟨μ, ρ, st, d, hE, hS, hr, hP⟩ => ?_
      simp only [asgT] at hP
      refine RD.to hE hS hP fun od st1 μ1 H1 ov _ x1 S1 r1 E1 P1 => RD.to E1 S1 P1 fun xd st2 μ2 H2 iv _ x2 S2 r2 E2 P2 => ?_
      have hr2 := (hr.up x1).up x2
      have r1 : Rel X.K F μ2 H2 od ov := r1.up x2
      obtain ⟨m, rfl⟩ : ∃ m, od = .ref m := by
        cases od <;> first | exact P2.elim | exact ⟨_, rfl⟩
      dsimp only at P2
      cases eo : getO st2 m with
      | none => rw [eo] at P2; exact P2.elim
      | some ob =>
        cases ek : keyOf xd with
        | none =>
          rw [eo, ek] at P2
          cases ob <;> exact P2.elim
        | some k =>
          rw [eo, ek] at P2
          obtain ⟨a, rfl, hn2, ro⟩ := lstR' S2 r1 eo
          cases ob with
          | dic kvs =>
            dsimp only at P2
            split at P2
            · rename_i hl
              obtain ⟨l, ea, rp⟩ := ro
              have e1 : Ext μ2 μ2 H2 (upd H2 a (.dK (putK l k v))) := ext_set (List.mem_of_getElem? hn2)
              refine .inl ⟨a, _, rfl, by rw [rel_key r2 ek]; exact DPut.k ea (by rw [← rp.length]; exact hl), ?_⟩
              exact P2 μ2 _ σ e1 (S2.set hn2 ⟨_, upd_same, RelP.mono e1 _ _ (rp.put ek hr2)⟩) (E2.mono e1)
            · exact P2.elim
          | lst xs =>
            cases k with
            | inr z => exact P2.elim
            | inl j =>
              dsimp only at P2
              cases ej : ixN xs.length j with
              | none => rw [ej] at P2; exact P2.elim
              | some q =>
                rw [ej] at P2
                obtain ⟨l, ea, rl⟩ := ro
                obtain rfl := keyOf_int ek
                cases r2
                obtain ⟨e1, S3⟩ := setL (xs := xs) S2 hn2 (RelL.setAt q rl hr2)
                exact .inr ⟨a, l, j, q, rfl, rfl, ea, by rw [← rl.length]; exact ej, P2 μ2 _ σ e1 S3 (E2.mono e1)⟩
          | ins _ _ => exact P2.elim
    · cases h
  | .tp ts, pe, h => by
    simp only [cTT] at h
    split at h
    · rename_i xs hx
      obtain ⟨k, p, rfl⟩ := asTup_eq hx
      simp only [Bool.and_eq_true] at h
      obtain ⟨l1, l2⟩ := assign_len (env := X.env) h.1
      refine pg_imp (pg_or (pg_tup (n := xs.length) c.calm (pgTL c hl hfn ts xs h.1 h.2) l1 l2) (pg_lst (n := xs.length) c.calm (pgTL c hl hfn ts xs h.1 h.2) l1 l2)) fun v σ H Q ⟨μ, ρ, st, d, hE, hS, hr, hP⟩ => ?_
      cases d <;> first | (simp only [asgT] at hP; exact hP.elim) | skip
      · rename_i ds
        simp only [asgT] at hP
        split at hP
        · rename_i hl
          obtain ⟨a, vs, rfl, sq, r2⟩ := tupD_rel hr
          exact .inl ⟨a, vs, rfl, sq, by rw [← r2.length, hl, cTTL_len h.2], μ, ρ, st, ds, hE, hS, r2, hP⟩
        · exact hP.elim
      · rename_i ds
        simp only [asgT] at hP
        split at hP
        · rename_i hl
          obtain ⟨a, vs, rfl, sq, r2⟩ := lstD_rel hr
          exact .inr ⟨a, vs, rfl, SqL.of sq, by rw [← r2.length, hl, cTTL_len h.2], μ, ρ, st, ds, hE, hS, r2, hP⟩
        · exact hP.elim
    · cases h
  | .fld _ _ _, pe, h => by simp [cTT] at h
theorem pgTL {lm : Bool} (c : Ctx U n W X) (hl : lm = true → LamT U n X) (hfn : ∀ x, X.fn x = true) : ∀ (t : List T) (pe : List Expr), pe.all noStar = true → cTTL U.toSg X.N lm X.env.scope t pe = true → PGs X pe (gTxL U X F W (callN U.Pg n) t)
  | [], [], _, _ => pgs_imp pgs_nil fun v σ H Q ⟨μ, ρ, st, ds, hE, hS, hr, hP⟩ => by
    cases ds with
    | nil =>
      cases hr
      simp only [asgTs] at hP
      exact ⟨rfl, hP μ H σ .refl hS hE⟩
    | cons => simp only [asgTs] at hP; exact hP.elim
  | t :: ts, x :: xs, hn, h => by
    simp only [List.all_cons, Bool.and_eq_true] at hn
    simp only [cTTL, Bool.and_eq_true] at h
    refine pgs_imp (pgs_cons (pgT c hl hfn t x h.1) (pgTL c hl hfn ts xs hn.2 h.2) (by rw [assign1 hn.1]; rfl)) fun v σ H Q ⟨μ, ρ, st, ds, hE, hS, hr, hP⟩ => ?_
    cases ds with
    | nil => simp only [asgTs] at hP; exact hP.elim
    | cons d ds =>
      cases hr with
      | cons r1 r2 =>
        simp only [asgTs] at hP
        refine ⟨_, _, rfl, μ, ρ, st, d, hE, hS, r1, ?_⟩
        cases e : asgT (callN U.Pg n) t d ρ st with
        | nx ρ' st' =>
          simp only [e] at hP
          exact fun μ' H' σ' x' S' E' => ⟨μ', ρ', st', ds, E', S', r2.up x', PostS.shift x' hP⟩
        | exc c' fs ρ' st' => simp only [e] at hP; exact hP
        | ret d st' => simp only [e] at hP; exact hP.elim
        | brk ρ' st' => simp only [e] at hP; exact hP.elim
        | cont ρ' st' => simp only [e] at hP; exact hP.elim
        | bad => simp only [e] at hP; exact hP.elim
  | [], _ :: _, _, h => by simp [cTTL] at h
  | _ :: _, [], _, h => by simp [cTTL] at h
end
end
end MP
namespace MP
open PySem L2 PyProof.Rows
theorem R.to_ends {α : Type} (x : R α) (ρ : MP.Env) (f : α → DS → RS) (h : ∀ a st, (∀ d st', f a st ≠ .ret d st') ∧ (∀ d st', f a st ≠ .brk d st') ∧ ∀ d st', f a st ≠ .cont d st') : (∀ d st', x.to ρ f ≠ .ret d st') ∧ (∀ d st', x.to ρ f ≠ .brk d st') ∧ ∀ d st', x.to ρ f ≠ .cont d st' := by
  cases x with
  | ok a st => exact h a st
  | exc c fs st => exact ⟨fun _ _ z => (nomatch z), fun _ _ z => (nomatch z), fun _ _ z => (nomatch z)⟩
  | bad => exact ⟨fun _ _ z => (nomatch z), fun _ _ z => (nomatch z), fun _ _ z => (nomatch z)⟩
def SEnd (r : RS) : Prop := (∀ d st', r ≠ .ret d st') ∧ (∀ d st', r ≠ .brk d st') ∧ ∀ d st', r ≠ .cont d st'
theorem send_nx {ρ : MP.Env} {st : DS} : SEnd (.nx ρ st) := ⟨fun _ _ z => (nomatch z), fun _ _ z => (nomatch z), fun _ _ z => (nomatch z)⟩
theorem send_exc {c : Nat} {fs : List D} {ρ : MP.Env} {st : DS} : SEnd (.exc c fs ρ st) := ⟨fun _ _ z => (nomatch z), fun _ _ z => (nomatch z), fun _ _ z => (nomatch z)⟩
theorem send_bad : SEnd .bad := ⟨fun _ _ z => (nomatch z), fun _ _ z => (nomatch z), fun _ _ z => (nomatch z)⟩
mutual
theorem asgT_ends (C : Nat → List D → DS → R D) : ∀ (t : T) (d : D) (ρ : MP.Env) (st : DS), SEnd (asgT C t d ρ st)
  | .nm i, d, ρ, st => by simp only [asgT]; exact send_nx
  | .sub o i, d, ρ, st => by
    simp only [asgT]
    refine R.to_ends _ _ _ fun od st1 => R.to_ends _ _ _ fun x st2 => ?_
    show SEnd _
    split
    · split
      · split <;> first | exact send_nx | exact send_bad
      · split <;> first | exact send_nx | exact send_bad
      · exact send_bad
    · exact send_bad
  | .fld c o f, d, ρ, st => by
    simp only [asgT]
    refine R.to_ends _ _ _ fun od st1 => ?_
    show SEnd _
    split
    · split
      · split <;> first | exact send_nx | exact send_bad
      · exact send_bad
    · exact send_bad
  | .tp ts, d, ρ, st => by
    cases d <;> first | (simp only [asgT]; exact send_bad) | skip
    all_goals
      simp only [asgT]
      split
      · exact asgTs_ends C ts _ ρ st
      · exact send_bad
theorem asgTs_ends (C : Nat → List D → DS → R D) : ∀ (t : List T) (d : List D) (ρ : MP.Env) (st : DS), SEnd (asgTs C t d ρ st)
  | [], [], ρ, st => by simp only [asgTs]; exact send_nx
  | [], _ :: _, ρ, st => by simp only [asgTs]; exact send_bad
  | _ :: _, [], ρ, st => by simp only [asgTs]; exact send_bad
  | t :: ts, d :: ds, ρ, st => by
    simp only [asgTs]
    split
    · exact asgTs_ends C ts ds _ _
    · exact send_exc
    · exact send_bad
end
end MP

set_option Elab.async false
set_option linter.all false
set_option maxRecDepth 100000
set_option maxHeartbeats 4000000
namespace MP
open PySem L2 PyProof.Rows
def asExprS : Stmt → Option Expr | .Expr e _ => some e | _ => none
def asRet : Stmt → Option (Option Expr) | .Return e _ => some e | _ => none
def asAssign : Stmt → Option (Expr × Expr × Pos) | .Assign [t] e p => some (t, e, p) | _ => none
def asAug : Stmt → Option (Expr × Operator × Expr) | .AugAssign t o e _ => some (t, o, e) | _ => none
def asIfS : Stmt → Option (Expr × List Stmt × List Stmt) | .If c a b _ => some (c, a, b) | _ => none
def asWhile : Stmt → Option (Expr × List Stmt) | .While c a [] _ => some (c, a) | _ => none
def asFor : Stmt → Option (Expr × Expr × List Stmt) | .For t i b [] _ => some (t, i, b) | _ => none
def asRaise : Stmt → Option Expr | .Raise (some e) none _ => some e | _ => none
def isPass : Stmt → Bool | .Pass _ => true | .Expr (.Constant (.str _) _ _) _ => true | _ => false
def isBrk : Stmt → Bool | .Break _ => true | _ => false
def isCont : Stmt → Bool | .Continue _ => true | _ => false
theorem asExprS_eq {s : Stmt} {e : Expr} (h : asExprS s = some e) : ∃ p, s = .Expr e p := by cases s <;> first | (cases h; done) | skip; cases h; exact ⟨_, rfl⟩
theorem asRet_eq {s : Stmt} {e : Option Expr} (h : asRet s = some e) : ∃ p, s = .Return e p := by cases s <;> first | (cases h; done) | skip; cases h; exact ⟨_, rfl⟩
theorem asAssign_eq {s : Stmt} {t e : Expr} {p : Pos} (h : asAssign s = some (t, e, p)) : s = .Assign [t] e p := by
  unfold asAssign at h
  split at h
  · cases h; rfl
  · cases h
theorem asAug_eq {s : Stmt} {t e : Expr} {o : Operator} (h : asAug s = some (t, o, e)) : ∃ p, s = .AugAssign t o e p := by cases s <;> first | (cases h; done) | skip; cases h; exact ⟨_, rfl⟩
theorem asIfS_eq {s : Stmt} {c : Expr} {a b : List Stmt} (h : asIfS s = some (c, a, b)) : ∃ p, s = .If c a b p := by cases s <;> first | (cases h; done) | skip; cases h; exact ⟨_, rfl⟩
theorem asWhile_eq {s : Stmt} {c : Expr} {a : List Stmt} (h : asWhile s = some (c, a)) : ∃ p, s = .While c a [] p := by
  unfold asWhile at h
  split at h
  · cases h; exact ⟨_, rfl⟩
  · cases h
theorem asFor_eq {s : Stmt} {t i : Expr} {a : List Stmt} (h : asFor s = some (t, i, a)) : ∃ p, s = .For t i a [] p := by
  unfold asFor at h
  split at h
  · cases h; exact ⟨_, rfl⟩
  · cases h
theorem asRaise_eq {s : Stmt} {e : Expr} (h : asRaise s = some e) : ∃ p, s = .Raise (some e) none p := by
  unfold asRaise at h
  split at h
  · cases h; exact ⟨_, rfl⟩
  · cases h
/-- a comprehension as a value does not take its target along -/
def swOk (sc : Scope) (tg value : Expr) : Bool := notComp value || (match tg with | .Name x p => !(decide (sc.names.lookup x = some .local)) | _ => true)
theorem swOk_eq {tg value : Expr} {l : Nat} {env : PySem.Env} (h : swOk env.scope tg value = true) : swapsWithSole [tg] value l env = pure false := by
  show swapsWith value (some tg) l env = pure false
  unfold swOk at h
  simp only [Bool.or_eq_true] at h
  rcases h with h | h
  · exact notComp_eq h _ _ _
  · by_cases hn : notComp value = true
    · exact notComp_eq hn _ _ _
    · cases tg with
      | Name x p =>
        have hk : (env.kindOf x == some NameKind.local) = false := by
          simp only [Bool.not_eq_true', decide_eq_false_iff_not] at h
          unfold Env.kindOf
          simpa using h
        cases value <;> first | (exact absurd rfl hn) | skip
        all_goals (unfold swapsWith; dsimp only; rw [hk]; simp)
      | _ => cases value <;> first | (exact absurd rfl hn) | rfl
structure SCtx (U : Wd) (n : Nat) (W : WX) (X : Cx) (lm : Bool) : Prop where
  c : Ctx U n W X
  hl : lm = true → LamT U n X
  kd : X.env.scope.kind = .function
  hfn : ∀ x, X.fn x = true
  ps : PassesOwn (model X.prog X.w) X.A X.env X.xe
  mkx : ∀ (c : Nat) (nm : Str), U.xn c = some nm → Gl X nm → ∀ (F : List Addr) (x : Expr) (xs : List Expr) (p pos : Pos) (sr : MP.Env → DS → R (List D)), (x :: xs).all noStar = true → PA X (x :: xs) (TLx U X F W sr) → (∀ ρ st ds st1, sr ρ st = .ok ds st1 → ds.length = (U.xf c).length) →
    PMk X (.Call (.Name nm p) (x :: xs) [] pos) (fun σ H Q => TLx U X F W sr σ H fun vs H1 => ∀ dd, H1 dd = none → Q (.ref (U.cls c)) (some dd) (upd H1 dd (.xd ((U.xf c).zip vs))))
theorem zip_look {α : Type} : ∀ {ks : List Str} {vs : List α} {i : Nat} {k : Str} {v : α}, ks.Nodup → ks[i]? = some k → vs[i]? = some v → (ks.zip vs).lookup k = some v
  | [], _, _, _, _, _, h, _ => by simp at h
  | _ :: _, [], _, _, _, _, _, h => by simp at h
  | a :: ks, b :: vs, 0, k, v, _, h1, h2 => by
    simp at h1 h2
    subst h1 h2
    simp [List.lookup]
  | a :: ks, b :: vs, i + 1, k, v, nd, h1, h2 => by
    simp at h1 h2
    obtain ⟨n1, n2⟩ := List.nodup_cons.mp nd
    have ne : (k == a) = false := by
      rw [beq_eq_false_iff_ne]
      intro z
      subst z
      exact n1 (List.mem_of_getElem? h1)
    rw [List.zip_cons_cons, List.lookup_cons, ne]
    exact zip_look n2 h1 h2
section
variable {U : Wd} {n : Nat} {W : WX} {X : Cx} {F : List Addr}
theorem w_asg {lm : Bool} (c : SCtx U n W X lm) {t : T} {tge e : Expr} {p : Pos} {sa : MP.Env → DS → R D} (hn : noStar tge = true) (ht : cTT U.toSg X.N lm X.env.scope t tge = true) (hs : noSwp X.env.scope tge e = true) (ho : swOk X.env.scope tge e = true) (he : PE X e (TDx U X F W sa)) :
    PS X (.Assign [tge] e p) (TSx U X F W fun ρ st => (sa ρ st).to ρ fun d st1 => asgT (callN U.Pg n) t d ρ st1) :=
  ps_imp (ps_asg he (pgT c.c c.hl c.hfn t tge ht) (swOk_eq ho) (swp_none c.kd hs) (by rw [assign1 hn]; rfl)) fun D σ H ⟨ρ, st, μ, hE, hS, hP⟩ => RD.to hE hS hP fun d st1 μ1 H1 v _ x1 S1 r1 E1 P1 => by
    refine ⟨μ1, ρ, st1, d, E1, S1, r1, ?_⟩
    have key : ∀ r, (∀ d st, r ≠ RS.ret d st) → (∀ d st, r ≠ RS.brk d st) → (∀ d st, r ≠ RS.cont d st) → PostS X.K U.cls U.xf F W μ1 H1 r D → PostS X.K U.cls U.xf F W μ1 H1 r (onlyNx D.nx) := fun r a1 a2 a3 h => by
      cases r with
      | nx ρ st => exact h
      | brk ρ st => exact absurd rfl (a2 _ _)
      | cont ρ st => exact absurd rfl (a3 _ _)
      | ret d st => exact absurd rfl (a1 _ _)
      | exc c fs ρ st => exact h
      | bad => exact h
    obtain ⟨a1, a2, a3⟩ := asgT_ends (callN U.Pg n) t d ρ st1
    exact key _ a1 a2 a3 P1
theorem setAll2 {i j : Nat} {x y : D} {ρ : MP.Env} : setAll [i, j] [x, y] ρ = setV (setV ρ i (some x)) j (some y) := rfl
theorem w_par2 {lm : Bool} (c : SCtx U n W X lm) {i j : Nat} {x y : Str} {a b : Expr} {px py pt pos : Pos} {kt k2 : Nat} {pt2 : Pos} {sr : MP.Env → DS → R (List D)} (hi : X.N[i]? = some x) (hj : X.N[j]? = some y) (hij : i ≠ j) (hx : X.env.scope.names.lookup x = some .local) (hy : X.env.scope.names.lookup y = some .local)
    (hs : isSwp X.env.scope [.Name x px, .Name y py] [a, b] = true) (hn : namesS X.env.scope [.Name x px, .Name y py] = [x, y]) (hr : PA X [a, b] (TLx U X F W sr)) :
    PS X (.Assign [.Tuple [.Name x px, .Name y py] kt pt] (.Tuple [a, b] k2 pt2) pos) (TSx U X F W fun ρ st => (sr ρ st).to ρ fun xs st1 => if xs.length = [i, j].length then .nx (setAll [i, j] xs ρ) st1 else .bad) :=
  ps_imp (ps_par c.c.calm c.c.nd hi hj hij hx hy hr (by rw [swp_some c.kd hs, hn])) fun D σ H ⟨ρ, st, μ, hE, hS, hP⟩ => RD.to hE hS hP fun ds st1 μ1 H1 vs _ x1 S1 r1 E1 P1 => by
    split at P1
    · rename_i hl
      obtain ⟨d, d', rfl⟩ := len2 hl
      obtain ⟨v, v', rfl, r2, r3⟩ := relL2 r1
      exact ⟨v, v', rfl, P1 μ1 H1 _ .refl S1 ((E1.set r2).set r3)⟩
    · exact P1.elim
theorem len3 {ds : List D} (h : ds.length = 3) : ∃ a b c, ds = [a, b, c] := match ds, h with | [a, b, c], _ => ⟨a, b, c, rfl⟩
theorem relL3 {K : PySem.W.Frag} {μ : List Addr} {H : Hp} {d e f : D} {vs : List V} (r : RelL K F μ H [d, e, f] vs) : ∃ v w u, vs = [v, w, u] ∧ Rel K F μ H d v ∧ Rel K F μ H e w ∧ Rel K F μ H f u := by
  cases r with
  | cons a b => cases b with
    | cons b c => cases c with
      | cons c d => cases d; exact ⟨_, _, _, rfl, a, b, c⟩
theorem w_par3 {lm : Bool} (c : SCtx U n W X lm) {i j l : Nat} {x y z : Str} {a b e : Expr} {px py pz pt pos : Pos} {kt k2 : Nat} {pt2 : Pos} {sr : MP.Env → DS → R (List D)} (hi : X.N[i]? = some x) (hj : X.N[j]? = some y) (hl : X.N[l]? = some z) (hij : i ≠ j) (hil : i ≠ l) (hjl : j ≠ l)
    (hx : X.env.scope.names.lookup x = some .local) (hy : X.env.scope.names.lookup y = some .local) (hz : X.env.scope.names.lookup z = some .local)
    (hs : isSwp X.env.scope [.Name x px, .Name y py, .Name z pz] [a, b, e] = true) (hn : namesS X.env.scope [.Name x px, .Name y py, .Name z pz] = [x, y, z]) (hr : PA X [a, b, e] (TLx U X F W sr)) :
    PS X (.Assign [.Tuple [.Name x px, .Name y py, .Name z pz] kt pt] (.Tuple [a, b, e] k2 pt2) pos) (TSx U X F W fun ρ st => (sr ρ st).to ρ fun xs st1 => if xs.length = [i, j, l].length then .nx (setAll [i, j, l] xs ρ) st1 else .bad) :=
  ps_imp (ps_par3 c.c.calm c.c.nd hi hj hl hij hil hjl hx hy hz hr (by rw [swp_some c.kd hs, hn])) fun D σ H ⟨ρ, st, μ, hE, hS, hP⟩ => RD.to hE hS hP fun ds st1 μ1 H1 vs _ x1 S1 r1 E1 P1 => by
    split at P1
    · rename_i hl
      obtain ⟨d, d', d2, rfl⟩ := len3 hl
      obtain ⟨v, v', v2, rfl, r2, r3, r4⟩ := relL3 r1
      exact ⟨v, v', v2, rfl, P1 μ1 H1 _ .refl S1 (((E1.set r2).set r3).set r4)⟩
    · exact P1.elim
theorem w_raise {lm : Bool} (c : SCtx U n W X lm) {k : Nat} {nm : Str} {x : Expr} {xs : List Expr} {p pos rpos : Pos} {sr : MP.Env → DS → R (List D)} (hk : U.xn k = some nm) (hg : Gl X nm) (hnd : (U.xf k).Nodup) (hn : (x :: xs).all noStar = true) (hr : PA X (x :: xs) (TLx U X F W sr)) (hl : ∀ ρ st ds st1, sr ρ st = .ok ds st1 → ds.length = (U.xf k).length) :
    PS X (.Raise (some (.Call (.Name nm p) (x :: xs) [] pos)) none rpos) (TSx U X F W fun ρ st => (sr ρ st).to ρ fun xs st1 => .exc k xs ρ st1) :=
  ps_imp (ps_raise c.c.calm c.c.tk (c.mkx k nm hk hg F x xs p pos sr hn hr hl)) fun D σ H ⟨ρ, st, μ, hE, hS, hP⟩ => RD.to hE hS hP fun ds st1 μ1 H1 vs eq x1 S1 r1 E1 P1 => fun dd hdd => by
    have e1 : Ext μ1 μ1 H1 (upd H1 dd (.xd ((U.xf k).zip vs))) := ext_new hdd
    refine P1 μ1 _ σ dd _ e1 (S1.new hdd) (E1.mono e1) upd_same fun i f d h1 h2 => ?_
    obtain ⟨v, h3, h4⟩ := RelL.get r1 h2
    refine ⟨v, ?_, h4.up e1⟩
    exact zip_look hnd h1 h3
end
end MP

set_option Elab.async false
set_option linter.all false
set_option maxRecDepth 100000
set_option maxHeartbeats 8000000
namespace MP
open PySem L2 PyProof.Rows
def posN : Expr → Option Pos | .Name _ p => some p | _ => none
def posLC : Expr → Option (Pos × Scope) | .ListComp _ _ s p => some (p, s) | _ => none
section
variable {U : Wd} {n : Nat} {W : WX} {X : Cx} {F : List Addr}
theorem w_slc {lm : Bool} (c : SCtx U n W X lm) {i : Nat} {y : Str} {py : Pos} {m : Bool} {tg : TN} {own : List Nat} {elt tge iter : Expr} {ifs : List Expr} {scope : Scope} {pos spos : Pos} {si : MP.Env → DS → R (List D)} {sc : MP.Env → DS → R Bool} {se : MP.Env → DS → R D}
    (hy : X.N[i]? = some y) (hyl : X.env.scope.names.lookup y = some .local) (hln : (py.line == pos.line) = true) (hno : (scope.names.any fun (n, k) => n == y && (k == .local || k == .cell)) = false)
    (hown : (tnS tg).all (fun j => decide (j ∈ own)) = true) (hb : blkC X.N X.env.scope scope (ownN X.N own) = true) (hns : notSet iter = true) (htg : cTN X.N (relS scope X.env.scope) (fun x => scope.names.lookup x == some .cell) tg tge = true)
    (hi : PI X tge iter (ITx U X F W si)) (ht : ∀ (Y : Cx) (s : Shared) (H : Hp) (C : Addr) (cl : List (Str × Addr)) (fp : List Addr), Y = X.blk s H scope (compEnvC scope cl C X.env) fp → PTs Y ifs (anyB U X sc))
    (he : ∀ (Y : Cx) (s : Shared) (H : Hp) (C : Addr) (cl : List (Str × Addr)) (fp : List Addr), Y = X.blk s H scope (compEnvC scope cl C X.env) fp → PE Y elt (anyD U X se)) :
    PS X (.Assign [.Name y py] (.ListComp elt [⟨tge, iter, ifs, 0⟩] scope pos) spos) (TSx U X F W fun ρ st => (lcS m tg own si sc se ρ st).to ρ fun d st1 => .nx (setV ρ i (some d)) st1) := by
  have hown' : ∀ j ∈ tnS tg, j ∈ own := fun j hj => by simpa using List.all_eq_true.mp hown j hj
  refine ps_imp (ps_setLc (wi := ITx U X F W si) (g := gTN X.K tg) (tt := anyB U X sc) (te := anyD U X se) c.c.calm c.c.nd hy hyl (sw_true c.kd hyl hln hno) hi (blkOk_by hb) (fun s H C cl fp => pgTN (X := X.blk s H scope (compEnvC scope cl C X.env) fp) c.c.calm c.c.nd tg tge htg) (fun s H C cl fp => ht _ s H C cl fp rfl) (fun s H C cl fp => he _ s H C cl fp rfl) (notSet_eq hns)) fun D σ H ⟨ρ, st, μ, hE, hS, hP⟩ => ?_
  rw [ownN_snd]
  refine lc_imp (m := m) (F := F) (W := W) hown' (Q := fun x H1 => gName i x σ H1 D.nx) ⟨ρ, st, μ, hE, hS, ?_⟩
  have hP : PostS X.K U.cls U.xf F W μ H ((lcS m tg own si sc se ρ st).to ρ fun d st1 => .nx (setV ρ i (some d)) st1) D := hP
  cases e : lcS m tg own si sc se ρ st with
  | ok a st1 =>
    rw [e] at hP
    exact fun μ1 H1 v x s r => hP μ1 H1 _ x s ((hE.mono x).set r)
  | exc k fs st1 =>
    rw [e] at hP
    exact fun μ1 H1 dd l x s hd hx => hP μ1 H1 σ dd l x s (hE.mono x) hd hx
  | bad => rw [e] at hP; exact hP.elim
theorem w_slv {lm : Bool} (c : SCtx U n W X lm) {i : Nat} {y : Str} {py : Pos} {m : Bool} {tg : TN} {own : List Nat} {elt tge iter : Expr} {ifs : List Expr} {scope : Scope} {pos spos : Pos} {en : Bool} {si : MP.Env → DS → R D} {sc : MP.Env → DS → R Bool} {se : MP.Env → DS → R D}
    (hy : X.N[i]? = some y) (hyl : X.env.scope.names.lookup y = some .local) (hln : (py.line == pos.line) = true) (hno : (scope.names.any fun (n, k) => n == y && (k == .local || k == .cell)) = false)
    (hown : (tnS tg).all (fun j => decide (j ∈ own)) = true) (hb : blkC X.N X.env.scope scope (ownN X.N own) = true) (hns : notSet iter = true) (htg : cTN X.N (relS scope X.env.scope) (fun x => scope.names.lookup x == some .cell) tg tge = true)
    (hi : PI X tge iter (ITv U X F W en si)) (ht : ∀ (Y : Cx) (s : Shared) (H : Hp) (C : Addr) (cl : List (Str × Addr)) (fp : List Addr), Y = X.blk s H scope (compEnvC scope cl C X.env) fp → PTs Y ifs (anyB U X sc))
    (he : ∀ (Y : Cx) (s : Shared) (H : Hp) (C : Addr) (cl : List (Str × Addr)) (fp : List Addr), Y = X.blk s H scope (compEnvC scope cl C X.env) fp → PE Y elt (anyD U X se)) :
    PS X (.Assign [.Name y py] (.ListComp elt [⟨tge, iter, ifs, 0⟩] scope pos) spos) (TSx U X F W fun ρ st => (lvS m en tg own si sc se ρ st).to ρ fun d st1 => .nx (setV ρ i (some d)) st1) := by
  have hown' : ∀ j ∈ tnS tg, j ∈ own := fun j hj => by simpa using List.all_eq_true.mp hown j hj
  refine ps_imp (ps_setLc (wi := ITv U X F W en si) (g := gTN X.K tg) (tt := anyB U X sc) (te := anyD U X se) c.c.calm c.c.nd hy hyl (sw_true c.kd hyl hln hno) hi (blkOk_by hb) (fun s H C cl fp => pgTN (X := X.blk s H scope (compEnvC scope cl C X.env) fp) c.c.calm c.c.nd tg tge htg) (fun s H C cl fp => ht _ s H C cl fp rfl) (fun s H C cl fp => he _ s H C cl fp rfl) (notSet_eq hns)) fun D σ H ⟨ρ, st, μ, hE, hS, hP⟩ => ?_
  rw [ownN_snd]
  refine lv_imp (m := m) (F := F) (W := W) hown' (Q := fun x H1 => gName i x σ H1 D.nx) ⟨ρ, st, μ, hE, hS, ?_⟩
  have hP : PostS X.K U.cls U.xf F W μ H ((lvS m en tg own si sc se ρ st).to ρ fun d st1 => .nx (setV ρ i (some d)) st1) D := hP
  cases e : lvS m en tg own si sc se ρ st with
  | ok a st1 =>
    rw [e] at hP
    exact fun μ1 H1 v x s r => hP μ1 H1 _ x s ((hE.mono x).set r)
  | exc k fs st1 =>
    rw [e] at hP
    exact fun μ1 H1 dd l x s hd hx => hP μ1 H1 σ dd l x s (hE.mono x) hd hx
  | bad => rw [e] at hP; exact hP.elim
end
/-! ### the checker of statements -/
section
variable (U : Sg) (N : List Str)
def cPar (sc : Scope) (is : List Nat) (ts vs : List Expr) : Bool := match is, ts with
  | [i, j], [.Name x _, .Name y _] => decide (N[i]? = some x) && decide (N[j]? = some y) && decide (i ≠ j) && decide (sc.names.lookup x = some .local) && decide (sc.names.lookup y = some .local) && decide (namesS sc ts = [x, y]) && isSwp sc ts vs
  | [i, j, l], [.Name x _, .Name y _, .Name z _] => decide (N[i]? = some x) && decide (N[j]? = some y) && decide (N[l]? = some z) && decide (i ≠ j) && decide (i ≠ l) && decide (j ≠ l) && decide (sc.names.lookup x = some .local) && decide (sc.names.lookup y = some .local) && decide (sc.names.lookup z = some .local) &&
      decide (namesS sc ts = [x, y, z]) && isSwp sc ts vs
  | _, _ => false
mutual
def cS (lm : Bool) (sc : Scope) : S → Stmt → Bool
  | .expr e, s => match asExprS s with | some v => notComp v && cE U N lm sc e v | none => false
  | .ret e, s => match asRet s with | some (some v) => cE U N lm sc e v | _ => false
  | .retN, s => match asRet s with | some none => true | _ => false
  | .asg t e, s => match asAssign s with | some (tg, v, _) => noStar tg && cTT U N lm sc t tg && noSwp sc tg v && swOk sc tg v && cE U N lm sc e v | none => false
  | .par is es, s => match asAssign s with
    | some (tg, v, _) => (match asTup tg, asTup v with | some ts, some vs => cPar N sc is ts vs && vs.all noStar && cL U N lm sc es vs | _, _ => false)
    | none => false
  | .slc i e, s => match asAssign s with
    | some (tg, v, _) => (match asName tg, posN tg, posLC v with
      | some y, some py, some (pos, scope) => decide (N[i]? = some y) && decide (sc.names.lookup y = some .local) && (py.line == pos.line) && !(scope.names.any fun (n, k) => n == y && (k == .local || k == .cell)) && cE U N lm sc e v && (match e with | .lc _ _ _ _ _ _ _ => true | .lcv _ _ _ _ _ _ _ => true | _ => false)
      | _, _, _ => false)
    | none => false
  | .aug i op e, s => match asAug s with | some (tg, o, v) => (match asName tg with | some x => decide (N[i]? = some x) && locB sc x && opB op o && (match op with | .add => true | .sub => true | _ => false) && cE U N lm sc e v | none => false) | none => false
  | .ife c a b, s => match asIfS s with | some (x, p, q) => cT U N lm sc c x && cSs lm sc a p && cSs lm sc b q | none => false
  | .whl c b, s => match asWhile s with | some (x, p) => cT U N lm sc c x && cSs lm sc b p | none => false
  | .forr tg ik src b, s => match asFor s with
    | some (tge, iter, p) => (match asIter sc ik tge iter with
      | some xs => cTN N sc (fun _ => true) tg tge && notSet iter && cL U N lm sc src xs && cSs lm sc b p
      | none => false)
    | none => false
  | .forv tg en src b, s => match asFor s with
    | some (tge, iter, p) => (match asIterV sc en tge iter with
      | some x => cTN N sc (fun _ => true) tg tge && notSet iter && cE U N lm sc src x && cSs lm sc b p
      | none => false)
    | none => false
  | .pass, s => isPass s
  | .brk, s => isBrk s
  | .cont, s => isCont s
  | .raise k es, s => match asRaise s with
    | some v => (match asCall v with
      | some (g, x :: xs, [], _) => (match asName g, U.xn k with
        | some nm, some nm' => decide (nm = nm') && glB sc nm && decide ((U.xf k).Nodup) && (x :: xs).all noStar && decide (es.length = (U.xf k).length) && cL U N lm sc es (x :: xs)
        | _, _ => false)
      | _ => false)
    | none => false
  | .bad, _ => true
def cSs (lm : Bool) (sc : Scope) : List S → List Stmt → Bool
  | [], [] => true
  | s :: r, x :: xs => cS lm sc s x && cSs lm sc r xs
  | _, _ => false
end
end
section
variable {U : Wd} {n : Nat} {W : WX} {X : Cx} {F : List Addr}
theorem ps_cong {s : Stmt} {a b : MP.Env → DS → RS} (h : ∀ ρ st, a ρ st = b ρ st) (p : PS X s (TSx U X F W b)) : PS X s (TSx U X F W a) := by
  have z : a = b := funext fun ρ => funext fun st => h ρ st
  rw [z]; exact p
theorem pss_cong {s : List Stmt} {a b : MP.Env → DS → RS} (h : ∀ ρ st, a ρ st = b ρ st) (p : PSs X s (TSx U X F W b)) : PSs X s (TSx U X F W a) := by
  have z : a = b := funext fun ρ => funext fun st => h ρ st
  rw [z]; exact p
theorem isPass_eq {s : Stmt} (h : isPass s = true) : PS X s (TSx U X F W fun ρ st => .nx ρ st) := by
  unfold isPass at h
  split at h
  · exact w_pass
  · exact w_doc
  · cases h
theorem isBrk_eq {s : Stmt} (h : isBrk s = true) : PS X s (TSx U X F W fun ρ st => .brk ρ st) := by
  unfold isBrk at h
  split at h
  · exact w_brk
  · cases h
theorem isCont_eq {s : Stmt} (h : isCont s = true) : PS X s (TSx U X F W fun ρ st => .cont ρ st) := by
  unfold isCont at h
  split at h
  · exact w_cont
  · cases h
theorem for_eq {C : Nat → List D → DS → R D} {tg : TN} {ik : IK} {src : List E} {b : List S} {ρ : MP.Env} {st : DS} :
    exec C (.forr tg ik src b) ρ st = ((evalL C src ρ st).bind fun xs st1 => R.of (itD ik st1 xs) st1).to ρ fun items st1 => forL (fun x ρ' st' => match tnD tg x ρ' with | some ρ2 => execs C b ρ2 st' | none => .bad) items ρ st1 := by
  rw [exec]
  cases evalL C src ρ st with
  | ok xs st1 =>
    simp only [R.bind, R.to]
    cases itD ik st1 xs with
    | none => rfl
    | some items => rfl
  | exc a b c => rfl
  | bad => rfl
theorem forv_eq {C : Nat → List D → DS → R D} {tg : TN} {en : Bool} {src : E} {b : List S} {ρ : MP.Env} {st : DS} :
    exec C (.forv tg en src b) ρ st = ((eval C src ρ st).bind fun x st1 => seqG en x st1).to ρ fun x0 st1 => forV (fun x ρ' st' => match tnD tg x ρ' with | some ρ2 => execs C b ρ2 st' | none => .bad) en x0 fuel 0 ρ st1 := by
  rw [exec]
  cases eval C src ρ st with
  | ok x st1 =>
    simp only [R.bind, R.to]
    unfold seqG
    cases e : srcD en st1 x with
    | none => rw [fuel_s]; simp only [forV, wkD, e]
    | some items => rfl
  | exc a b c => rfl
  | bad => rfl
theorem sS_slc {lm : Bool} (c : SCtx U n W X lm) {i : Nat} {m : Bool} {elt : E} {tg : TN} {ik : IK} {src ifs : List E} {own : List Nat} {s : Stmt} (h : cS U.toSg X.N lm X.env.scope (.slc i (.lc m elt tg ik src ifs own)) s = true) : PS X s (TSx U X F W (exec (callN U.Pg n) (.slc i (.lc m elt tg ik src ifs own)))) := by
  simp only [cS] at h
  split at h
  · rename_i tge v p hs
    obtain rfl := asAssign_eq hs
    split at h
    · rename_i y py pos scope h1 h2 h3
      obtain ⟨p', rfl⟩ := asName_eq h1
      cases h2
      cases v <;> first | (cases h3; done) | skip
      cases h3
      simp only [Bool.and_eq_true, decide_eq_true_eq, Bool.not_eq_true', Bool.and_true] at h
      obtain ⟨⟨⟨⟨a1, a2⟩, a3⟩, a4⟩, a5⟩ := h
      simp only [cE] at a5
      split at a5
      · rename_i pelt gs scope2 hx
        cases hx
        split at a5
        · rename_i tge iter pifs hg
          obtain rfl := asGen_eq hg
          split at a5
          · rename_i xs hi
            simp only [Bool.and_eq_true] at a5
            obtain ⟨⟨⟨⟨⟨⟨h1, h2⟩, h3⟩, h4⟩, h5⟩, h6⟩, h7⟩ := a5
            have hr : PA X xs (TLx U X F W (evalL (callN U.Pg n) src)) := sL src F c.c c.hl xs (asIter_star hi) h5
            refine ps_cong (fun ρ st => by rw [exec]; rw [lc_eq]) (w_slc c a1 a2 a3 a4 h1 h2 h3 h4 (k_iter c.c hi (cL_len h5) hr (sE1 src F c.c c.hl xs h5)) (fun Y s H C cl fp hY => by subst hY; exact sI ifs (lm := false) c.c.inBlk (fun z => nomatch z) pifs h7) fun Y s H C cl fp hY => ?_)
            subst hY
            exact pe_any fun F' => sE elt F' (X := X.blk s H _ (compEnvC _ cl C X.env) fp) (lm := false) c.c.inBlk (fun z => nomatch z) _ h6
          · cases a5
        · cases a5
      · cases a5
    · cases h
  · cases h
theorem sS_slv {lm : Bool} (c : SCtx U n W X lm) {i : Nat} {m : Bool} {elt : E} {tg : TN} {en : Bool} {src : E} {ifs : List E} {own : List Nat} {s : Stmt} (h : cS U.toSg X.N lm X.env.scope (.slc i (.lcv m elt tg en src ifs own)) s = true) : PS X s (TSx U X F W (exec (callN U.Pg n) (.slc i (.lcv m elt tg en src ifs own)))) := by
  simp only [cS] at h
  split at h
  · rename_i tge v p hs
    obtain rfl := asAssign_eq hs
    split at h
    · rename_i y py pos scope h1 h2 h3
      obtain ⟨p', rfl⟩ := asName_eq h1
      cases h2
      cases v <;> first | (cases h3; done) | skip
      cases h3
      simp only [Bool.and_eq_true, decide_eq_true_eq, Bool.not_eq_true', Bool.and_true] at h
      obtain ⟨⟨⟨⟨a1, a2⟩, a3⟩, a4⟩, a5⟩ := h
      simp only [cE] at a5
      split at a5
      · rename_i pelt gs scope2 hx
        cases hx
        split at a5
        · rename_i tge iter pifs hg
          obtain rfl := asGen_eq hg
          split at a5
          · rename_i x hi
            simp only [Bool.and_eq_true] at a5
            obtain ⟨⟨⟨⟨⟨⟨h1, h2⟩, h3⟩, h4⟩, h5⟩, h6⟩, h7⟩ := a5
            refine ps_cong (fun ρ st => by rw [exec]; rw [lcv_eq]) (w_slv c a1 a2 a3 a4 h1 h2 h3 h4 (k_iterV c.c hi (sE src F c.c c.hl x h5)) (fun Y s H C cl fp hY => by subst hY; exact sI ifs (lm := false) c.c.inBlk (fun z => nomatch z) pifs h7) fun Y s H C cl fp hY => ?_)
            subst hY
            exact pe_any fun F' => sE elt F' (X := X.blk s H _ (compEnvC _ cl C X.env) fp) (lm := false) c.c.inBlk (fun z => nomatch z) _ h6
          · cases a5
        · cases a5
      · cases a5
    · cases h
  · cases h
theorem sS_par {lm : Bool} (c : SCtx U n W X lm) {is : List Nat} {es : List E} {s : Stmt} (h : cS U.toSg X.N lm X.env.scope (.par is es) s = true) : PS X s (TSx U X F W (exec (callN U.Pg n) (.par is es))) := by
  simp only [cS] at h
  split at h
  · rename_i tge v p hs
    obtain rfl := asAssign_eq hs
    split at h
    · rename_i ts vs h1 h2
      obtain ⟨k, p', rfl⟩ := asTup_eq h1
      obtain ⟨k2, p2, rfl⟩ := asTup_eq h2
      simp only [Bool.and_eq_true] at h
      obtain ⟨⟨h3, h4⟩, h5⟩ := h
      have hr : PA X vs (TLx U X F W (evalL (callN U.Pg n) es)) := sL es F c.c c.hl vs h4 h5
      unfold cPar at h3
      split at h3
      · rename_i i j x px y py
        simp only [Bool.and_eq_true, decide_eq_true_eq] at h3
        obtain ⟨⟨⟨⟨⟨⟨a1, a2⟩, a3⟩, a4⟩, a5⟩, a6⟩, a7⟩ := h3
        have hv : vs.length = 2 := by
          have z := a7
          unfold isSwp at z
          simp only [Bool.and_eq_true] at z
          simpa using z.1.1.1.1.2
        obtain ⟨a, b, rfl⟩ : ∃ a b, vs = [a, b] := match vs, hv with | [a, b], _ => ⟨a, b, rfl⟩
        exact ps_cong (fun ρ st => by rw [exec]) (w_par2 c a1 a2 a3 a4 a5 a7 a6 hr)
      · rename_i i j l x px y py z pz
        simp only [Bool.and_eq_true, decide_eq_true_eq] at h3
        obtain ⟨⟨⟨⟨⟨⟨⟨⟨⟨⟨a1, a2⟩, a3⟩, a4⟩, a5⟩, a6⟩, a7⟩, a8⟩, a9⟩, a10⟩, a11⟩ := h3
        have hv : vs.length = 3 := by
          have z := a11
          unfold isSwp at z
          simp only [Bool.and_eq_true] at z
          simpa using z.1.1.1.1.2
        obtain ⟨a, b, e, rfl⟩ : ∃ a b e, vs = [a, b, e] := match vs, hv with | [a, b, e], _ => ⟨a, b, e, rfl⟩
        exact ps_cong (fun ρ st => by rw [exec]) (w_par3 c a1 a2 a3 a4 a5 a6 a7 a8 a9 a11 a10 hr)
      · cases h3
    · cases h
  · cases h
mutual
theorem sS {lm : Bool} (c : SCtx U n W X lm) : ∀ (e : S) (s : Stmt), cS U.toSg X.N lm X.env.scope e s = true → PS X s (TSx U X F W (exec (callN U.Pg n) e))
  | .expr e, s, h => by
    simp only [cS] at h
    split at h
    · rename_i v hs
      obtain ⟨p, rfl⟩ := asExprS_eq hs
      simp only [Bool.and_eq_true] at h
      exact ps_cong (fun ρ st => by rw [exec]) (w_expr h.1 (sE e F c.c c.hl v h.2))
    · cases h
  | .ret e, s, h => by
    simp only [cS] at h
    split at h
    · rename_i v hs
      obtain ⟨p, rfl⟩ := asRet_eq hs
      exact ps_cong (fun ρ st => by rw [exec]) (w_ret (sE e F c.c c.hl v h))
    · cases h
  | .retN, s, h => by
    simp only [cS] at h
    split at h
    · rename_i hs
      obtain ⟨p, rfl⟩ := asRet_eq hs
      exact ps_cong (fun ρ st => by rw [exec]) w_retN
    · cases h
  | .asg t e, s, h => by
    simp only [cS] at h
    split at h
    · rename_i tg v p hs
      obtain rfl := asAssign_eq hs
      simp only [Bool.and_eq_true] at h
      obtain ⟨⟨⟨⟨h1, h2⟩, h3⟩, h4⟩, h5⟩ := h
      exact ps_cong (fun ρ st => by rw [exec]) (w_asg c h1 h2 h3 h4 (sE e F c.c c.hl v h5))
    · cases h
  | .par is es, s, h => sS_par c h
  | .slc i e, s, h => by
    cases e with
    | lc m elt tg ik src ifs own => exact sS_slc c h
    | lcv m elt tg en src ifs own => exact sS_slv c h
    | _ =>
      simp only [cS] at h
      split at h
      · split at h
        · simp at h
        · cases h
      · cases h
  | .aug i op e, s, h => by
    simp only [cS] at h
    split at h
    · rename_i tg o v hs
      obtain ⟨p, rfl⟩ := asAug_eq hs
      split at h
      · rename_i x hx
        obtain ⟨p', rfl⟩ := asName_eq hx
        simp only [Bool.and_eq_true, decide_eq_true_eq] at h
        obtain ⟨⟨⟨⟨h1, h2⟩, h3⟩, h4⟩, h5⟩ := h
        obtain rfl := opB_eq h3
        have hop : op = .add ∨ op = .sub := by
          cases op <;> first | exact .inl rfl | exact .inr rfl | cases h4
        exact ps_cong (fun ρ st => by rw [exec] <;> rfl) (w_aug hop c.c.nd h1 (locB_eq h2) (c.hfn x) (sE e F c.c c.hl v h5))
      · cases h
    · cases h
  | .ife e a b, s, h => by
    simp only [cS] at h
    split at h
    · rename_i x p q hs
      obtain ⟨pos, rfl⟩ := asIfS_eq hs
      simp only [Bool.and_eq_true] at h
      exact ps_cong (fun ρ st => by rw [exec]) (w_ife (sT e F c.c c.hl x h.1.1) (sSs c a p h.1.2) (sSs c b q h.2))
    · cases h
  | .whl e b, s, h => by
    simp only [cS] at h
    split at h
    · rename_i x p hs
      obtain ⟨pos, rfl⟩ := asWhile_eq hs
      simp only [Bool.and_eq_true] at h
      exact ps_cong (fun ρ st => by rw [exec]) (w_while (m := fuel) c.ps (sT e F c.c c.hl x h.1) (sSs c b p h.2))
    · cases h
  | .forr tg ik src b, s, h => by
    simp only [cS] at h
    split at h
    · rename_i tge iter p hs
      obtain ⟨pos, rfl⟩ := asFor_eq hs
      split at h
      · rename_i xs hi
        simp only [Bool.and_eq_true] at h
        obtain ⟨⟨⟨h1, h2⟩, h3⟩, h4⟩ := h
        have hr : PA X xs (TLx U X F W (evalL (callN U.Pg n) src)) := sL src F c.c c.hl xs (asIter_star hi) h3
        have hfn : X.fn = fun _ => true := funext c.hfn
        exact ps_cong (fun ρ st => for_eq) (w_for c.ps c.c.calm h2 (k_iter c.c hi (cL_len h3) hr (sE1 src F c.c c.hl xs h3)) (pgTN c.c.calm c.c.nd tg tge (by rw [hfn]; exact h1)) (sSs c b p h4))
      · cases h
    · cases h
  | .forv tg en src b, s, h => by
    simp only [cS] at h
    split at h
    · rename_i tge iter p hs
      obtain ⟨pos, rfl⟩ := asFor_eq hs
      split at h
      · rename_i x hi
        simp only [Bool.and_eq_true] at h
        obtain ⟨⟨⟨h1, h2⟩, h3⟩, h4⟩ := h
        have hfn : X.fn = fun _ => true := funext c.hfn
        exact ps_cong (fun ρ st => forv_eq) (w_forv c.ps c.c.calm h2 (k_iterV c.c hi (sE src F c.c c.hl x h3)) (pgTN c.c.calm c.c.nd tg tge (by rw [hfn]; exact h1)) (sSs c b p h4))
      · cases h
    · cases h
  | .pass, s, h => by
    simp only [cS] at h
    exact ps_cong (fun ρ st => by rw [exec]) (isPass_eq h)
  | .brk, s, h => by
    simp only [cS] at h
    exact ps_cong (fun ρ st => by rw [exec]) (isBrk_eq h)
  | .cont, s, h => by
    simp only [cS] at h
    exact ps_cong (fun ρ st => by rw [exec]) (isCont_eq h)
  | .raise k es, s, h => by
    simp only [cS] at h
    split at h
    · rename_i v hs
      obtain ⟨pos, rfl⟩ := asRaise_eq hs
      split at h
      · rename_i g x xs p hx
        obtain rfl := asCall_eq hx
        split at h
        · rename_i nm nm' hnm hk
          obtain ⟨p2, rfl⟩ := asName_eq hnm
          simp only [Bool.and_eq_true, decide_eq_true_eq] at h
          obtain ⟨⟨⟨⟨⟨h1, h2⟩, h3⟩, h4⟩, h5⟩, h6⟩ := h
          subst h1
          exact ps_cong (fun ρ st => by rw [exec]) (w_raise c hk (glB_eq h2) h3 (by simpa using h4) (sL es F c.c c.hl _ (by simpa using h4) h6) fun ρ st ds st1 e => by rw [evalL_len _ es ρ st ds st1 e, h5])
        · cases h
      · cases h
    · cases h
  | .bad, s, h => ps_cong (fun ρ st => by rw [exec]) w_bad
theorem sSs {lm : Bool} (c : SCtx U n W X lm) : ∀ (e : List S) (s : List Stmt), cSs U.toSg X.N lm X.env.scope e s = true → PSs X s (TSx U X F W (execs (callN U.Pg n) e))
  | [], [], h => pss_cong (fun ρ st => by rw [execs]) w_nil
  | e :: r, x :: xs, h => by
    simp only [cSs, Bool.and_eq_true] at h
    exact pss_cong (fun ρ st => by rw [execs] <;> rfl) (w_cons (sS c e x h.1) (sSs c r xs h.2))
  | [], _ :: _, h => by simp [cSs] at h
  | _ :: _, [], h => by simp [cSs] at h
end
end
end MP

set_option Elab.async false
set_option linter.all false
set_option maxRecDepth 100000
set_option maxHeartbeats 4000000
namespace MP
open PySem L2 PyProof.Rows
/-! ### a def that is given no objects -/
section
variable {K : PySem.W.Frag} {F μ μ1 : List Addr} {H H1 : Hp}
mutual
theorem Rel.isoIn : ∀ (d : D) (v : V), noRef d = true → Rel K F μ H d v → Rel K (F ++ μ) [] H d v
  | .non, _, _, h => by cases h; exact .non
  | .bl _, _, _, h => by cases h; exact .bl _
  | .int _, _, _, h => by cases h; exact .int _
  | .str _, _, _, h => by cases h; exact .str _
  | .tup ds, _, n, h => by
    cases h with
    | tup h1 h2 h3 => exact .tup h1 (by simp) (RelL.isoIn ds _ (by simpa only [noRef] using n) h3)
    | tupK h1 h3 => exact .tupK h1 (RelL.isoIn ds _ (by simpa only [noRef] using n) h3)
  | .lst ds, _, n, h => by
    cases h with
    | lst h1 h2 h4 h3 => exact .lst h1 (by simp) (fun z => (List.mem_append.mp z).elim h4 h2) (RelL.isoIn ds _ (by simpa only [noRef] using n) h3)
  | .scr ds, _, n, h => by
    cases h with
    | scr h1 h2 h3 => exact .scr h1 (by simp) (RelL.isoIn ds _ (by simpa only [noRef] using n) h3)
    | scrK h1 h3 => exact .scrK h1 (RelL.isoIn ds _ (by simpa only [noRef] using n) h3)
  | .dic kvs, _, n, h => by
    cases h with
    | dic h1 h2 h4 h3 => exact .dic h1 (by simp) (fun z => (List.mem_append.mp z).elim h4 h2) (RelP.isoIn kvs _ (by simpa only [noRef] using n) h3)
  | .ref _, _, n, h => by simp [noRef] at n
theorem RelL.isoIn : ∀ (ds : List D) (vs : List V), noRefL ds = true → RelL K F μ H ds vs → RelL K (F ++ μ) [] H ds vs
  | [], _, _, h => by cases h; exact .nil
  | d :: ds, _, n, h => by
    simp only [noRefL, Bool.and_eq_true] at n
    cases h with
    | cons h1 h2 => exact .cons (Rel.isoIn d _ n.1 h1) (RelL.isoIn ds _ n.2 h2)
theorem RelP.isoIn : ∀ (ds : List (D × D)) (vs : List (Key × V)), noRefP ds = true → RelP K F μ H ds vs → RelP K (F ++ μ) [] H ds vs
  | [], _, _, h => by cases h; exact .nil
  | (k, d) :: ds, _, n, h => by
    simp only [noRefP, Bool.and_eq_true] at n
    cases h with
    | cons h0 h1 h2 => exact .cons h0 (Rel.isoIn d _ n.1.2 h1) (RelP.isoIn ds _ n.2 h2)
end
/-- what is in μ is a list, a dict, an instance -/
def MuOk (μ : List Addr) (H : Hp) : Prop := ∀ a ∈ μ, (∃ l, H a = some (.lst l)) ∨ (∃ l, H a = some (.dK l)) ∨ ∃ C d l, H a = some (.ins C d l)
mutual
theorem Rel.isoOut (m : MuOk μ H1) : ∀ (d : D) (v : V), noRef d = true → Rel K (F ++ μ) μ1 H1 d v → Rel K F μ H1 d v
  | .non, _, _, h => by cases h; exact .non
  | .bl _, _, _, h => by cases h; exact .bl _
  | .int _, _, _, h => by cases h; exact .int _
  | .str _, _, _, h => by cases h; exact .str _
  | .tup ds, _, n, h => by
    cases h with
    | tup h1 h2 h3 =>
      refine .tup h1 (fun z => ?_) (RelL.isoOut m ds _ (by simpa only [noRef] using n) h3)
      rcases m _ z with ⟨l, e⟩ | ⟨l, e⟩ | ⟨C, d, l, e⟩ <;> (rw [h1] at e; cases e)
    | tupK h1 h3 => exact .tupK h1 (RelL.isoOut m ds _ (by simpa only [noRef] using n) h3)
  | .lst ds, _, n, h => by
    cases h with
    | lst h1 h2 h4 h3 => exact .lst h1 (fun z => h4 (List.mem_append_right _ z)) (fun z => h4 (List.mem_append_left _ z)) (RelL.isoOut m ds _ (by simpa only [noRef] using n) h3)
  | .scr ds, _, n, h => by
    cases h with
    | scr h1 h2 h3 =>
      refine .scr h1 (fun z => ?_) (RelL.isoOut m ds _ (by simpa only [noRef] using n) h3)
      rcases m _ z with ⟨l, e⟩ | ⟨l, e⟩ | ⟨C, d, l, e⟩ <;> (rw [h1] at e; cases e)
    | scrK h1 h3 => exact .scrK h1 (RelL.isoOut m ds _ (by simpa only [noRef] using n) h3)
  | .dic kvs, _, n, h => by
    cases h with
    | dic h1 h2 h4 h3 => exact .dic h1 (fun z => h4 (List.mem_append_right _ z)) (fun z => h4 (List.mem_append_left _ z)) (RelP.isoOut m kvs _ (by simpa only [noRef] using n) h3)
  | .ref _, _, n, h => by simp [noRef] at n
theorem RelL.isoOut (m : MuOk μ H1) : ∀ (ds : List D) (vs : List V), noRefL ds = true → RelL K (F ++ μ) μ1 H1 ds vs → RelL K F μ H1 ds vs
  | [], _, _, h => by cases h; exact .nil
  | d :: ds, _, n, h => by
    simp only [noRefL, Bool.and_eq_true] at n
    cases h with
    | cons h1 h2 => exact .cons (Rel.isoOut m d _ n.1 h1) (RelL.isoOut m ds _ n.2 h2)
theorem RelP.isoOut (m : MuOk μ H1) : ∀ (ds : List (D × D)) (vs : List (Key × V)), noRefP ds = true → RelP K (F ++ μ) μ1 H1 ds vs → RelP K F μ H1 ds vs
  | [], _, _, h => by cases h; exact .nil
  | (k, d) :: ds, _, n, h => by
    simp only [noRefP, Bool.and_eq_true] at n
    cases h with
    | cons h0 h1 h2 => exact .cons h0 (Rel.isoOut m d _ n.1.2 h1) (RelP.isoOut m ds _ n.2 h2)
end
end
theorem noRefL_get : ∀ {ds : List D} {i : Nat} {d : D}, noRefL ds = true → ds[i]? = some d → noRef d = true
  | [], _, _, _, h => by simp at h
  | a :: ds, 0, d, n, h => by
    simp only [noRefL, Bool.and_eq_true] at n
    simp at h; subst h; exact n.1
  | a :: ds, i + 1, d, n, h => by
    simp only [noRefL, Bool.and_eq_true] at n
    exact noRefL_get (i := i) n.2 (by simpa using h)
section
variable {K : PySem.W.Frag} {cls : Cl} {xf : Nat → List Str} {F μ : List Addr} {H : Hp} {st : DS}
theorem StRel.muOk (S : StRel K cls F μ H st) : MuOk μ H := fun a ha => by
  obtain ⟨n, hn, e⟩ := List.getElem_of_mem ha
  obtain ⟨ob, _, r⟩ := S.obj n a (by rw [List.getElem?_eq_getElem hn, e])
  cases ob with
  | lst ds => obtain ⟨vs, p, q⟩ := r; exact .inl ⟨vs, p⟩
  | dic ds => obtain ⟨vs, p, q⟩ := r; exact .inr (.inl ⟨vs, p⟩)
  | ins c fs => obtain ⟨dx, vs, p, q⟩ := r; exact .inr (.inr ⟨_, dx, vs, p⟩)
theorem StRel.iso (S : StRel K cls F μ H st) : StRel K cls (F ++ μ) [] H [] :=
  ⟨rfl, List.nodup_nil, fun n a h => by simp at h, fun a h => by simp at h, fun a h => (List.mem_append.mp h).elim (S.fl a) S.ne, S.tb⟩
/-- back from a def that was given no objects -/
theorem iso_back (S : StRel K cls F μ H st) {μ1 : List Addr} {H1 : Hp} {st1 : DS} (e : Ext [] μ1 H H1) (S1 : StRel K cls (F ++ μ) μ1 H1 st1) : Ext μ μ H H1 ∧ StRel K cls F μ H1 st ∧ MuOk μ H1 := by
  have eq : ∀ a ∈ μ, H1 a = H a := fun a ha => by
    cases q : H a with
    | none => exact absurd q (S.ne ha)
    | some o => exact e.keep a o q (by simp) fun ps z => S.notTab ha o q (.inl ⟨ps, z⟩)
  have x : Ext μ μ H H1 := ⟨⟨[], by simp, fun _ z => nomatch z⟩, fun p o h hn nt => e.keep p o h (by simp) nt, e.live⟩
  refine ⟨x, S.keep x eq S1.tb, fun a ha => ?_⟩
  rw [eq a ha]
  exact S.muOk a ha
theorem isoF_ok {W : WX} {σ : L2.St} {Q : VK} {f : FDef} {g : List D → DS → R D} {ds : List D} {vs : List V} (S : StRel K cls F μ H st) (r : RelL K F μ H ds vs) (h : Post K cls xf F (rlD K F) W σ μ H (isoF f g ds st) Q) :
    ∃ F' μ' st', StRel K cls F' μ' H st' ∧ RelL K F' μ' H ds vs ∧ Post K cls xf F' (rlD K F') W σ μ' H (g ds st') Q := by
  unfold isoF at h
  split at h
  · split at h
    · rename_i hn
      refine ⟨F ++ μ, [], [], S.iso, RelL.isoIn ds vs hn r, ?_⟩
      cases e : g ds [] with
      | ok d st1 =>
        rw [e] at h
        dsimp only at h
        split at h
        · rename_i hd
          intro μ1 H1 v x1 S1 r1
          obtain ⟨x, S2, m⟩ := iso_back S x1 S1
          exact h μ H1 v x S2 (Rel.isoOut m d v hd r1)
        · exact h.elim
      | exc c fs st1 =>
        rw [e] at h
        dsimp only at h
        split at h
        · rename_i hd
          intro μ1 H1 dd l x1 S1 hx hr
          obtain ⟨x, S2, m⟩ := iso_back S x1 S1
          refine h μ H1 dd l x S2 hx fun i f d h1 h2 => ?_
          obtain ⟨v, h3, h4⟩ := hr i f d h1 h2
          exact ⟨v, h3, Rel.isoOut m d v (noRefL_get hd h2) h4⟩
        · exact h.elim
      | bad => rw [e] at h; exact h.elim
    · exact h.elim
  · exact ⟨F, μ, st, S, r, h⟩
end
/-! ### a def's body -/
section
variable {U : Wd} {n : Nat} {X : Cx} {F : List Addr}
theorem getV_map : ∀ {ds : List D} {k : Nat} {i : Nat} {d : D}, getV (ds.map some ++ List.replicate k none) i = some d → ds[i]? = some d
  | [], 0, i, d, h => by simp [getV] at h
  | [], k + 1, 0, d, h => by simp [getV, List.replicate] at h
  | [], k + 1, i + 1, d, h => by
    have h' : getV (([] : List D).map some ++ List.replicate k none) i = some d := by simpa [getV, List.replicate] using h
    have := getV_map h'
    simpa using this
  | a :: ds, k, 0, d, h => by
    have h' : (some a : Option D) = some d := h
    simpa using h'
  | a :: ds, k, i + 1, d, h => by
    have h' : getV (ds.map some ++ List.replicate k none) i = some d := h
    simpa using getV_map h'
theorem env_start {K : PySem.W.Frag} {F μ : List Addr} {H : Hp} {N : List Str} {ds : List D} {vs : List V} (r : RelL K F μ H ds vs) : EnvRel K F μ H (ds.map some ++ List.replicate (N.length - ds.length) none) (L2.start N vs) := by
  refine ⟨?_, fun i d h => ?_⟩
  · unfold L2.start
    simp [r.length]
  · have h1 := getV_map h
    obtain ⟨v, h2, h3⟩ := r.get h1
    refine ⟨v, ?_, h3⟩
    unfold L2.start
    have hl : i < vs.length := (List.getElem?_eq_some_iff.mp h2).1
    rw [List.getElem?_append_left (by simpa using hl), List.getElem?_map, h2]
    rfl
/-- the end of a body -/
theorem end_ok {K : PySem.W.Frag} {cls : Cl} {xf : Nat → List Str} {E : XK} {μ : List Addr} {H : Hp} {σ : L2.St} {Q : VK} {r : RS} (h : Post K cls xf F (rlD K F) (fun c d _ H' => E c d H') σ μ H r.end Q) : PostS K cls xf F (fun c d _ H' => E c d H') μ H r { nx := fun _ H' => Q .non H', rt := Q } := by
  cases r with
  | nx ρ st => exact fun μ' H' σ' x S e => h μ' H' .non x S .non
  | ret d st => exact h
  | brk ρ st => exact h.elim
  | cont ρ st => exact h.elim
  | exc c fs ρ st => exact fun μ' H' σ' dd l x S e => h μ' H' dd l x S
  | bad => exact h.elim
end
/-- what the classes of errors must have, at every place -/
def MkX (U : Wd) (n : Nat) (P : Program) (w : World) (K : PySem.W.Frag) (mg : Str → Option Value) (base : Heap) : Prop := ∀ (W : WX) (X : Cx), X.K = K → X.mg = mg → X.prog = P → X.w = w → X.base = base → Ctx U n W X → ∀ (c : Nat) (nm : Str), U.xn c = some nm → Gl X nm → ∀ (F : List Addr) (x : Expr) (xs : List Expr) (p pos : Pos) (sr : MP.Env → DS → R (List D)), (x :: xs).all noStar = true → PA X (x :: xs) (TLx U X F W sr) → (∀ ρ st ds st1, sr ρ st = .ok ds st1 → ds.length = (U.xf c).length) →
    PMk X (.Call (.Name nm p) (x :: xs) [] pos) (fun σ H Q => TLx U X F W sr σ H fun vs H1 => ∀ dd, H1 dd = none → Q (.ref (U.cls c)) (some dd) (upd H1 dd (.xd ((U.xf c).zip vs))))
/-- a def as the program has it -/
structure DefOk (U : Wd) (K : PySem.W.Frag) (f : Nat) (fd : FDef) (x qual : Str) (st : Stmt) : Prop where
  fn : Fun K x qual st (U.fa f) (U.fdat f)
  sc : FnScope fd.N (U.ps f) (defScope st)
  chk : cSs U.toSg fd.N fd.lam (defScope st) fd.body (defBody st) = true
  np : (U.ps f).length = fd.np
  bd : Binds K (U.fdat f) (U.ps f) []
theorem FnG.mono {P : Program} {w : World} {K : PySem.W.Frag} {mg : Str → Option Value} {base : Heap} {j k : Nat} {f : Addr} {fd : FuncData} {ps : List Str} {sp : Sp} (G : FnG P w K mg base j f fd ps sp) (h : j ≤ k) : FnG P w K mg base k f fd ps sp :=
  ⟨G.len, fun A out s H args us vs Q E hr => G.run A out s H args us vs Q E (hr.mono h)⟩
/-- what a def that makes lambdas must have -/
def LamD (U : Wd) (n : Nat) (P : Program) (w : World) (K : PySem.W.Frag) (mg : Str → Option Value) (base : Heap) (f : Nat) (fd : FDef) (qual : Str) (st : Stmt) : Prop :=
  ∀ (cdv : Value) (A : Around) (out : List PySem.Env) (s : Shared) (H : Hp) (E : XK) (X : Cx), X = cxOf (L2.CX P w) P w K mg base fd.N qual (defScope st) (U.fa f) cdv A out s H E → (U.fdat f).code = cdv → Room (3 * n + 5) X.A → fd.lam = true → LamT U n X
theorem def_step {U : Wd} {n : Nat} {P : Program} {w : World} {K : PySem.W.Frag} {mg : Str → Option Value} {base : Heap} (fns : Fns U P w K mg base n) (gls : Gls U K mg) (mk : MkX U n P w K mg base) {f : Nat} {fd : FDef} {x qual : Str} {st : Stmt}
    (lam : LamD U n P w K mg base f fd qual st) (hf : U.Pg f = some fd) (D : DefOk U K f fd x qual st) : FnG P w K mg base (3 * (n + 1) + 3) (U.fa f) (U.fdat f) (U.ps f) (prom K U (callN U.Pg (n + 1)) f) := by
  refine FnG.of (k := 3 * n + 5) D.fn D.sc (fun vs H Q E ⟨F, μ, st, ds, S, r, hl, h⟩ => by rw [← r.length, hl]) fun cdv A out s H vs Q E hr hg hcd ⟨F, μ, st', ds, S, r, hl, h⟩ => ?_
  have h : Post K U.cls U.xf F (rlD K F) (fun c d _ H' => E c d H') [] μ H (match U.Pg f with | some fd => isoF fd (runF (callN U.Pg n) fd) ds st' | none => .bad) Q := h
  rw [hf] at h
  dsimp only at h
  obtain ⟨F, μ, st', S, r, h⟩ := isoF_ok S r h
  unfold runF at h
  split at h
  · generalize hX : cxOf (L2.CX P w) P w K mg base fd.N qual (defScope st) (U.fa f) cdv A out s H E = X
    have tk : Takes X (fun c d _ H' => E c d H') := by
      subst hX
      exact takes_of rfl rfl rfl (E₁ := fun e' s'' => L2.CX P w out H s E e' s'') rfl
    have ps : PassesOwn (model X.prog X.w) X.A X.env X.xe := by
      subst hX
      exact passes_of (K := fun e s'' => L2.CX P w out H s E e s'') (E₁ := fun e' s'' => L2.CX P w out H s E e' s'') rfl
    have c : Ctx U n (fun c d _ H' => E c d H') X := by
      subst hX
      exact ⟨⟨hg, by have := hr.un; show (A.deeper _).units + 70 < cLine; omega⟩, rfl, D.sc.nd, tk, hr.mono (by omega), fns, gls⟩
    have sc : SCtx U n (fun c d _ H' => E c d H') X fd.lam := by
      refine ⟨c, ?_, ?_, ?_, ps, ?_⟩
      · subst hX
        exact fun e => lam cdv A out s H E _ rfl hcd hr e
      · subst hX; exact D.sc.kind
      · subst hX; exact fun _ => rfl
      · subst hX; exact mk _ _ rfl rfl rfl rfl rfl c
    refine ⟨TSx U X F (fun c d _ H' => E c d H') (execs (callN U.Pg n) fd.body), ?_, ?_⟩
    · exact sSs sc fd.body (defBody st) (by subst hX; exact D.chk)
    · subst hX
      exact ⟨_, st', μ, env_start r, S, end_ok h⟩
  · exact h.elim
/-- all defs, as deep as one likes -/
theorem defs_all {U : Wd} {P : Program} {w : World} {K : PySem.W.Frag} {mg : Str → Option Value} {base : Heap} (gls : Gls U K mg) (mk : ∀ n, MkX U n P w K mg base) (D : ∀ f fd, U.Pg f = some fd → ∃ x qual st, DefOk U K f fd x qual st ∧ ∀ n, LamD U n P w K mg base f fd qual st) : ∀ n, Fns U P w K mg base n
  | 0 => ⟨fun f fd hf => by
    obtain ⟨x, qual, st, d, ld⟩ := D f fd hf
    refine ⟨d.bd, fun vs H Q E ⟨F, μ, st, ds, S, r, hl, h⟩ => by rw [← r.length, hl], fun A out s H args us vs Q E _ _ _ _ _ ⟨F, μ, st, ds, S, r, hl, h⟩ => h.elim⟩⟩
  | n + 1 => ⟨fun f fd hf => by
    obtain ⟨x, qual, st, d, ld⟩ := D f fd hf
    exact ⟨d.bd, def_step (defs_all gls mk D n) gls (mk n) (ld n) hf d⟩⟩
end MP

set_option Elab.async false
set_option linter.all false
set_option maxRecDepth 100000
set_option maxHeartbeats 4000000
namespace MP
open PySem PySem.Spec PyProof.Rows L2 LamX
/-- the script, as the law gets it -/
def ScrIn (K : PySem.W.Frag) (H : Hp) (a : Addr) (ns : List Int) : Prop := (∃ o, H a = some (.frz o (.lst (ns.map V.int)))) ∨ ∀ H', SqL K H' a (ns.map V.int)
theorem noX {P : Program} {w : World} {H : Hp} {s : Shared} {e : Value} {s' : Shared} (h : L2.CX P w [] H s (fun _ _ _ => False) e s') : False := by
  obtain ⟨_, _, _, _, _, _, _, _, _, _, _, _, z⟩ := h
  exact z
theorem calling {P : Program} {w : World} {H : Hp} {s : Shared} {e : Value} {s' : Shared} {Q : VK} (h : CR (L2.CX P w) [] P w H s Q (fun _ _ _ => False) (.error e) s') : False := noX h
theorem law_callG {P : Program} {w : World} {K : PySem.W.Frag} {mg mb : Str → Option Value} {k : Nat} {fa a : Addr} {cs : List (Addr × Addr)} {fd : FuncData} {x : Str} {sp : Sp} {s₁ : Shared} {vs : List Value} {ns : List Int}
    (kin0 : K.In s₁.heap) (nsG : s₁.heap.Ns mainGlobals mg) (hb : s₁.heap.Ns builtinsNs mb) (bsB : ∀ x : Str, x ≠ "__name__" → mb x = bootBuiltins x) (limN : s₁.heap.NoLimit) (hg : s₁.gens = #[])
    (tabs : ∀ p ∈ cs, s₁.heap.get? p.2 = some { cls := .none, data := .fields #[] }) (tabsK : ∀ p ∈ cs, K.lookup p.2 = none) (C : ∀ p ∈ cs, PySem.W.CodeHd s₁.heap p.1 p.2)
    (bmod : ∃ (bm : Addr) (ob : Obj), mg "__builtins__" = some (.ref bm) ∧ bm ≠ builtinsNs ∧ s₁.heap.get? bm = some ob ∧ ob.cls = .type "module" ∧ ob.dict = some builtinsNs ∧ ob.data = .plain)
    (ha : s₁.heap.get? a = some { cls := .type "list", data := .seq vs.toArray }) (whl : IntsAre vs ns) (hl : ns.length ≤ sizeLine) (room : Room k callerA)
    (F : ∀ base : Heap, K.In base → base.Ns mainGlobals mg → (∀ p ∈ cs, TabB base mg p.1 p.2) → FnG P w K mg base k fa fd [x] sp) (bnd : ∀ (s : Shared) (u : Value), BindsTo s fd ⟨[u], []⟩ [(x, u)])
    (prm : ∀ H : Hp, (∀ p ∈ cs, H p.2 = some (.tbl #[])) → ScrIn K H a ns → sp [.ref a] H (fun v _ => v = .bl true) fun _ _ _ => False)
    :
    codeAny (model P w) callerA (.call (.ref fa) ⟨[.ref a], []⟩) (fun r s' => r = .ok (.ret (.bool true)) ∧ OldK s₁.heap s'.heap ∧ s'.os = s₁.os ∧ AllBare s'.gens) s₁ := by
  have rv := vals_ints whl
  have lenI := whl.length
  have atT : ∀ b : Addr, b ∈ cs.map (·.2) → s₁.heap.get? b = some { cls := .none, data := .fields #[] } := fun b hb => by
    obtain ⟨p, hp, e⟩ := List.mem_map.mp hb
    rw [← e]
    exact tabs p hp
  have apart : a ∉ cs.map (·.2) := fun z => by
    have q := atT a z
    rw [ha] at q
    have z' : Data.seq vs.toArray _ = Data.fields #[] := congrArg Obj.data (Option.some.inj q)
    cases z'
  have inT : ∀ p ∈ cs, p.2 ∈ cs.map (·.2) := fun p hp => List.mem_map.mpr ⟨p, hp, rfl⟩
  -- from an abstract heap in which nothing but the script and the tables may be tracked
  have main : ∀ H : Hp, (∀ p ∈ cs, H p.2 = some (.tbl #[])) → (∀ b, H b = none ∨ b ∈ cs.map (·.2) ∨ ∃ o xs, H b = some (.frz o (.lst xs))) → ScrIn K H a ns → HOk P w H s₁.heap → (∀ b, H b ≠ none → b = a ∨ b ∈ cs.map (·.2)) → (H a ≠ none → K.lookup a = none) →
      codeAny (model P w) callerA (.call (.ref fa) ⟨[.ref a], []⟩) (fun r s' => r = .ok (.ret (.bool true)) ∧ OldK s₁.heap s'.heap ∧ s'.os = s₁.os ∧ AllBare s'.gens) s₁ := by
    intro H tH oneOf seqA okH onlyA lookA
    have ground : ∀ {b : Addr} {o : Obj}, s₁.heap.get? b = some o → H b = none → (hidT s₁.heap H).get? b = some o := fun e n => hidT_get e n
    have notTr : ∀ {b : Addr} {o : Obj}, s₁.heap.get? b = some o → (∀ vs n, o.data ≠ .seq vs n) → o.data ≠ .fields #[] → H b = none := fun {b o} e h1 h2 => by
      cases q : H b with
      | none => rfl
      | some u =>
        rcases onlyA b (by rw [q]; simp) with e' | e'
        · rw [e', ha] at e
          cases e
          exact (h1 _ _ rfl).elim
        · rw [atT b e'] at e
          cases e
          exact (h2 rfl).elim
    have notDict : ∀ {b : Addr} {o : Obj} {es : Array DictEntry} {ep : Nat}, s₁.heap.get? b = some o → o.data = .dict es ep → H b = none := fun {b o es ep} e d => by
      refine notTr e (fun vs n z => ?_) fun z => ?_
      · rw [d] at z
        cases z
      · rw [d] at z
        cases z
    have nsGr : ∀ {b : Addr} {m : Str → Option Value}, s₁.heap.Ns b m → (hidT s₁.heap H).Ns b m := fun {b m} ⟨o, es, ep, e, d, r⟩ => ⟨o, es, ep, ground e (notDict e d), d, r⟩
    have kinGr : K.In (hidT s₁.heap H) := fun b o e => ground (kin0 b o e) (by
      cases q : H b with
      | none => rfl
      | some u =>
        rcases onlyA b (by rw [q]; simp) with e' | e'
        · rw [e'] at e q
          rw [lookA (by rw [q]; simp)] at e
          cases e
        · obtain ⟨p, hp, ep⟩ := List.mem_map.mp e'
          rw [← ep, tabsK p hp] at e
          cases e)
    have modl : L2.Mod K mg (hidT s₁.heap H) := ⟨kinGr, nsGr nsG, ⟨mb, nsGr hb, bsB⟩, let ⟨mc, h1, h2⟩ := limN; ⟨mc, nsGr h1, h2⟩⟩
    have tabB : ∀ p ∈ cs, TabB (hidT s₁.heap H) mg p.1 p.2 := fun p hp => by
      have tabP := tabs p hp
      refine ⟨?_, ?_, fun z => ?_⟩
      · obtain ⟨o, us, file, tf, flags, tg, inF, text, tt, e1, r1, r2, r3, r4, r5, r6, r7, r8, hne⟩ := C p hp
        refine ⟨o, us, file, tf, flags, tg, inF, text, tt, ground e1 (notTr e1 (fun vs n z => ?_) fun z => ?_), r1, r2, r3, r4, r5, r6, r7, r8, hne⟩
        · rw [r2] at z
          cases z
        · rw [r2] at z
          cases z
          simp at r3
      · obtain ⟨bm, ob, b1, b2, b3, b4, b5, b6⟩ := bmod
        have apG : bm ≠ mainGlobals := fun q => by
          obtain ⟨o, es, ep, e, hd, _⟩ := nsG
          rw [q, e] at b3
          cases b3
          rw [hd] at b6
          cases b6
        have apP : bm ≠ p.2 := fun q => by
          rw [q, tabP] at b3
          cases b3
          cases b6
        refine ⟨bm, ob, b1, b2, apG, apP, ground b3 (notTr b3 (fun vs n z => ?_) fun z => ?_), b4, b5, b6⟩
        · rw [b6] at z
          cases z
        · rw [b6] at z
          cases z
      · obtain ⟨o, es, ep, e, hd, _⟩ := nsG
        rw [z, tabP] at e
        cases e
        cases hd
    have env0 : Env0 P w K mg (hidT s₁.heap H) callerA [] s₁ H := ⟨rfl, modl, fun b o e => of_hidT e, Nat.le_of_eq (hidT_size _ _), trivial, fun b hb => absurd (show b ∈ ([] : List Addr) from hb) (by simp), okH, .of_eq hg⟩
    refine codeAny_mono ((F _ kinGr (nsGr nsG) tabB).run callerA [] s₁ H ⟨[.ref a], []⟩ [.ref a] [.ref a] _ _ room rfl env0 (bnd s₁ (.ref a)) (.cons rfl .nil) (prm H tH seqA)) fun r s' h => ?_
    cases r with
    | error e => exact (noX h).elim
    | ok fl =>
      cases fl with
      | next => exact False.elim h
      | brk => exact False.elim h
      | cont => exact False.elim h
      | ret u =>
        obtain ⟨v, H', os, bare, unt, okH', r', q⟩ := h
        have q' : v = .bl true := q
        subst q'
        obtain rfl : u = Value.bool true := r'
        have stays : ∀ b o, b ∉ cs.map (·.2) → s₁.heap.get? b = some o → s'.heap.get? b = some o := fun b o nb e => by
          cases q : H b with
          | none => exact unt.keep b o e q (by intro z; exact absurd (show b ∈ ([] : List Addr) from z) (by simp)) (by simp)
          | some u =>
            rcases oneOf b with z | z | ⟨ob, xs, z⟩
            · rw [q] at z; cases z
            · exact absurd z nb
            · have z2 := unt.frzs b ob _ z
              obtain ⟨e1, _⟩ := okH b _ z
              obtain ⟨e2, _⟩ := okH' b _ z2
              rw [e] at e1; cases e1
              exact e2
        have more0 : ∀ p ∈ cs, ∃ more : Array Value, s'.heap.get? p.2 = some { cls := .none, data := .fields more } := fun p hp => by
          obtain ⟨more, z⟩ := unt.tbls p.2 #[] (tH p hp)
          exact ⟨_, okH' p.2 _ z⟩
        refine ⟨rfl, ⟨fun b o e => ?_, fun b o e => ?_⟩, os, bare⟩
        · by_cases hb : b ∈ cs.map (·.2)
          · obtain ⟨p, hp, ep⟩ := List.mem_map.mp hb
            obtain ⟨more, hm⟩ := more0 p hp
            rw [← ep] at e ⊢
            rw [tabs p hp] at e
            cases e
            exact .inr (.inl ⟨((C p hp).tab (tabs p hp)).isCodeTable, rfl, #[], more, rfl, by rw [Array.empty_append]; exact hm⟩)
          · exact .inl (stays b o hb e)
        · by_cases hb : b ∈ cs.map (·.2)
          · obtain ⟨p, hp, ep⟩ := List.mem_map.mp hb
            obtain ⟨more, hm⟩ := more0 p hp
            rw [← ep]
            exact ⟨_, hm⟩
          · exact ⟨o, stays b o hb e⟩
  cases lk0 : K.lookup a with
  | some o =>
    have e := kin0 a o lk0
    rw [ha] at e
    cases e
    refine main (fun b => if b ∈ cs.map (·.2) then some (.tbl #[]) else none) (fun p hp => if_pos (inT p hp)) (fun b => ?_) (.inr fun _ => .inr ⟨_, vs.toArray, _, lk0, rfl, rfl, rfl, by rw [List.size_toArray, lenI]; exact hl, by simpa using rv⟩) (fun b u z => ?_) (fun b z => ?_) fun z => absurd (show (if a ∈ cs.map (·.2) then some (HO.tbl #[]) else none) = none from if_neg apart) z
    · by_cases hb : b ∈ cs.map (·.2)
      · exact .inr (.inl hb)
      · exact .inl (if_neg hb)
    · by_cases hb : b ∈ cs.map (·.2)
      · have z' := (if_pos hb).symm.trans z
        cases z'
        exact atT b hb
      · have z' := (if_neg hb).symm.trans z
        cases z'
    · by_cases hb : b ∈ cs.map (·.2)
      · exact .inr hb
      · exact absurd (if_neg hb) z
  | none =>
    refine main (fun b => if b = a then some (.frz { cls := .type "list", data := .seq vs.toArray } (.lst (ns.map V.int))) else if b ∈ cs.map (·.2) then some (.tbl #[]) else none) (fun p hp => (if_neg (show ¬ p.2 = a from fun z => apart (by rw [← z]; exact inT p hp))).trans (if_pos (inT p hp))) (fun b => ?_)
      (.inl ⟨{ cls := .type "list", data := .seq vs.toArray }, if_pos rfl⟩) (fun b u z => ?_) (fun b z => ?_) fun _ => lk0
    · by_cases hb : b = a
      · exact .inr (.inr ⟨_, _, if_pos hb⟩)
      · by_cases hb2 : b ∈ cs.map (·.2)
        · exact .inr (.inl hb2)
        · exact .inl ((if_neg hb).trans (if_neg hb2))
    · by_cases hb : b = a
      · have z' := (if_pos hb).symm.trans z
        cases z'
        rw [hb]
        exact ⟨ha, by rw [List.length_map]; exact hl, vs, _, rv, ha⟩
      · have z1 := (if_neg hb).symm.trans z
        by_cases hb2 : b ∈ cs.map (·.2)
        · have z' := (if_pos hb2).symm.trans z1
          cases z'
          exact atT b hb2
        · have z' := (if_neg hb2).symm.trans z1
          cases z'
    · by_cases hb : b = a
      · exact .inl hb
      · by_cases hb2 : b ∈ cs.map (·.2)
        · exact .inr hb2
        · exact absurd ((if_neg hb).trans (if_neg hb2)) z

/-- what is known of the defs at the head's heap h -/
def LawG (l : PySem.W.OpenLaw) (w : World) (K : PySem.W.Frag) (k n : Nat) (x : Str) (mg : Str → Option Value) (fa : Addr) (h : Heap) : Prop :=
  ∃ (fd : FuncData) (cs : List (Addr × Addr)) (sp : Sp), (∀ p ∈ cs, h.get? p.2 = some { cls := .none, data := .fields #[] }) ∧ (∀ p ∈ cs, K.lookup p.2 = none) ∧ (∀ p ∈ cs, PySem.W.CodeHd h p.1 p.2) ∧ (∀ (s : Shared) (u : Value), BindsTo s fd ⟨[u], []⟩ [(x, u)]) ∧
    (∀ (H : Hp) (a : Addr) (ns : List Int), ns.length ≤ n → (∀ z ∈ ns, Builtin.Int.intBits z ≤ 1048576) → (∀ p ∈ cs, H p.2 = some (.tbl #[])) → ScrIn K H a ns → sp [.ref a] H (fun v _ => v = .bl true) fun _ _ _ => False) ∧
    ∀ base : Heap, K.In base → base.Ns mainGlobals mg → (∀ p ∈ cs, TabB base mg p.1 p.2) → FnG l.prog w K mg base k fa fd [x] sp
theorem walkG {l : PySem.W.OpenLaw} {n k : Nat} {q : Program} {loose : List Str} {XP : (Str → Option Value) → Heap → Prop} {YP : World → Heap → Prop} {d : DefRec} {K : Params → PySem.W.Frag} {x : Str}
    (most : l.most = some n) (fits : n ≤ sizeLine) (plain : d.params.defaults = []) (room : Room k callerA) (inY : ∀ (w : World) (h : Heap), YP w h → (K w.params).In h)
    (F : ∀ (w : World) (mg : Str → Option Value) (fa : Addr) (h : Heap), YP w h → (K w.params).In h → h.Ns mainGlobals mg → mg d.name = some (.ref fa) → LawG l w (K w.params) k n x mg fa h) :
    PySem.W.WalkO q loose XP YP l.row.toRowW d [] (fun f vs => PySem.call f vs) := by
  refine Att.attach_callB most plain fun w s₀ s₁ mg mb fa o pm cd doc a vs ns G Y ho hd hcd hmg hobj hints hlen hbits hg => ?_
  have kin1 := inY w _ Y
  obtain ⟨fd, cs, sp, tabs, tabsK, C, bnd, prm, hF⟩ := F w mg fa _ Y kin1 G.T.g hmg
  exact law_callG kin1 G.T.g G.T.b G.T.builtins G.T.nolimit hg tabs tabsK C G.T.bmain hobj hints (Nat.le_trans hlen fits) room hF bnd fun H tH seqA => prm H a ns hlen hbits tH seqA
/-- the law's own promise, from what is computed -/
theorem law_prom {U : Wd} {K : PySem.W.Frag} {nL fL : Nat} {H : Hp} {a : Addr} {ns : List Int} {cs : List (Addr × Addr)} (hps : (U.ps fL).length = 1) (hT : ∀ p ∈ U.cls.T, H p.1 = some (.tbl #[])) (h : ScrIn K H a ns)
    (hc : ∃ st', callN U.Pg nL fL [.scr (ns.map D.int)] [] = .ok (.bl true) st') : prom K U (callN U.Pg nL) fL [.ref a] H (fun v _ => v = .bl true) fun _ _ _ => False := by
  obtain ⟨st', e⟩ := hc
  have S : StRel K U.cls [] [] H [] := ⟨rfl, List.nodup_nil, fun n a h => by simp at h, fun a h => by simp at h, fun a h => by simp at h, fun p hp => TabS.nil (hT p hp)⟩
  have ri : ∀ (F μ : List Addr) (H : Hp), ∀ ns : List Int, RelL K F μ H (ns.map D.int) (ns.map V.int) := fun F μ H ns => by
    induction ns with
    | nil => exact .nil
    | cons a r ih => exact .cons (.int a) ih
  refine ⟨[], [], [], [.scr (ns.map D.int)], S, .cons ?_ .nil, hps.symm, ?_⟩
  · rcases h with ⟨o, h⟩ | h
    · exact .scr h (by simp) (ri _ _ _ ns)
    · exact .scrK h (ri _ _ _ ns)
  · rw [e]
    intro μ' H' v _ _ r
    cases r
    rfl
end MP

set_option Elab.async false
set_option linter.all false
set_option maxRecDepth 100000
set_option maxHeartbeats 4000000
namespace MP
open PySem PySem.Spec PyProof.Rows L2 PySem.W NdefX PySem.Calls PyProof.V
/-! ### an own error whose __init__ says super().__init__(x); self.f = x -/
/-- what the top has written of the class at C and of its __init__ at fI -/
structure XInit (P : Program) (K : PySem.W.Frag) (mg : Str → Option Value) (C fI : Addr) (nm qual fld arg : Str) (st : Stmt) (fd : FuncData) : Prop where
  oex : OexC K C
  init : PySem.W.findIn K (.ref C) "__init__" = some (some (.ref fI))
  ty : PySem.W.typeIn K (.ref fI) = some (.type "function")
  mgC : mg nm = some (.ref C)
  fdEx : ∃ (oc dV kV doc pm ct : Value) (od an : Option Addr) (cda cc : Addr) (osl ccs csl : Array (Option Value)) (ccl cl : Value) (cdd cld : Option Addr) (vs : Array Value) (file : Str) (tf : Tok) (cdD : ClassData),
    fd = ksFn "__init__" qual (defArgs st) (defBody st) (defScope st) dV kV doc pm an (.ref cda) ct cc ∧ K.lookup fI = some ⟨oc, od, .func fd, osl⟩ ∧ codeIn K (.ref cda) qual = true ∧ K.lookup cda = some ⟨ccl, cdd, .fields vs, ccs⟩ ∧ vs[2]? = some (.str file tf) ∧
      ((P.main.file : Str) == file) = true ∧ K.lookup cc = some ⟨cl, cld, .cell (some (.ref C)), csl⟩ ∧ clsIn K C = some cdD
  sub : mroIn K C (.ref C) = some true
  sup : nsIn K mainGlobals "super" = some none
  third : nsIn K cStatics "thirdparty.any" = some none
  along : ks_superIn K C C "__init__" = some (some (.builtin "ValueError.__init__"))
  subV : subIn K (.ref C) (.type "ValueError") = some true
  fldC : PySem.W.findIn K (.ref C) fld = some none
  top : (P.main.scope.names.lookup ("super" : Str)).isSome = false
  body : ∃ p0 p1 p2 p3 p4 p5 p6 p7 p8 p9, (p2.endLine == p4.line) = true ∧ defBody st = [.Expr (.Call (.Attribute (.Call (.Name "super" p0) [] [] p1) "__init__" p2) [.Name arg p3] [] p4) p5, .Assign [.Attribute (.Name "self" p6) fld p7] (.Name arg p8) p9]
  head : ((defArgs st).posonlyargs ++ (defArgs st).args).head?.map (·.arg) = some "self"
  sc : NScope ["self", arg, "__class__"] ["self", arg] ["__class__"] (defScope st)
  ks : (defScope st).names.lookup ("super" : Str) = some .globalImplicit
  okA : okNm arg = true
  bd : Binds K fd ["self", arg] []
  kp : keepIn K (.ref C) = true
theorem superCall {p0 p1 p2 p3 p4 : Pos} {arg : Str} {env : PySem.Env} (h : (p2.endLine == p4.line) = true) : PySem.eval (.Call (.Attribute (.Call (.Name "super" p0) [] [] p1) "__init__" p2) [.Name arg p3] [] p4) env = (do
      let ov ← attributeBase (.Call (.Name "super" p0) [] [] p1) "__init__" env (PySem.eval (.Call (.Name "super" p0) [] [] p1) env)
      standAt p2.atName
      let (f, first) ← holding [ov] (getMethod ov "__init__" (do return (← importBound (.Call (.Name "super" p0) [] [] p1) env).getD true))
      callWith p4 f first (backTo p4 (starEach [.Name arg p3] env)) []) := by
  show (do
    let ov ← attributeBase (.Call (.Name "super" p0) [] [] p1) "__init__" env (PySem.eval (.Call (.Name "super" p0) [] [] p1) env)
    standAt p2.atName
    methodCall (.Call (.Name "super" p0) [] [] p1) "__init__" p2 p4 env ov 1 (backTo p4 (starEach [.Name arg p3] env)) []) = _
  unfold methodCall methodCallPos
  simp only [h]
  rfl
def spX (C : Addr) (fld : Str) : Sp := fun vs H Q _ => ∃ (a : Addr) (v : V), vs = [.ref a, v] ∧ H a = some (exo a C none) ∧ ∀ d, H d = none → d ≠ a → Q .non (upd (upd H d (exd d [(fld, v)])) a (exo a C (some d)))
section
variable {P : Program} {w : World} {K : PySem.W.Frag} {mg : Str → Option Value} {base : Heap} {C fI : Addr} {nm qual fld arg : Str} {st : Stmt} {fd : FuncData}
theorem init_fn (X : XInit P K mg C fI nm qual fld arg st fd) {k : Nat} : FnOk P w K mg base (L2.CX P w) (k + 1) fI fd ["self", arg] (spX C fld) := by
  refine ⟨fun vs H Q E ⟨a, v, e, _⟩ => by rw [e]; rfl, fun A out s H args us vs Q E hr e0 hbd r ⟨a, v, ev, ea, hq⟩ => ?_⟩
  obtain ⟨oc, dV, kV, doc, pm, ct, od, an, cda, cc, osl, ccs, csl, ccl, cl, cdd, cld, fvs, file, tf, cdD, rfl, lk, hcd, lcd, hfv, hfile, lcc, hD⟩ := X.fdEx
  obtain ⟨p0, p1, p2, p3, p4, p5, p6, p7, p8, p9, hline, hbody⟩ := X.body
  subst ev
  obtain ⟨u0, u, rfl, r0, ru⟩ : ∃ u0 u, us = [u0, u] ∧ RelV (.ref a) u0 ∧ RelV v u := by
    cases r with
    | cons a1 b1 => cases b1 with
      | cons a2 b2 => cases b2; exact ⟨_, _, rfl, a1, a2⟩
  obtain rfl : u0 = Value.ref a := r0
  have kin : K.In s.heap := e0.mod.kin.keeps fun b o e => (e0.bs b o e).1
  have lim : s.heap.NoLimit := e0.mod.nolimit.keeps fun b o e => (e0.bs b o e).1
  have S := X.sc
  refine ks_codeAny_call_defAt (body := defBody st) hr.depth (kin _ _ lk) rfl lim (codeRec_of kin hcd) rfl hbd S.nocell (fun y hy => S.par y.1 (List.of_mem_zip hy).1) (fun h₁ hns kp => ?_) S.co S.gen S.kind
  -- the body's context
  let NFv : NF := ⟨"__init__", qual, defArgs st, defBody st, defScope st, [("__class__", cc)], cda⟩
  have kin0 := kin
  have hcn : H cc = none := (e0.bs _ _ (e0.mod.kin _ _ lcc)).2
  have look : ∀ y c, NFv.cl.lookup y = some c → y = "__class__" ∧ c = cc := fun y c e => by
    have e' : List.lookup y [(("__class__" : Str), cc)] = some c := e
    rw [List.lookup_cons] at e'
    cases hb : y == ("__class__" : Str) with
    | true =>
      rw [hb] at e'
      exact ⟨beq_iff_eq.mp hb, (Option.some.inj e').symm⟩
    | false =>
      rw [hb] at e'
      cases e'
  have CA : CellsAt NFv.cl ["__class__"] [none] s.heap H := by
    refine ⟨rfl, fun y c e => ?_, fun x y c e1 e2 => ?_, fun i y hi => ?_⟩
    · obtain ⟨_, rfl⟩ := look y c e
      exact ⟨hcn, some (.ref C), _, kin _ _ lcc, rfl⟩
    · rw [(look x c e1).1, (look y c e2).1]
    · cases i with
      | zero =>
        have hy : ("__class__" : Str) = y := by simpa using hi
        subst hy
        exact ⟨cc, rfl, fun v hv => by simp at hv⟩
      | succ i => simp at hi
  have J : Inv (ncx (L2.CX P w) P w K mg base ["self", arg, "__class__"] NFv fI A out s H E) [] (startF ["self", arg, "__class__"] [.ref a, v] [none]) H { s with heap := h₁, toks := s.toks + 2 } := inv_startN S hr.hd e0 rfl r CA hns kp
  obtain ⟨hp, g, d, t, os⟩ := s
  have kb : ∀ b o, base.get? b = some o → h₁.get? b = some o := fun b o e => kp b o (e0.bs b o e).1
  have kin1 : K.In h₁ := fun b o e => kp b o (kin b o e)
  obtain ⟨ar, har, earg⟩ : ∃ ar, ((defArgs st).posonlyargs ++ (defArgs st).args).head? = some ar ∧ ar.arg = "self" := Option.map_eq_some_iff.mp X.head
  obtain ⟨mb, hmb, hbb⟩ := e0.mod.blt
  obtain ⟨oD, hD1, hD2⟩ : ∃ oD, K.lookup C = some oD ∧ oD.data = .cls cdD := by
    unfold clsIn at hD
    split at hD
    · rename_i c d cd' sl ho
      cases hD
      exact ⟨_, ho, rfl⟩
    · cases hD
  obtain ⟨t1, hx⟩ := exo_at J.hok ea
  have ndp : (["self", arg] : List Str).Nodup := by
    have := S.nd.sublist (List.take_sublist 2 _)
    exact this
  rw [hbody]
  refine ks_wpAt_execs_cons (ks_wpAt_Expr_any (ks_wpAt_MethodCall ?_ (superCall hline)) J.quiet rfl)
  refine ks_wpAt_super_base (ar := ar) X.ks (S.frk "__class__" (by simp)) rfl rfl (kin1 _ _ lk) rfl har rfl (kin1 _ _ lcd) rfl hfv hfile X.top ?_
  refine ks_loadName_global S.kind X.ks (loadGlobal_builtin (env := _) (e0.mod.glob.keeps kb) (mg_none_of e0.mod.kin e0.mod.glob X.sup) (hmb.keeps kb) ((hbb _ (by decide +kernel)).trans (show bootBuiltins "super" = some (.type "super") by first | rfl | decide +kernel)) ⟨rfl, ?_⟩)
  refine wpAny_loadName_free S.kind (S.frk "__class__" (by simp)) (c := cc) rfl ⟨_, kin1 _ _ lcc, rfl⟩ ?_
  have la : ((["self", arg] : List Str).zip [Value.ref a, u]).reverse.lookup ("self" : Str) = some (.ref a) := NdefX.zip_look (i := 0) ndp rfl rfl
  have lu : ((["self", arg] : List Str).zip [Value.ref a, u]).reverse.lookup arg = some u := NdefX.zip_look (i := 1) ndp rfl rfl
  refine wpAny_loadName_local S.kind (by rw [earg]; exact S.par "self" (by simp)) hns (v := .ref a) (by rw [earg]; exact la) ?_
  refine ks_wpAny_isType_cls (kin1 _ _ hD1) hD2 ⟨rfl, ?_⟩
  refine ks_wpAny_call_super (kin1 _ _ hD1) hD2 hx rfl (fun c z => by cases z) (looks_mroIn kin1 X.sub) (fun h2 e2 k2 => ?_)
  have kin2 : K.In h2 := fun b o e => k2 b o (kin1 b o e)
  have Ix : InstAt h2 a _ C none := ⟨k2 _ _ hx, rfl, rfl, trivial⟩
  have hal : alongIn K "__init__" ((cdD.mro.dropWhile (· != .ref C)).drop 1) = some (some (.builtin "ValueError.__init__")) := by
    have z := X.along
    unfold ks_superIn at z
    rw [hD] at z
    exact z
  refine kxs_getMethod kxs_ValueError e2 (looks_opaque kin2 X.third) (l₀ := cdD.mro) (fun A Q E s k q => wpAny_bind ((looks_clsIn kin2 hD) A _ E s k (wpAny_pure q))) rfl kin2 hal (Ix.type.andThen (looks_subIn kin2 X.subV)) (ks_ne kin2 Ix hD) rfl ?_
  have k3 : ∀ b o, h₁.get? b = some o → (h2.push (kxs_mw "ValueError.__init__" a)).get? b = some o := fun b o e => Heap.get?_push_of_some _ (k2 b o e)
  have kin3 : K.In (h2.push (kxs_mw "ValueError.__init__" a)) := fun b o e => k3 b o (kin1 b o e)
  have hq3 : (h2.push (kxs_mw "ValueError.__init__" a)).get? h2.objs.size = some (kxs_mw "ValueError.__init__" a) := Heap.get?_push_at rfl rfl
  refine kxs_callWith (i := "ValueError.__init__") (x := a) (u := h2.objs.size) rfl (evalArgs_plain ?_)
  show wpAny _ _ (spliced [(false, PySem.eval (.Name arg p3) _)]) _ _ _
  refine Calls.spliced_cons ?_
  refine wpAny_Name (wpAny_loadName_local S.kind (S.par arg (by simp)) (hns.keeps k3) lu ?_) (okNm_eq X.okA).1
  refine Calls.spliced_nil ⟨hq3, ?_⟩
  -- the built-in __init__, bound
  obtain ⟨nm0, q0, N0, bs0, bm0, sn0, sub0, ab0, col0, dd0, c0, c1, c2, c3, c5, hC, hbm⟩ := X.oex.cls
  refine wpAny_call (codeAny_of_tree ?_)
  show wpAny _ _ (callAny (.ref h2.objs.size) ⟨[u], []⟩) _ _ _
  simp only [callAny]
  refine wpAny_bind (wpAny_load hq3 ?_)
  simp only [kxs_mw, show (Value.type "method-wrapper" == Value.type "method" || Value.type "method-wrapper" == Value.type "builtin_function_or_method" ||
    Value.type "method-wrapper" == Value.type "method-wrapper") = true by decide, if_true]
  refine KFB.if_so (by decide) ?_
  refine wpAny_bind (check_bound_init PySem.F.excBase_ValueError.toExcCallFacts (kin3 _ _ hC) (k3 _ _ hx) rfl ?_)
  refine wpAny_bind (wpAny_pure (wpAny_pure ?_))
  refine ⟨plainId_quiet PySem.F.excBase_ValueError.init.plain _, codeAny_builtin PySem.F.excBase_ValueError.initEntry ?_⟩
  refine exc_init_tree (cls := .ref C) (t0 := t1) (dv := none) (c2 := .none) (c3 := .none) (b4 := .bool false) (k3 _ _ hx) (by show 1 ≤ sizeLine; decide) (fun h4 k4 hx4 _ => ?_)
  -- behind it
  have J4 : ∀ tk : Nat, Inv (ncx (L2.CX P w) P w K mg base ["self", arg, "__class__"] NFv fI A out ⟨hp, g, d, t, os⟩ H E) [] (startF ["self", arg, "__class__"] [.ref a, v] [none]) H ⟨h4, g, d, tk, os⟩ := by
    intro tk
    have J3 := J.kept (t' := tk) k3
    have q := J3.write (h' := h4) (t' := tk) (x := a) (e := a) (o := exo a C none) (by rw [ea]; exact True.intro) (.inl rfl) k4 ⟨_, hx4⟩ (exo_ok hx4)
    have eu : upd H a (exo a C none) = H := by
      funext b
      by_cases hb : b = a
      · rw [hb, upd_same, ea]
      · rw [upd_ne hb]
    rw [eu] at q
    exact q
  have oA := okNm_eq X.okA
  have ps : PSs (ncx (L2.CX P w) P w K mg base ["self", arg, "__class__"] NFv fI A out ⟨hp, g, d, t, os⟩ H E) [.Assign [.Attribute (.Name "self" p6) fld p7] (.Name arg p8) p9] _ :=
    pss_one (ps_ost (pe_var (i := 0) rfl (.inl (S.par "self" (by simp))) (by decide) (by decide)) (pe_var (i := 1) rfl (.inl (S.par arg (by simp))) oA.1 oA.2) rfl)
  refine wpAt_of_wpAny (wpAny_mono (ps.run [] _ _ H { nx := fun _ H' => Q .non H', rt := fun _ _ => False } (J4 _) ?_) (fun fl s' z => ?_) fun _ _ z => z)
  rotate_left
  · cases fl with
    | next =>
      obtain ⟨σ', H', J5, q⟩ := z
      exact ⟨V.non, H', J5.os, J5.bare, J5.base, J5.hok, rfl, q⟩
    | ret u =>
      obtain ⟨_, _, _, _, _, q⟩ := z
      exact q.elim
    | brk =>
      obtain ⟨_, _, _, q⟩ := z
      exact q.elim
    | cont =>
      obtain ⟨_, _, _, q⟩ := z
      exact q.elim
  · exact ⟨v, rfl, .ref a, rfl, a, C, rfl, X.oex, X.fldC, .inl ⟨ea, fun dx n ne => hq dx n ne⟩⟩
theorem passF {X : Cx} : Passes (L2.CX X.prog X.w) X (fun _ _ _ => False) := fun _ _ _ _ _ _ _ h => by
  obtain ⟨_, _, _, _, _, _, _, _, _, _, _, _, z⟩ := h
  exact z.elim
theorem tl_len {U : Wd} {X : Cx} {F : List Addr} {W : WX} {sr : MP.Env → DS → R (List D)} {m : Nat} (hl : ∀ ρ st ds st1, sr ρ st = .ok ds st1 → ds.length = m) {σ : L2.St} {H : Hp} {Q : List V → Hp → Prop} (h : TLx U X F W sr σ H Q) : TLx U X F W sr σ H fun vs H1 => vs.length = m ∧ Q vs H1 := by
  obtain ⟨ρ, st, μ, hE, hS, hP⟩ := h
  refine ⟨ρ, st, μ, hE, hS, ?_⟩
  cases e : sr ρ st with
  | ok ds st1 =>
    rw [e] at hP
    exact fun μ1 H1 vs x S r => ⟨by rw [← r.length, hl _ _ _ _ e], hP μ1 H1 vs x S r⟩
  | exc c fs st1 => rw [e] at hP; exact hP
  | bad => rw [e] at hP; exact hP.elim
theorem mkx_of {U : Wd} {n : Nat} (h : ∀ c nm, U.xn c = some nm → ∃ fI qual fld arg st fd, XInit P K mg (U.cls c) fI nm qual fld arg st fd ∧ U.xf c = [fld] ∧ okNm nm = true) : MkX U n P w K mg base := by
  rintro W X rfl rfl rfl rfl rfl c k nm hk hg F x xs p pos sr hn hr hl
  obtain ⟨fI, qual, fld, arg, st, fd, X0, hf, hnm⟩ := h k nm hk
  have hn' := hn
  simp only [List.all_cons, Bool.and_eq_true] at hn'
  have key := pmk_oex (p := p) (pos := pos) X0.oex X0.init X0.ty (init_fn (w := X.w) (base := X.base) X0 (k := 0)) (c.room.mono (by omega)) X0.bd .nil passF hg X0.mgC hr (okNm_eq hnm).1 (star1 hn'.1) (star_plain hn'.2)
  intro pins s σ H Q I q
  refine key pins s σ H Q I ?_
  have q2 := tl_len hl q
  rw [hf] at q2
  have mono : ∀ {Q1 Q2 : List V → Hp → Prop}, (∀ vs H1, Q1 vs H1 → Q2 vs H1) → TLx U X F W sr σ H Q1 → TLx U X F W sr σ H Q2 := fun {Q1 Q2} i ⟨ρ, st, μ, hE, hS, hP⟩ => by
    refine ⟨ρ, st, μ, hE, hS, ?_⟩
    cases e : sr ρ st with
    | ok ds st1 => rw [e] at hP; exact fun μ1 H1 vs x S r => i _ _ (hP μ1 H1 vs x S r)
    | exc c fs st1 => rw [e] at hP; exact hP
    | bad => rw [e] at hP; exact hP.elim
  refine mono (fun vs H1 ⟨l1, q3⟩ => ?_) q2
  obtain ⟨v, rfl⟩ := List.length_eq_one_iff.mp (show vs.length = 1 from l1)
  refine ⟨by show 1 ≤ 1000; decide, fun a ha => ⟨a, v, rfl, upd_same, fun d hd hda => ⟨rfl, d, [(fld, v)], upd_same, ?_, ?_, ?_⟩⟩⟩
  · rw [upd_ne hda, upd_same]
  · rw [upd_ne hda] at hd; exact hd
  · have e : upd (del (upd (upd (upd H1 a (exo a (U.cls k) none)) d (exd d [(fld, v)])) a (exo a (U.cls k) (some d))) a) d (.xd [(fld, v)]) = upd H1 d (.xd [(fld, v)]) := by
      funext b
      by_cases h1 : b = d
      · rw [h1, upd_same, upd_same]
      · rw [upd_ne h1, upd_ne h1]
        by_cases h2 : b = a
        · rw [h2, del_same, ha]
        · rw [del_ne h2, upd_ne h2, upd_ne h1, upd_ne h2]
    rw [e]
    rw [upd_ne hda] at hd
    exact q3 d hd
end
end MP

set_option Elab.async false
set_option linter.all false
set_option maxRecDepth 100000
namespace PG
open PySem L2 MP
/-- 0 _._wall -/
def ___wall (ι : Ix) : FDef := { nm := "_wall", gl := true, np := 1, iso := false, lam := false, N := ["k"], body := [
    .whl (.tv (.lit (.bl true))) [.pass]] }
/-- 1 answertexts.answer_text -/
def answertexts_answer_text (ι : Ix) : FDef := { nm := "answer_text", gl := true, np := 2, iso := false, lam := false, N := ["item", "answer"], body := [
    .ife (.cmp .ne (.ix (.var 1) (.lit (.int 0))) (.lit (.str "told"))) [.ret (.call (ι.f 2) [.var 1])] [],
    .ret (.call (ι.f 10) [.ix (.var 0) (.lit (.int 0)), .ix (.var 1) (.lit (.int 1))])] }
/-- 2 answertexts.blanks -/
def answertexts_blanks (ι : Ix) : FDef := { nm := "blanks", gl := true, np := 1, iso := false, lam := false, N := ["some", "one"], body := [
    .ret (.ife (.cmp .gt (.bi .len [.var 0]) (.lit (.int 0))) (.meth .join (.lit (.str " ")) [.lc false (.call (ι.f 7) [.var 1]) (.nm 1) .seq [.var 0] [] [1]]) (.lit (.str "-")))] }
/-- 3 answertexts.commas -/
def answertexts_commas (ι : Ix) : FDef := { nm := "commas", gl := true, np := 1, iso := false, lam := false, N := ["some"], body := [
    .ret (.ife (.cmp .gt (.bi .len [.var 0]) (.lit (.int 0))) (.meth .join (.lit (.str ", ")) [.var 0]) (.con (ι.c 70) (.str "none")))] }
/-- 4 answertexts.heard_text -/
def answertexts_heard_text (ι : Ix) : FDef := { nm := "heard_text", gl := true, np := 1, iso := false, lam := false, N := ["heard", "left", "right", "truths"], body := [
    .asg (.tp [.nm 1, .nm 2, .nm 3]) (.var 0),
    .ret (.call (ι.f 3) [.lst false [.call (ι.f 158) [.var 1], .call (ι.f 158) [.var 2], .call (ι.f 2) [.var 3]]])] }
/-- 5 answertexts.limit_text -/
def answertexts_limit_text (ι : Ix) : FDef := { nm := "limit_text", gl := true, np := 1, iso := false, lam := false, N := ["limit"], body := [
    .ife (.isN false (.var 0)) [.ret (.con (ι.c 70) (.str "none"))] [],
    .ret (.ife (.cmp .eq (.bi .len [.var 0]) (.lit (.int 2))) (.bin .add (.bin .add (.call (ι.f 158) [.ix (.var 0) (.lit (.int 0))]) (.lit (.str " "))) (.ix (.var 0) (.lit (.int 1)))) (.ix (.var 0) (.lit (.int 0))))] }
/-- 6 answertexts.lot_text -/
def answertexts_lot_text (ι : Ix) : FDef := { nm := "lot_text", gl := true, np := 1, iso := false, lam := false, N := ["lot", "ahead", "zero", "top", "front", "back", "views", "view"], body := [
    .asg (.tp [.nm 2, .nm 3, .nm 4, .nm 5, .nm 6]) (.var 0),
    .asg (.nm 1) (.lst false [.call (ι.f 2) [.lst false [.lit (.str "zero"), .var 2]], .call (ι.f 2) [.lst false [.lit (.str "top"), .var 3]], .call (ι.f 2) [.lst false [.lit (.str "front"), .var 4]], .call (ι.f 2) [.lst false [.lit (.str "back"), .var 5]]]),
    .ret (.bin .add (.bin .add (.call (ι.f 3) [.var 1]) (.lit (.str ": "))) (.call (ι.f 8) [.lc false (.call (ι.f 2) [.var 7]) (.nm 7) .seq [.var 6] [] [7]]))] }
/-- 7 answertexts.one_text -/
def answertexts_one_text (ι : Ix) : FDef := { nm := "one_text", gl := true, np := 1, iso := false, lam := false, N := ["one"], body := [
    .ife (.tv (.isa [.bool] (.var 0))) [.ret (.ife (.tv (.var 0)) (.lit (.str "yes")) (.lit (.str "no")))] [],
    .ret (.bi .str [.var 0])] }
/-- 8 answertexts.semicolons -/
def answertexts_semicolons (ι : Ix) : FDef := { nm := "semicolons", gl := true, np := 1, iso := false, lam := false, N := ["some"], body := [
    .ret (.ife (.cmp .gt (.bi .len [.var 0]) (.lit (.int 0))) (.meth .join (.lit (.str "; ")) [.var 0]) (.con (ι.c 70) (.str "none")))] }
/-- 9 answertexts.some_text -/
def answertexts_some_text (ι : Ix) : FDef := { nm := "some_text", gl := true, np := 2, iso := false, lam := false, N := ["word", "told", "one"], body := [
    .ife (.cmp .inn (.var 0) (.con (ι.c 37) (.tup [.str "makers", .str "keepers"]))) [.ret (.call (ι.f 8) [.lc false (.call (ι.f 161) [.var 2]) (.nm 2) .seq [.var 1] [] [2]])] [],
    .ife (.cmp .inn (.var 0) (.con (ι.c 33) (.tup [.str "form", .str "where"]))) [.ret (.call (ι.f 6) [.var 1])] [],
    .ife (.cmp .eq (.var 0) (.lit (.str "fixed"))) [.ret (.ife (.isN false (.var 1)) (.lit (.str "all")) (.call (ι.f 3) [.lc false (.call (ι.f 158) [.var 2]) (.nm 2) .seq [.var 1] [] [2]]))] [],
    .ife (.cmp .eq (.var 0) (.lit (.str "gap"))) [.ret (.call (ι.f 3) [.lc false (.call (ι.f 5) [.var 2]) (.nm 2) .seq [.var 1] [] [2]])] [],
    .ife (.cmp .eq (.var 0) (.lit (.str "rule"))) [.ret (.call (ι.f 3) [.lst false [.call (ι.f 2) [.ix (.var 1) (.lit (.int 0))], .call (ι.f 2) [.ix (.var 1) (.lit (.int 1))]]])] [],
    .ret (.ife (.cmp .eq (.var 0) (.lit (.str "way"))) (.call (ι.f 11) [.var 1]) (.call (ι.f 4) [.var 1]))] }
/-- 10 answertexts.told_text -/
def answertexts_told_text (ι : Ix) : FDef := { nm := "told_text", gl := true, np := 2, iso := false, lam := false, N := ["word", "told"], body := [
    .ife (.cmp .inn (.var 0) (.con (ι.c 29) (.tup [.str "least", .str "most", .str "next", .str "last"]))) [.ret (.call (ι.f 5) [.var 1])] [],
    .ife (.cmp .inn (.var 0) (.con (ι.c 82) (.tup [.str "heaps", .str "rank"]))) [.ret (.call (ι.f 2) [.var 1])] [],
    .ife (.cmp .inn (.var 0) (.con (ι.c 44) (.tup [.str "size", .str "group"]))) [.ret (.ife (.isN false (.var 1)) (.lit (.str "endless")) (.bi .str [.var 1]))] [],
    .ife (.cmp .inn (.var 0) (.con (ι.c 74) (.tup [.str "first", .str "parts", .str "led", .str "simplest"]))) [.ret (.ife (.isN false (.var 1)) (.con (ι.c 70) (.str "none")) (.call (ι.f 158) [.var 1]))] [],
    .ife (.cmp .inn (.var 0) (.con (ι.c 42) (.tup [.str "kin", .str "moves"]))) [.ret (.ife (.isN false (.var 1)) (.con (ι.c 70) (.str "none")) (.call (ι.f 161) [.var 1]))] [],
    .ife (.or (.cmp .inn (.var 0) (.con (ι.c 122) (.tup [.str "in", .str "same", .str "within", .str "keeps", .str "kept"]))) (.cmp .eq (.var 0) (.lit (.str "count")))) [.ret (.call (ι.f 7) [.var 1])] [],
    .ret (.ife (.cmp .eq (.var 0) (.lit (.str "again"))) (.var 1) (.call (ι.f 9) [.var 0, .var 1]))] }
/-- 12 askuses.is_told_least -/
def askuses_is_told_least (ι : Ix) : FDef := { nm := "is_told_least", gl := true, np := 1, iso := false, lam := false, N := ["number", "square", "first", "second", "third"], body := [
    .ife (.cmp .eq (.bi .len [.var 0]) (.lit (.int 2))) [.ret (.and (.cmp .eq (.bi .gcd [.ix (.var 0) (.lit (.int 0)), .ix (.var 0) (.lit (.int 1))]) (.lit (.int 1))) (.or (.cmp .gt (.ix (.var 0) (.lit (.int 1))) (.lit (.int 0))) (.cmp .eq (.ix (.var 0) (.lit (.int 0))) (.lit (.int 1)))))] [],
    .asg (.tp [.nm 2, .nm 3, .nm 4]) (.sl false (.var 0) [] [.lit (.int 3)]),
    .asg (.nm 1) (.bin .sub (.bin .mul (.var 3) (.var 3)) (.bin .mul (.bin .mul (.lit (.int 4)) (.var 2)) (.var 4))),
    .ife (.or (.cmp .le (.var 2) (.lit (.int 0))) (.or (.cmp .ne (.bi .gcd [.bi .gcd [.var 2, .var 3], .var 4]) (.lit (.int 1))) (.cmp .le (.var 1) (.lit (.int 0))))) [.ret (.lit (.bl false))] [],
    .ret (.cmp .ne (.bin .mul (.bi .isqrt [.var 1]) (.bi .isqrt [.var 1])) (.var 1))] }
/-- 13 askuses.lacking -/
def askuses_lacking (ι : Ix) : FDef := { nm := "lacking", gl := true, np := 3, iso := false, lam := false, N := ["ahead", "members", "sorts", "k", "sort", "word"], body := [
    .forr (.tp [.nm 3, .nm 4]) .enum [.var 2] [.asg (.nm 5) (.call (ι.f 14) [.var 0, .ix (.var 1) (.var 3), .var 4]), .ife (.isN true (.var 5)) [.ret (.tup [.tup [.bin .add (.var 3) (.lit (.int 1))], .var 5])] []],
    .ret (.lit (.non))] }
/-- 17 askuses.wrong_item -/
def askuses_wrong_item (ι : Ix) : FDef := { nm := "wrong_item", gl := true, np := 1, iso := false, lam := false, N := ["session", "number", "fault"], body := [
    .forr (.nm 1) .rng [.bi .len [.var 0]] [.asg (.nm 2) (.call (ι.f 20) [.var 0, .var 1]), .ife (.isN true (.var 2)) [.ret (.tup [.var 1, .ix (.var 2) (.lit (.int 0)), .ix (.var 2) (.lit (.int 1))])] []],
    .ret (.lit (.non))] }
/-- 18 askuses.wrong_lot -/
def askuses_wrong_lot (ι : Ix) : FDef := { nm := "wrong_lot", gl := true, np := 1, iso := false, lam := false, N := ["item", "names", "j", "head", "modes", "k", "mode"], body := [
    .asg (.tp [.nm 3, .nm 4]) (.sl false (.var 0) [.lit (.int 2)] []),
    .slc 1 (.lc false (.ix (.var 6) (.lit (.int 0))) (.nm 6) .seq [.var 4] [] [6]),
    .forr (.nm 2) .seq [.tup [.lit (.int 2), .lit (.int 3)]] [.ife (.cmp .nin (.ix (.var 3) (.var 2)) (.var 1)) [.ret (.tup [.tup [.lit (.int 2), .var 2], .con (ι.c 45) (.str "mode")])] []],
    .forr (.tp [.nm 5, .nm 6]) .enum [.var 4] [.ife (.cmp .inn (.ix (.var 6) (.lit (.int 0))) (.sl false (.var 1) [] [.var 5])) [.ret (.tup [.tup [.lit (.int 3), .var 5, .lit (.int 0)], .con (ι.c 127) (.str "twice")])] [], .forr (.nm 2) .seq [.tup [.lit (.int 2), .lit (.int 3)]] [.ife (.cmp .nin (.ix (.var 6) (.var 2)) (.var 1)) [.ret (.tup [.tup [.lit (.int 3), .var 5, .var 2], .con (ι.c 45) (.str "mode")])] []]],
    .ret (.lit (.non))] }
/-- 21 askuses.wrong_value -/
def askuses_wrong_value (ι : Ix) : FDef := { nm := "wrong_value", gl := true, np := 1, iso := false, lam := false, N := ["item", "first", "second", "third", "fourth"], body := [
    .ife (.cmp .eq (.ix (.var 0) (.lit (.int 0))) (.con (ι.c 73) (.str "number"))) [.ret (.ife (.tv (.call (ι.f 12) [.ix (.var 0) (.lit (.int 2))])) (.lit (.non)) (.tup [.tup [.lit (.int 2)], .con (ι.c 73) (.str "number")]))] [],
    .asg (.tp [.nm 1, .nm 2, .nm 3, .nm 4]) (.ix (.var 0) (.lit (.int 2))),
    .ret (.ife (.cmp .eq (.bin .mul (.var 1) (.var 4)) (.bin .mul (.var 2) (.var 3))) (.tup [.tup [.lit (.int 2)], .con (ι.c 41) (.str "map")]) (.lit (.non)))] }
/-- 22 circlenumbers.fraction_told -/
def circlenumbers_fraction_told (ι : Ix) : FDef := { nm := "fraction_told", gl := true, np := 2, iso := true, lam := false, N := ["top", "bottom", "part"], body := [
    .asg (.nm 2) (.bi .gcd [.var 0, .var 1]),
    .asg (.nm 2) (.ife (.or (.cmp .lt (.var 1) (.lit (.int 0))) (.and (.cmp .eq (.var 1) (.lit (.int 0))) (.cmp .lt (.var 0) (.lit (.int 0))))) (.neg (.var 2)) (.var 2)),
    .ret (.call (ι.f 28) [.tup [.bin .fdiv (.var 0) (.var 2), .bin .fdiv (.var 1) (.var 2)]])] }
/-- 23 circlenumbers.is_long -/
def circlenumbers_is_long (ι : Ix) : FDef := { nm := "is_long", gl := true, np := 1, iso := false, lam := false, N := ["number"], body := [
    .ret (.or (.cmp .gt (.meth .bitlen (.var 0) []) (.con (ι.c 110) (.int 997))) (.cmp .gt (.bi .len [.bi .str [.bi .abs [.var 0]]]) (.con (ι.c 49) (.int 300))))] }
/-- 24 circlenumbers.is_root -/
def circlenumbers_is_root (ι : Ix) : FDef := { nm := "is_root", gl := true, np := 1, iso := false, lam := false, N := ["value", "first", "second", "third", "is_more"], body := [
    .asg (.tp [.nm 1, .nm 2, .nm 3, .nm 4]) (.var 0),
    .ife (.or (.not (.tv (.isa [.bool] (.var 4)))) (.or (.cmp .le (.var 1) (.lit (.int 0))) (.cmp .ne (.bi .gcd [.bi .gcd [.var 1, .var 2], .var 3]) (.lit (.int 1))))) [.ret (.lit (.bl false))] [],
    .ret (.and (.cmp .gt (.call (ι.f 35) [.var 0]) (.lit (.int 0))) (.not (.call (ι.f 25) [.call (ι.f 35) [.var 0]])))] }
/-- 25 circlenumbers.is_squared -/
def circlenumbers_is_squared (ι : Ix) : FDef := { nm := "is_squared", gl := true, np := 1, iso := false, lam := false, N := ["number"], body := [
    .ret (.cmp .eq (.bin .mul (.bi .isqrt [.var 0]) (.bi .isqrt [.var 0])) (.var 0))] }
/-- 26 circlenumbers.is_told_number -/
def circlenumbers_is_told_number (ι : Ix) : FDef := { nm := "is_told_number", gl := true, np := 1, iso := false, lam := false, N := ["value", "one"], body := [
    .ife (.or (.not (.tv (.isa [.tuple] (.var 0)))) (.cmp .nin (.bi .len [.var 0]) (.tup [.lit (.int 2), .lit (.int 4)]))) [.ret (.lit (.bl false))] [],
    .ife (.not (.tv (.bi .all [.lc false (.call (ι.f 110) [.var 1]) (.nm 1) .seq [.sl false (.var 0) [] [.lit (.int 3)]] [] [1]]))) [.ret (.lit (.bl false))] [],
    .ife (.cmp .eq (.bi .len [.var 0]) (.lit (.int 4))) [.ret (.call (ι.f 24) [.var 0])] [],
    .ret (.and (.cmp .eq (.bi .gcd [.ix (.var 0) (.lit (.int 0)), .ix (.var 0) (.lit (.int 1))]) (.lit (.int 1))) (.or (.cmp .gt (.ix (.var 0) (.lit (.int 1))) (.lit (.int 0))) (.cmp .eq (.var 0) (.con (ι.c 113) (.tup [.int 1, .int 0])))))] }
/-- 27 circlenumbers.line_order -/
def circlenumbers_line_order (ι : Ix) : FDef := { nm := "line_order", gl := true, np := 2, iso := false, lam := false, N := ["one", "other"], body := [
    .ife (.and (.cmp .eq (.bi .len [.var 0]) (.lit (.int 2))) (.cmp .eq (.bi .len [.var 1]) (.lit (.int 2)))) [.ret (.call (ι.f 34) [.bin .sub (.bin .mul (.ix (.var 0) (.lit (.int 0))) (.ix (.var 1) (.lit (.int 1)))) (.bin .mul (.ix (.var 1) (.lit (.int 0))) (.ix (.var 0) (.lit (.int 1))))])] [],
    .ife (.cmp .eq (.bi .len [.var 0]) (.lit (.int 2))) [.ret (.neg (.call (ι.f 30) [.var 1, .var 0]))] [],
    .ret (.ife (.cmp .eq (.bi .len [.var 1]) (.lit (.int 2))) (.call (ι.f 30) [.var 0, .var 1]) (.call (ι.f 33) [.var 0, .var 1]))] }
/-- 28 circlenumbers.not_long -/
def circlenumbers_not_long (ι : Ix) : FDef := { nm := "not_long", gl := true, np := 1, iso := false, lam := false, N := ["numbers", "number"], body := [
    .ife (.tv (.bi .any [.lc false (.call (ι.f 23) [.var 1]) (.nm 1) .seq [.var 0] [] [1]])) [.raise 0 [.con (ι.c 30) (.int 4)]] [],
    .ret (.var 0)] }
/-- 29 circlenumbers.number_floor -/
def circlenumbers_number_floor (ι : Ix) : FDef := { nm := "number_floor", gl := true, np := 1, iso := false, lam := false, N := ["number", "root"], body := [
    .ife (.cmp .eq (.bi .len [.var 0]) (.lit (.int 2))) [.ret (.bin .fdiv (.ix (.var 0) (.lit (.int 0))) (.ix (.var 0) (.lit (.int 1))))] [],
    .asg (.nm 1) (.bi .isqrt [.call (ι.f 35) [.var 0]]),
    .ret (.bin .fdiv (.bin .sub (.ife (.tv (.ix (.var 0) (.lit (.int 3)))) (.var 1) (.bin .sub (.neg (.var 1)) (.lit (.int 1)))) (.ix (.var 0) (.lit (.int 1)))) (.bin .mul (.lit (.int 2)) (.ix (.var 0) (.lit (.int 0)))))] }
/-- 30 circlenumbers.root_order -/
def circlenumbers_root_order (ι : Ix) : FDef := { nm := "root_order", gl := true, np := 2, iso := false, lam := false, N := ["root", "fraction", "plain", "top", "bottom"], body := [
    .asg (.tp [.nm 3, .nm 4]) (.var 1),
    .asg (.nm 2) (.bin .sub (.bin .mul (.neg (.ix (.var 0) (.lit (.int 1)))) (.var 4)) (.bin .mul (.bin .mul (.lit (.int 2)) (.ix (.var 0) (.lit (.int 0)))) (.var 3))),
    .ret (.call (ι.f 32) [.var 2, .bin .mul (.call (ι.f 36) [.var 0]) (.var 4), .call (ι.f 35) [.var 0]])] }
/-- 31 circlenumbers.root_told -/
def circlenumbers_root_told (ι : Ix) : FDef := { nm := "root_told", gl := true, np := 4, iso := false, lam := false, N := ["first", "second", "third", "is_more", "square", "part", "sign"], body := [
    .asg (.nm 4) (.bin .sub (.bin .mul (.var 1) (.var 1)) (.bin .mul (.bin .mul (.lit (.int 4)) (.var 0)) (.var 2))),
    .ife (.tv (.call (ι.f 25) [.var 4])) [.asg (.nm 6) (.ife (.cmp .eq (.var 3) (.cmp .gt (.var 0) (.lit (.int 0)))) (.lit (.int 1)) (.neg (.lit (.int 1)))), .ret (.call (ι.f 22) [.bin .sub (.bin .mul (.var 6) (.bi .isqrt [.var 4])) (.var 1), .bin .mul (.lit (.int 2)) (.var 0)])] [],
    .asg (.nm 5) (.bi .gcd [.bi .gcd [.var 0, .var 1], .var 2]),
    .asg (.nm 5) (.ife (.cmp .gt (.var 0) (.lit (.int 0))) (.var 5) (.neg (.var 5))),
    .ret (.tupX [true, false] [.call (ι.f 28) [.tup [.bin .fdiv (.var 0) (.var 5), .bin .fdiv (.var 1) (.var 5), .bin .fdiv (.var 2) (.var 5)]], .var 3])] }
/-- 32 circlenumbers.rooted_sign -/
def circlenumbers_rooted_sign (ι : Ix) : FDef := { nm := "rooted_sign", gl := true, np := 3, iso := false, lam := false, N := ["plain", "times", "square", "one", "other"], body := [
    .par [3, 4] [.call (ι.f 34) [.var 0], .call (ι.f 34) [.var 1]],
    .ife (.cmp .ge (.bin .mul (.var 3) (.var 4)) (.lit (.int 0))) [.ret (.call (ι.f 34) [.bin .add (.var 3) (.var 4)])] [],
    .ret (.ife (.cmp .gt (.bin .mul (.var 0) (.var 0)) (.bin .mul (.bin .mul (.var 1) (.var 1)) (.var 2))) (.var 3) (.var 4))] }
/-- 33 circlenumbers.roots_order -/
def circlenumbers_roots_order (ι : Ix) : FDef := { nm := "roots_order", gl := true, np := 2, iso := false, lam := false, N := ["one", "other", "plain", "measure", "times", "more", "left", "right"], body := [
    .asg (.nm 2) (.bin .sub (.bin .mul (.ix (.var 1) (.lit (.int 1))) (.ix (.var 0) (.lit (.int 0)))) (.bin .mul (.ix (.var 0) (.lit (.int 1))) (.ix (.var 1) (.lit (.int 0))))),
    .par [4, 5] [.bin .mul (.call (ι.f 36) [.var 0]) (.ix (.var 1) (.lit (.int 0))), .bin .mul (.neg (.call (ι.f 36) [.var 1])) (.ix (.var 0) (.lit (.int 0)))],
    .par [6, 7] [.call (ι.f 32) [.var 2, .var 4, .call (ι.f 35) [.var 0]], .call (ι.f 34) [.var 5]],
    .ife (.cmp .eq (.var 6) (.var 7)) [.ret (.var 6)] [],
    .asg (.nm 3) (.bin .sub (.bin .add (.bin .mul (.var 2) (.var 2)) (.bin .mul (.bin .mul (.var 4) (.var 4)) (.call (ι.f 35) [.var 0]))) (.bin .mul (.bin .mul (.var 5) (.var 5)) (.call (ι.f 35) [.var 1]))),
    .ret (.bin .mul (.var 6) (.call (ι.f 32) [.var 3, .bin .mul (.bin .mul (.lit (.int 2)) (.var 2)) (.var 4), .call (ι.f 35) [.var 0]]))] }
/-- 34 circlenumbers.sign_of -/
def circlenumbers_sign_of (ι : Ix) : FDef := { nm := "sign_of", gl := true, np := 1, iso := false, lam := false, N := ["number"], body := [
    .ret (.bin .sub (.bi .int [.cmp .gt (.var 0) (.lit (.int 0))]) (.bi .int [.cmp .lt (.var 0) (.lit (.int 0))]))] }
/-- 35 circlenumbers.square_of -/
def circlenumbers_square_of (ι : Ix) : FDef := { nm := "square_of", gl := true, np := 1, iso := false, lam := false, N := ["root"], body := [
    .ret (.bin .sub (.bin .mul (.ix (.var 0) (.lit (.int 1))) (.ix (.var 0) (.lit (.int 1)))) (.bin .mul (.bin .mul (.lit (.int 4)) (.ix (.var 0) (.lit (.int 0)))) (.ix (.var 0) (.lit (.int 2)))))] }
/-- 36 circlenumbers.times_root -/
def circlenumbers_times_root (ι : Ix) : FDef := { nm := "times_root", gl := true, np := 1, iso := false, lam := false, N := ["root"], body := [
    .ret (.ife (.tv (.ix (.var 0) (.lit (.int 3)))) (.lit (.int 1)) (.neg (.lit (.int 1))))] }
/-- 37 consoles.lexemes_alone -/
def consoles_lexemes_alone (ι : Ix) : FDef := { nm := "lexemes_alone", gl := true, np := 1, iso := false, lam := false, N := ["line", "told", "sort", "lexeme", "place"], body := [
    .bad,
    .ret (.lc false (.var 3) (.tp [.nm 2, .nm 3, .nm 4]) .seq [.var 1] [] [2, 3, 4])] }
/-- 38 cosets.keepers_told -/
def cosets_keepers_told (ι : Ix) : FDef := { nm := "keepers_told", gl := true, np := 2, iso := false, lam := false, N := ["lot", "size", "found", "table", "move"], body := [
    .ife (.cmp .gt (.bi .abs [.var 1]) (.con (ι.c 63) (.int 24))) [.raise 0 [.con (ι.c 13) (.int 2)]] [],
    .asg (.nm 2) (.lst true []),
    .forr (.nm 3) .seq [.call (ι.f 39) [.var 1]] [.asg (.nm 4) (.call (ι.f 145) [.call (ι.f 100) [.var 0, .var 3], .var 0]), .ife (.isN true (.var 4)) [.expr (.meth .append (.var 2) [.call (ι.f 141) [.var 3, .var 4]])] []],
    .ret (.bi .tuple [.var 2])] }
/-- 39 cosets.size_tables -/
def cosets_size_tables (ι : Ix) : FDef := { nm := "size_tables", gl := true, np := 1, iso := false, lam := false, N := ["size", "first", "found", "whole", "last", "sides", "more"], body := [
    .par [2, 3] [.lst true [], .bi .abs [.var 0]],
    .forr (.nm 1) .rng [.lit (.int 1), .bin .add (.var 3) (.lit (.int 1))] [.ife (.cmp .eq (.bin .mod (.var 3) (.var 1)) (.lit (.int 0))) [.asg (.nm 4) (.bin .fdiv (.var 3) (.var 1)), .slc 5 (.lc false (.var 6) (.nm 6) .rng [.var 4] [.cmp .eq (.call (ι.f 136) [.tup [.var 1, .var 6, .var 4]]) (.lit (.int 1))] [6]), .expr (.meth .extend (.var 2) [.lc false (.tup [.var 1, .var 6, .lit (.int 0), .ife (.cmp .gt (.var 0) (.lit (.int 0))) (.var 4) (.neg (.var 4))]) (.nm 6) .seq [.var 5] [] [6]])] []],
    .ret (.var 2)] }
/-- 40 countrules.does_obey -/
def countrules_does_obey (ι : Ix) : FDef := { nm := "does_obey", gl := true, np := 3, iso := false, lam := false, N := ["row", "numbers", "begin", "many", "place", "a", "b"], body := [
    .asg (.nm 3) (.bi .len [.var 1]),
    .forr (.nm 4) .rng [.bi .max [.var 2, .var 3], .bi .len [.var 0]] [.ife (.cmp .ne (.ix (.var 0) (.var 4)) (.bi .sum [.lc false (.bin .mul (.var 5) (.var 6)) (.tp [.nm 5, .nm 6]) .zip [.var 1, .rev false (.sl false (.var 0) [.bin .sub (.var 4) (.var 3)] [.var 4])] [] [5, 6]])) [.ret (.lit (.bl false))] []],
    .ret (.lit (.bl true))] }
/-- 41 countrules.eliminated -/
def countrules_eliminated (ι : Ix) : FDef := { nm := "eliminated", gl := true, np := 2, iso := false, lam := false, N := ["rows", "place", "heads", "head", "late", "k", "row", "a", "b"], body := [
    .slc 2 (.lc false (.var 5) (.tp [.nm 5, .nm 6]) .enum [.var 0] [.cmp .ne (.ix (.var 6) (.var 1)) (.lit (.int 0))] [5, 6]),
    .ife (.cmp .eq (.var 2) (.lst false [])) [.ret (.tup [.lit (.non), .var 0])] [],
    .asg (.tp [.nm 3, .nm 4]) (.tup [.ix (.var 0) (.ix (.var 2) (.lit (.int 0))), .lst true []]),
    .forr (.tp [.nm 5, .nm 6]) .enum [.var 0] [.ife (.cmp .ne (.var 5) (.ix (.var 2) (.lit (.int 0)))) [.expr (.meth .append (.var 4) [.call (ι.f 43) [.lc false (.bin .sub (.bin .mul (.var 7) (.ix (.var 3) (.var 1))) (.bin .mul (.var 8) (.ix (.var 6) (.var 1)))) (.tp [.nm 7, .nm 8]) .zip [.var 6, .var 3] [] [7, 8]]])] []],
    .ret (.tup [.var 3, .var 4])] }
/-- 43 countrules.row_small -/
def countrules_row_small (ι : Ix) : FDef := { nm := "row_small", gl := true, np := 1, iso := false, lam := false, N := ["row", "part", "number"], body := [
    .asg (.nm 1) (.lit (.int 0)),
    .forr (.nm 2) .seq [.var 0] [.asg (.nm 1) (.bi .gcd [.var 1, .var 2])],
    .ret (.ife (.cmp .gt (.var 1) (.lit (.int 1))) (.lc false (.bin .fdiv (.var 2) (.var 1)) (.nm 2) .seq [.var 0] [] [2]) (.var 0))] }
/-- 44 countrules.rule_told -/
def countrules_rule_told (ι : Ix) : FDef := { nm := "rule_told", gl := true, np := 1, iso := false, lam := false, N := ["lot", "views", "begin", "most"], body := [
    .asg (.nm 1) (.bi .len [.ix (.var 0) (.lit (.int 4))]),
    .par [2, 3] [.bin .add (.var 1) (.lit (.int 1)), .bi .min [.var 1, .con (ι.c 57) (.int 24)]],
    .ret (.call (ι.f 42) [.call (ι.f 47) [.var 0, .bin .add (.bin .add (.bin .add (.var 2) (.bin .mul (.lit (.int 2)) (.var 3))) (.var 1)) (.lit (.int 1))], .var 2, .var 3])] }
/-- 46 counts.count_told -/
def counts_count_told (ι : Ix) : FDef := { nm := "count_told", gl := true, np := 2, iso := false, lam := false, N := ["lot", "n", "number"], body := [
    .ife (.cmp .gt (.var 1) (.con (ι.c 66) (.int 3000))) [.raise 0 [.con (ι.c 11) (.int 4)]] [],
    .asg (.nm 2) (.ix (.call (ι.f 47) [.var 0, .bin .add (.var 1) (.lit (.int 1))]) (.var 1)),
    .ife (.cmp .gt (.bi .len [.bi .str [.var 2]]) (.con (ι.c 51) (.int 300))) [.raise 0 [.con (ι.c 11) (.int 4)]] [],
    .ret (.var 2)] }
/-- 47 counts.counts_row -/
def counts_counts_row (ι : Ix) : FDef := { nm := "counts_row", gl := true, np := 2, iso := false, lam := false, N := ["lot", "many", "lap", "zero", "top", "front", "back", "views", "row", "found", "yes", "left", "right"], body := [
    .asg (.tp [.nm 3, .nm 4, .nm 5, .nm 6, .nm 7]) (.var 0),
    .asg (.tp [.nm 8, .nm 9]) (.tup [.lst true [.bin .add (.bi .int [.var 3]) (.bi .int [.var 4])], .lc false (.bi .int [.var 10]) (.tp [.nm 10, .nm 11, .nm 12]) .seq [.var 7] [] [10, 11, 12]]),
    .forr (.nm 2) .rng [.bin .sub (.var 1) (.lit (.int 1))] [.expr (.meth .append (.var 8) [.bin .add (.ix (.var 9) (.var 5)) (.ix (.var 9) (.var 6))]), .asg (.nm 9) (.lc false (.bin .add (.ix (.var 9) (.var 11)) (.ix (.var 9) (.var 12))) (.tp [.nm 10, .nm 11, .nm 12]) .seq [.var 7] [] [10, 11, 12])],
    .ret (.sl false (.var 8) [] [.var 1])] }
/-- 48 edges.classes_alike -/
def edges_classes_alike (ι : Ix) : FDef := { nm := "classes_alike", gl := true, np := 1, iso := false, lam := false, N := ["views", "lap", "found", "many", "kinds", "known", "yes", "left", "right", "k", "kind"], body := [
    .asg (.tp [.nm 2, .nm 3]) (.tup [.lc false (.bi .int [.var 6]) (.tp [.nm 6, .nm 7, .nm 8]) .seq [.var 0] [] [6, 7, 8], .lit (.int 0)]),
    .forr (.nm 1) .rng [.bin .add (.bi .len [.var 0]) (.lit (.int 1))] [.slc 4 (.lc false (.tup [.ix (.var 2) (.var 9), .ix (.var 2) (.var 7), .ix (.var 2) (.var 8)]) (.tp [.nm 9, .tp [.nm 6, .nm 7, .nm 8]]) .enum [.var 0] [] [9, 6, 7, 8]), .asg (.nm 5) (.newd false (.lc false (.tup [.var 10, .var 9]) (.tp [.nm 9, .nm 10]) .enum [.var 4] [] [9, 10])), .ife (.cmp .eq (.bi .len [.var 5]) (.var 3)) [.brk] [], .asg (.tp [.nm 2, .nm 3]) (.tup [.lc false (.ix (.var 5) (.var 10)) (.nm 10) .seq [.var 4] [] [10], .bi .len [.var 5]])],
    .ret (.var 2)] }
/-- 49 edges.edge_runs -/
def edges_edge_runs (ι : Ix) : FDef := { nm := "edge_runs", gl := true, np := 1, iso := false, lam := false, N := ["one", "tries", "ahead", "behind", "first", "table", "last", "told", "step"], body := [
    .par [2, 3] [.call (ι.f 141) [.var 0, .con (ι.c 125) (.tup [.int 0, .int 1, .int (-1), .int 0])], .call (ι.f 141) [.con (ι.c 125) (.tup [.int 0, .int 1, .int (-1), .int 0]), .var 0]],
    .asg (.nm 1) (.lst false [.tup [.tup [], .var 0, .tup []], .tup [.tup [.con (ι.c 123) (.str "turn")], .var 2, .tup []], .tup [.tup [], .var 3, .tup [.con (ι.c 123) (.str "turn")]], .tup [.tup [.con (ι.c 123) (.str "turn")], .call (ι.f 141) [.con (ι.c 125) (.tup [.int 0, .int 1, .int (-1), .int 0]), .var 2], .tup [.con (ι.c 123) (.str "turn")]]]),
    .asg (.tp [.nm 4, .nm 5, .nm 6]) (.ix (.lc false (.var 7) (.nm 7) .seq [.var 1] [.cmp .ge (.bi .min [.ix (.var 7) (.lit (.int 1))]) (.lit (.int 0))] [7]) (.lit (.int 0))),
    .ret (.bin .add (.bin .add (.lc false (.tup [.var 8, .lit (.int 1)]) (.nm 8) .seq [.var 4] [] [8]) (.call (ι.f 51) [.var 5])) (.lc false (.tup [.var 8, .lit (.int 1)]) (.nm 8) .seq [.var 6] [] [8]))] }
/-- 50 edges.map_behind -/
def edges_map_behind (ι : Ix) : FDef := { nm := "map_behind", gl := true, np := 2, iso := false, lam := false, N := ["one", "step", "a", "b", "c", "d"], body := [
    .asg (.tp [.nm 2, .nm 3, .nm 4, .nm 5]) (.var 0),
    .ife (.cmp .eq (.var 1) (.con (ι.c 123) (.str "turn"))) [.ret (.call (ι.f 142) [.tup [.var 3, .neg (.var 2), .var 5, .neg (.var 4)]])] [],
    .ret (.call (ι.f 142) [.ife (.cmp .eq (.var 1) (.con (ι.c 24) (.str "left"))) (.tup [.bin .add (.var 2) (.var 3), .var 3, .bin .add (.var 4) (.var 5), .var 5]) (.tup [.var 2, .bin .add (.var 2) (.var 3), .var 4, .bin .add (.var 4) (.var 5)])])] }
/-- 51 edges.upward_runs -/
def edges_upward_runs (ι : Ix) : FDef := { nm := "upward_runs", gl := true, np := 1, iso := false, lam := false, N := ["one", "found", "a", "b", "c", "d", "many"], body := [
    .asg (.tp [.nm 2, .nm 3, .nm 4, .nm 5]) (.var 0),
    .asg (.nm 1) (.lst true []),
    .whl (.or (.cmp .ne (.var 3) (.lit (.int 0))) (.cmp .ne (.var 4) (.lit (.int 0)))) [.ife (.cmp .eq (.bi .len [.var 1]) (.con (ι.c 60) (.int 200))) [.raise 0 [.con (ι.c 39) (.int 3)]] [], .ife (.and (.cmp .ge (.var 2) (.var 4)) (.cmp .ge (.var 3) (.var 5))) [.asg (.nm 6) (.bin .fdiv (.var 3) (.var 5)), .par [2, 3] [.bin .sub (.var 2) (.bin .mul (.var 6) (.var 4)), .bin .sub (.var 3) (.bin .mul (.var 6) (.var 5))], .expr (.meth .append (.var 1) [.tup [.con (ι.c 95) (.str "right"), .var 6]])] [.asg (.nm 6) (.bin .fdiv (.var 4) (.var 2)), .par [4, 5] [.bin .sub (.var 4) (.bin .mul (.var 6) (.var 2)), .bin .sub (.var 5) (.bin .mul (.var 6) (.var 3))], .expr (.meth .append (.var 1) [.tup [.con (ι.c 24) (.str "left"), .var 6]])]],
    .ret (.var 1)] }
/-- 53 ends.end_heaped -/
def ends_end_heaped (ι : Ix) : FDef := { nm := "end_heaped", gl := true, np := 2, iso := false, lam := false, N := ["edge", "letter", "a", "b", "c", "d"], body := [
    .asg (.tp [.nm 2, .nm 3, .nm 4, .nm 5]) (.var 0),
    .ret (.tup [.ife (.cmp .eq (.var 1) (.con (ι.c 27) (.str "left"))) (.call (ι.f 22) [.var 3, .var 5]) (.call (ι.f 22) [.var 2, .var 4]), .con (ι.c 17) (.str "heaped")])] }
/-- 55 ends.gap_told -/
def ends_gap_told (ι : Ix) : FDef := { nm := "gap_told", gl := true, np := 2, iso := false, lam := false, N := ["lot", "number"], body := [
    .ife (.and (.cmp .ne (.var 1) (.con (ι.c 113) (.tup [.int 1, .int 0]))) (.tv (.call (ι.f 115) [.var 0, .var 1]))) [.ret (.tup [.tup [.var 1, .con (ι.c 111) (.str "taken")], .tup [.var 1, .con (ι.c 111) (.str "taken")]])] [],
    .ret (.tup [.call (ι.f 58) [.var 0, .var 1], .call (ι.f 62) [.var 0, .var 1]])] }
/-- 57 ends.halves -/
def ends_halves (ι : Ix) : FDef := { nm := "halves", gl := true, np := 2, iso := false, lam := false, N := ["lot", "letter", "found"], body := [
    .asg (.nm 2) (.lst false [.tup [.call (ι.f 230) [.con (ι.c 7) (.str "down")], .ix (.var 0) (.lit (.int 3))], .lit (.non), .tup [.con (ι.c 85) (.tup [.int 1, .int 0, .int 0, .int 1]), .ix (.var 0) (.lit (.int 2))]]),
    .ret (.ife (.cmp .eq (.var 1) (.con (ι.c 27) (.str "left"))) (.var 2) (.rev false (.var 2)))] }
/-- 58 ends.last_told -/
def ends_last_told (ι : Ix) : FDef := { nm := "last_told", gl := true, np := 2, iso := false, lam := false, N := ["lot", "number"], body := [
    .ret (.call (ι.f 52) [.var 0, .var 1, .con (ι.c 97) (.str "right")])] }
/-- 59 ends.least_told -/
def ends_least_told (ι : Ix) : FDef := { nm := "least_told", gl := true, np := 1, iso := false, lam := false, N := ["lot"], body := [
    .ret (.call (ι.f 63) [.var 0, .con (ι.c 27) (.str "left"), .lit (.str "below")])] }
/-- 60 ends.middle_taken -/
def ends_middle_taken (ι : Ix) : FDef := { nm := "middle_taken", gl := true, np := 1, iso := false, lam := false, N := ["edge", "a", "b", "c", "d"], body := [
    .asg (.tp [.nm 1, .nm 2, .nm 3, .nm 4]) (.var 0),
    .ret (.tup [.call (ι.f 22) [.bin .add (.var 1) (.var 2), .bin .add (.var 3) (.var 4)], .con (ι.c 111) (.str "taken")])] }
/-- 61 ends.most_told -/
def ends_most_told (ι : Ix) : FDef := { nm := "most_told", gl := true, np := 1, iso := false, lam := false, N := ["lot"], body := [
    .ret (.call (ι.f 63) [.var 0, .con (ι.c 97) (.str "right"), .lit (.str "above")])] }
/-- 62 ends.next_told -/
def ends_next_told (ι : Ix) : FDef := { nm := "next_told", gl := true, np := 2, iso := false, lam := false, N := ["lot", "number"], body := [
    .ret (.call (ι.f 52) [.var 0, .var 1, .con (ι.c 27) (.str "left")])] }
/-- 64 ends.round_heaped -/
def ends_round_heaped (ι : Ix) : FDef := { nm := "round_heaped", gl := true, np := 2, iso := false, lam := false, N := ["edge", "letters", "a", "b", "c", "d", "letter"], body := [
    .asg (.tp [.nm 2, .nm 3, .nm 4, .nm 5]) (.call (ι.f 229) [.con (ι.c 85) (.tup [.int 1, .int 0, .int 0, .int 1]), .lc false (.tup [.var 6, .lit (.int 1)]) (.nm 6) .seq [.var 1] [] [6]]),
    .ret (.tup [.call (ι.f 139) [.var 0, .call (ι.f 31) [.var 4, .bin .sub (.var 5) (.var 2), .neg (.var 3), .lit (.bl true)]], .con (ι.c 17) (.str "heaped")])] }
/-- 66 firsts.are_alike -/
def firsts_are_alike (ι : Ix) : FDef := { nm := "are_alike", gl := true, np := 2, iso := false, lam := false, N := ["one", "other"], body := [
    .ret (.cmp .eq (.var 0) (.var 1))] }
/-- 70 firsts.middle_of -/
def firsts_middle_of (ι : Ix) : FDef := { nm := "middle_of", gl := true, np := 2, iso := false, lam := false, N := ["left", "right"], body := [
    .ret (.tup [.bin .add (.ix (.var 0) (.lit (.int 0))) (.ix (.var 1) (.lit (.int 0))), .bin .add (.ix (.var 0) (.lit (.int 1))) (.ix (.var 1) (.lit (.int 1)))])] }
/-- 73 groups.group_told -/
def groups_group_told (ι : Ix) : FDef := { nm := "group_told", gl := true, np := 1, iso := false, lam := false, N := ["lot", "makers", "twice"], body := [
    .asg (.nm 1) (.call (ι.f 85) [.var 0]),
    .ife (.cmp .eq (.var 1) (.tup [])) [.ret (.lit (.int 1))] [],
    .ife (.cmp .gt (.bi .len [.var 1]) (.lit (.int 1))) [.ret (.lit (.non))] [],
    .asg (.nm 2) (.call (ι.f 141) [.ix (.var 1) (.lit (.int 0)), .ix (.var 1) (.lit (.int 0))]),
    .ife (.cmp .eq (.var 2) (.con (ι.c 87) (.tup [.int 1, .int 0, .int 0, .int 1]))) [.ret (.lit (.int 2))] [],
    .ret (.ife (.cmp .eq (.call (ι.f 141) [.var 2, .ix (.var 1) (.lit (.int 0))]) (.con (ι.c 87) (.tup [.int 1, .int 0, .int 0, .int 1]))) (.lit (.int 3)) (.lit (.non)))] }
/-- 75 grownnames.plain_session -/
def grownnames_plain_session (ι : Ix) : FDef := { nm := "plain_session", gl := true, np := 1, iso := false, lam := false, N := ["session", "found", "item", "plain", "ask", "answer"], body := [
    .asg (.nm 1) (.lst true []),
    .forr (.tp [.nm 2, .nm 3, .nm 4, .nm 5]) .seq [.call (ι.f 74) [.var 0]] [.expr (.meth .extend (.var 1) [.var 3])],
    .ret (.bi .tuple [.var 1])] }
/-- 76 heaps.are_live -/
def heaps_are_live (ι : Ix) : FDef := { nm := "are_live", gl := true, np := 4, iso := false, lam := false, N := ["views", "live", "view", "letter", "one"], body := [
    .ret (.bi .all [.lc false (.ix (.var 1) (.var 4)) (.nm 4) .seq [.call (ι.f 80) [.var 0, .var 2, .var 3, .bi .len [.var 0]]] [] [4]])] }
/-- 77 heaps.heaps_told -/
def heaps_heaps_told (ι : Ix) : FDef := { nm := "heaps_told", gl := true, np := 2, iso := false, lam := false, N := ["lot", "number", "view", "zero", "top", "front", "back", "views", "live", "way"], body := [
    .asg (.tp [.nm 3, .nm 4, .nm 5, .nm 6, .nm 7]) (.var 0),
    .par [8, 9] [.call (ι.f 116) [.var 7], .call (ι.f 239) [.var 1]],
    .ife (.cmp .eq (.bi .len [.var 9]) (.lit (.int 1))) [.ret (.ife (.cmp .eq (.ix (.var 9) (.lit (.int 0))) (.lit (.str "zero"))) (.call (ι.f 83) [.var 0, .var 8]) (.call (ι.f 81) [.var 0, .var 8]))] [],
    .asg (.nm 2) (.call (ι.f 227) [.var 7, .ife (.cmp .eq (.ix (.var 9) (.lit (.int 0))) (.con (ι.c 130) (.str "up"))) (.var 5) (.var 6), .ix (.var 9) (.lit (.int 1))]),
    .ret (.ife (.cmp .eq (.bi .len [.var 9]) (.lit (.int 2))) (.call (ι.f 82) [.var 7, .var 8, .var 2]) (.call (ι.f 79) [.var 7, .var 8, .var 2, .ix (.var 9) (.lit (.int 2))]))] }
/-- 78 heaps.passed_by -/
def heaps_passed_by (ι : Ix) : FDef := { nm := "passed_by", gl := true, np := 4, iso := false, lam := false, N := ["views", "live", "view", "runs", "below", "above", "letter", "many", "line", "one"], body := [
    .asg (.tp [.nm 4, .nm 5]) (.tup [.lit (.bl false), .lit (.bl false)]),
    .forr (.tp [.nm 6, .nm 7]) .seq [.var 3] [.asg (.nm 8) (.call (ι.f 80) [.var 0, .var 2, .var 6, .var 7]), .ife (.cmp .eq (.var 6) (.con (ι.c 25) (.str "left"))) [.asg (.nm 5) (.or (.var 5) (.bi .any [.lc false (.or (.ix (.ix (.var 0) (.var 9)) (.lit (.int 0))) (.ix (.var 1) (.ix (.ix (.var 0) (.var 9)) (.lit (.int 2))))) (.nm 9) .seq [.var 8] [] [9]]))] [.asg (.nm 4) (.or (.var 4) (.bi .any [.lc false (.or (.ix (.ix (.var 0) (.var 9)) (.lit (.int 0))) (.ix (.var 1) (.ix (.ix (.var 0) (.var 9)) (.lit (.int 1))))) (.nm 9) .seq [.var 8] [] [9]]))], .asg (.nm 2) (.call (ι.f 228) [.var 0, .var 2, .var 6, .var 7])],
    .ret (.tup [.var 4, .var 5])] }
/-- 80 heaps.run_views -/
def heaps_run_views (ι : Ix) : FDef := { nm := "run_views", gl := true, np := 4, iso := false, lam := false, N := ["views", "view", "letter", "many", "side", "line"], body := [
    .par [4, 5] [.ix (.con (ι.c 100) (.dic [(.str "left", .int 1), (.str "right", .int 2)])) (.var 2), .lst true []],
    .whl (.and (.cmp .nin (.var 1) (.var 5)) (.cmp .lt (.bi .len [.var 5]) (.var 3))) [.expr (.meth .append (.var 5) [.var 1]), .asg (.nm 1) (.ix (.ix (.var 0) (.var 1)) (.var 4))],
    .ret (.var 5)] }
/-- 81 heaps.top_sides -/
def heaps_top_sides (ι : Ix) : FDef := { nm := "top_sides", gl := true, np := 2, iso := false, lam := false, N := ["lot", "live", "zero", "top", "front", "back", "views"], body := [
    .asg (.tp [.nm 2, .nm 3, .nm 4, .nm 5, .nm 6]) (.var 0),
    .ret (.tup [.call (ι.f 76) [.var 6, .var 1, .var 4, .con (ι.c 96) (.str "right")], .call (ι.f 76) [.var 6, .var 1, .var 5, .con (ι.c 25) (.str "left")]])] }
/-- 82 heaps.view_sides -/
def heaps_view_sides (ι : Ix) : FDef := { nm := "view_sides", gl := true, np := 3, iso := false, lam := false, N := ["views", "live", "view", "yes", "left", "right"], body := [
    .asg (.tp [.nm 3, .nm 4, .nm 5]) (.ix (.var 0) (.var 2)),
    .ret (.tup [.call (ι.f 76) [.var 0, .var 1, .var 4, .con (ι.c 96) (.str "right")], .call (ι.f 76) [.var 0, .var 1, .var 5, .con (ι.c 25) (.str "left")]])] }
/-- 83 heaps.zero_sides -/
def heaps_zero_sides (ι : Ix) : FDef := { nm := "zero_sides", gl := true, np := 2, iso := false, lam := false, N := ["lot", "live", "zero", "top", "front", "back", "views"], body := [
    .asg (.tp [.nm 2, .nm 3, .nm 4, .nm 5, .nm 6]) (.var 0),
    .ret (.tup [.call (ι.f 76) [.var 6, .var 1, .var 5, .con (ι.c 96) (.str "right")], .call (ι.f 76) [.var 6, .var 1, .var 4, .con (ι.c 25) (.str "left")]])] }
/-- 86 kins.common_last -/
def kins_common_last (ι : Ix) : FDef := { nm := "common_last", gl := true, np := 2, iso := false, lam := false, N := ["one", "other", "found", "many"], body := [
    .par [2, 0, 1] [.lit (.int 0), .newl false (.var 0), .newl false (.var 1)],
    .whl (.and (.cmp .ne (.var 0) (.lst false [])) (.and (.cmp .ne (.var 1) (.lst false [])) (.cmp .eq (.ix (.ix (.var 0) (.neg (.lit (.int 1)))) (.lit (.int 0))) (.ix (.ix (.var 1) (.neg (.lit (.int 1)))) (.lit (.int 0)))))) [.asg (.nm 3) (.bi .min [.ix (.ix (.var 0) (.neg (.lit (.int 1)))) (.lit (.int 1)), .ix (.ix (.var 1) (.neg (.lit (.int 1)))) (.lit (.int 1))]), .par [0, 1] [.newl false (.call (ι.f 91) [.var 0, .var 3]), .newl false (.call (ι.f 91) [.var 1, .var 3])], .aug 2 .add (.var 3)],
    .ret (.var 2)] }
/-- 87 kins.edge_at -/
def kins_edge_at (ι : Ix) : FDef := { nm := "edge_at", gl := true, np := 2, iso := false, lam := false, N := ["way", "many", "runs", "side", "head", "around", "late", "edge", "rounds", "rest"], body := [
    .asg (.tp [.nm 3, .nm 4, .nm 5]) (.var 0),
    .par [6, 7] [.bin .sub (.var 1) (.call (ι.f 92) [.var 4]), .call (ι.f 230) [.var 3]],
    .ife (.cmp .le (.var 6) (.lit (.int 0))) [.ret (.call (ι.f 229) [.var 7, .call (ι.f 90) [.var 4, .var 1]])] [],
    .par [8, 9] [.bin .fdiv (.var 6) (.call (ι.f 92) [.var 5]), .bin .mod (.var 6) (.call (ι.f 92) [.var 5])],
    .asg (.nm 2) (.bin .add (.bin .mul (.var 5) (.var 8)) (.call (ι.f 90) [.var 5, .var 9])),
    .ret (.call (ι.f 229) [.call (ι.f 229) [.var 7, .var 4], .var 2])] }
/-- 88 kins.edges_map -/
def kins_edges_map (ι : Ix) : FDef := { nm := "edges_map", gl := true, np := 2, iso := false, lam := false, N := ["one", "other", "a", "b", "c", "d", "e", "f", "g", "h"], body := [
    .asg (.tp [.tp [.nm 2, .nm 3, .nm 4, .nm 5], .tp [.nm 6, .nm 7, .nm 8, .nm 9]]) (.tup [.var 1, .var 0]),
    .ret (.call (ι.f 142) [.tup [.bin .sub (.bin .mul (.var 2) (.var 9)) (.bin .mul (.var 3) (.var 8)), .bin .sub (.bin .mul (.var 3) (.var 6)) (.bin .mul (.var 2) (.var 7)), .bin .sub (.bin .mul (.var 4) (.var 9)) (.bin .mul (.var 5) (.var 8)), .bin .sub (.bin .mul (.var 5) (.var 6)) (.bin .mul (.var 4) (.var 7))]])] }
/-- 90 kins.runs_first -/
def kins_runs_first (ι : Ix) : FDef := { nm := "runs_first", gl := true, np := 2, iso := false, lam := false, N := ["runs", "many"], body := [
    .ret (.call (ι.f 91) [.var 0, .bin .sub (.call (ι.f 92) [.var 0]) (.var 1)])] }
/-- 91 kins.runs_left -/
def kins_runs_left (ι : Ix) : FDef := { nm := "runs_left", gl := true, np := 2, iso := false, lam := false, N := ["runs", "late", "left", "found", "letter", "many"], body := [
    .par [2, 3] [.var 1, .newl true (.var 0)],
    .whl (.cmp .gt (.var 2) (.lit (.int 0))) [.asg (.tp [.nm 4, .nm 5]) (.meth .pop (.var 3) []), .ife (.cmp .gt (.var 5) (.var 2)) [.expr (.meth .append (.var 3) [.tup [.var 4, .bin .sub (.var 5) (.var 2)]])] [], .asg (.nm 2) (.bi .max [.lit (.int 0), .bin .sub (.var 2) (.var 5)])],
    .ret (.bi .tuple [.var 3])] }
/-- 92 kins.steps_many -/
def kins_steps_many (ι : Ix) : FDef := { nm := "steps_many", gl := true, np := 1, iso := false, lam := false, N := ["runs", "letter", "many"], body := [
    .ret (.bi .sum [.lc false (.var 2) (.tp [.nm 1, .nm 2]) .seq [.var 0] [] [1, 2]])] }
/-- 94 kins.turned_by -/
def kins_turned_by (ι : Ix) : FDef := { nm := "turned_by", gl := true, np := 2, iso := false, lam := false, N := ["one", "other", "many"], body := [
    .ife (.cmp .ne (.bi .len [.var 0]) (.bi .len [.var 1])) [.ret (.lit (.non))] [],
    .forr (.nm 2) .rng [.bi .len [.var 0]] [.ife (.cmp .eq (.bin .add (.sl false (.var 0) [.var 2] []) (.sl false (.var 0) [] [.var 2])) (.var 1)) [.ret (.call (ι.f 92) [.sl false (.var 0) [] [.var 2]])] []],
    .ret (.lit (.non))] }
/-- 95 ledlots.behind_left -/
def ledlots_behind_left (ι : Ix) : FDef := { nm := "behind_left", gl := true, np := 1, iso := false, lam := false, N := ["table", "a", "b", "c", "d"], body := [
    .asg (.tp [.nm 1, .nm 2, .nm 3, .nm 4]) (.var 0),
    .ret (.tup [.bin .add (.var 1) (.var 2), .var 2, .bin .add (.var 3) (.var 4), .var 4])] }
/-- 96 ledlots.behind_right -/
def ledlots_behind_right (ι : Ix) : FDef := { nm := "behind_right", gl := true, np := 1, iso := false, lam := false, N := ["table", "a", "b", "c", "d"], body := [
    .asg (.tp [.nm 1, .nm 2, .nm 3, .nm 4]) (.var 0),
    .ret (.tup [.var 1, .bin .add (.var 1) (.var 2), .var 3, .bin .add (.var 3) (.var 4)])] }
/-- 97 ledlots.first_above -/
def ledlots_first_above (ι : Ix) : FDef := { nm := "first_above", gl := true, np := 1, iso := false, lam := false, N := ["table", "first", "number"], body := [
    .asg (.nm 1) (.ix (.lc false (.var 2) (.nm 2) .seq [.var 0] [.cmp .ne (.var 2) (.lit (.int 0))] [2]) (.lit (.int 0))),
    .ret (.ife (.cmp .lt (.var 1) (.lit (.int 0))) (.bi .tuple [.lc false (.neg (.var 2)) (.nm 2) .seq [.var 0] [] [2]]) (.var 0))] }
/-- 98 ledlots.is_settled -/
def ledlots_is_settled (ι : Ix) : FDef := { nm := "is_settled", gl := true, np := 1, iso := false, lam := false, N := ["table", "a", "b", "c", "d"], body := [
    .asg (.tp [.nm 1, .nm 2, .nm 3, .nm 4]) (.var 0),
    .ret (.and (.cmp .ge (.bin .mul (.var 1) (.var 2)) (.lit (.int 0))) (.cmp .ge (.bin .mul (.var 3) (.var 4)) (.lit (.int 0))))] }
/-- 99 ledlots.led_on -/
def ledlots_led_on (ι : Ix) : FDef := { nm := "led_on", gl := true, np := 3, iso := false, lam := false, N := ["views", "table", "view", "a", "b", "c", "d"], body := [
    .asg (.tp [.nm 3, .nm 4, .nm 5, .nm 6]) (.var 1),
    .whl (.or (.and (.cmp .ge (.var 3) (.var 5)) (.cmp .ge (.var 4) (.var 6))) (.and (.cmp .ge (.var 5) (.var 3)) (.cmp .ge (.var 6) (.var 4)))) [.ife (.and (.cmp .ge (.var 3) (.var 5)) (.cmp .ge (.var 4) (.var 6))) [.par [3, 4, 2] [.bin .sub (.var 3) (.var 5), .bin .sub (.var 4) (.var 6), .ix (.ix (.var 0) (.var 2)) (.lit (.int 2))]] [.par [5, 6, 2] [.bin .sub (.var 5) (.var 3), .bin .sub (.var 6) (.var 4), .ix (.ix (.var 0) (.var 2)) (.lit (.int 1))]]],
    .ret (.tup [.tup [.var 3, .var 4, .var 5, .var 6], .var 2])] }
/-- 101 ledlots.middle_in -/
def ledlots_middle_in (ι : Ix) : FDef := { nm := "middle_in", gl := true, np := 2, iso := false, lam := false, N := ["lot", "state", "middle", "view", "a", "b", "c", "d"], body := [
    .asg (.tp [.tp [.nm 4, .nm 5, .nm 6, .nm 7], .nm 3]) (.var 1),
    .asg (.nm 2) (.call (ι.f 22) [.bin .add (.var 4) (.var 5), .bin .add (.var 6) (.var 7)]),
    .ret (.ife (.isN false (.var 3)) (.call (ι.f 115) [.var 0, .var 2]) (.call (ι.f 120) [.ix (.var 0) (.lit (.int 4)), .var 3, .var 2]))] }
/-- 102 ledlots.state_of -/
def ledlots_state_of (ι : Ix) : FDef := { nm := "state_of", gl := true, np := 2, iso := false, lam := false, N := ["lot", "table", "a", "b", "c", "d", "number"], body := [
    .ife (.not (.tv (.call (ι.f 98) [.var 1]))) [.ret (.tup [.call (ι.f 97) [.var 1], .lit (.non)])] [],
    .asg (.tp [.nm 2, .nm 3, .nm 4, .nm 5]) (.lc false (.bi .abs [.var 6]) (.nm 6) .seq [.var 1] [] [6]),
    .ife (.cmp .gt (.bin .mul (.bin .add (.ix (.var 1) (.lit (.int 0))) (.ix (.var 1) (.lit (.int 1)))) (.bin .add (.ix (.var 1) (.lit (.int 2))) (.ix (.var 1) (.lit (.int 3))))) (.lit (.int 0))) [.ret (.call (ι.f 99) [.ix (.var 0) (.lit (.int 4)), .tup [.var 2, .var 3, .var 4, .var 5], .ix (.var 0) (.lit (.int 2))])] [],
    .ret (.call (ι.f 99) [.ix (.var 0) (.lit (.int 4)), .tup [.var 4, .var 5, .var 2, .var 3], .ix (.var 0) (.lit (.int 3))])] }
/-- 103 ledlots.state_view -/
def ledlots_state_view (ι : Ix) : FDef := { nm := "state_view", gl := true, np := 2, iso := false, lam := false, N := ["lot", "state", "table", "view", "left", "right"], body := [
    .asg (.tp [.nm 2, .nm 3]) (.var 1),
    .par [4, 5] [.call (ι.f 95) [.var 2], .call (ι.f 96) [.var 2]],
    .ife (.isN false (.var 3)) [.ret (.tup [.call (ι.f 101) [.var 0, .var 1], .call (ι.f 102) [.var 0, .var 4], .call (ι.f 102) [.var 0, .var 5]])] [],
    .ret (.tup [.call (ι.f 101) [.var 0, .var 1], .call (ι.f 99) [.ix (.var 0) (.lit (.int 4)), .var 4, .var 3], .call (ι.f 99) [.ix (.var 0) (.lit (.int 4)), .var 5, .var 3]])] }
/-- 104 ledlots.turn_of -/
def ledlots_turn_of (ι : Ix) : FDef := { nm := "turn_of", gl := true, np := 1, iso := false, lam := false, N := ["table", "a", "b", "c", "d"], body := [
    .asg (.tp [.nm 1, .nm 2, .nm 3, .nm 4]) (.var 0),
    .ret (.tup [.var 2, .neg (.var 1), .var 4, .neg (.var 3)])] }
/-- 105 lexemes.are_steps -/
def lexemes_are_steps (ι : Ix) : FDef := { nm := "are_steps", gl := true, np := 1, iso := false, lam := false, N := ["value", "one"], body := [
    .ret (.and (.isa [.tuple] (.var 0)) (.and (.chain .lt .le (.lit (.int 0)) (.bi .len [.var 0]) (.con (ι.c 65) (.int 400))) (.bi .all [.lc false (.call (ι.f 109) [.var 1]) (.nm 1) .seq [.var 0] [] [1]])))] }
/-- 106 lexemes.is_count -/
def lexemes_is_count (ι : Ix) : FDef := { nm := "is_count", gl := true, np := 1, iso := false, lam := false, N := ["value"], body := [
    .ret (.and (.call (ι.f 110) [.var 0]) (.chain .le .le (.lit (.int 0)) (.var 0) (.con (ι.c 47) (.int 9999999))))] }
/-- 107 lexemes.is_name -/
def lexemes_is_name (ι : Ix) : FDef := { nm := "is_name", gl := true, np := 1, iso := false, lam := false, N := ["value", "sign"], body := [
    .ife (.or (.not (.tv (.isa [.str] (.var 0)))) (.or (.not (.chain .lt .le (.lit (.int 0)) (.bi .len [.var 0]) (.con (ι.c 53) (.int 12)))) (.or (.cmp .nin (.ix (.var 0) (.lit (.int 0))) (.con (ι.c 104) (.str "abcdefghijklmnopqrstuvwxyz"))) (.cmp .inn (.var 0) (.con (ι.c 21) (.tup [.str "above", .str "again", .str "alone", .str "and", .str "as", .str "back", .str "below", .str "by", .str "count", .str "feed", .str "first", .str "fixed", .str "form", .str "front", .str "gap", .str "group", .str "grow", .str "heaps", .str "hears", .str "in", .str "keepers", .str "keeps", .str "kept", .str "kin", .str "last", .str "least", .str "led", .str "left", .str "less", .str "lot", .str "makers", .str "map", .str "more", .str "most", .str "moves", .str "near", .str "next", .str "not", .str "number", .str "of", .str "or", .str "over", .str "parts", .str "pipe", .str "promise", .str "rank", .str "right", .str "root", .str "rule", .str "same", .str "seen", .str "simplest", .str "size", .str "then", .str "top", .str "turn", .str "undone", .str "way", .str "where", .str "within", .str "yes", .str "zero"])))))) [.ret (.lit (.bl false))] [],
    .ret (.bi .all [.lc false (.cmp .inn (.var 1) (.bin .add (.con (ι.c 104) (.str "abcdefghijklmnopqrstuvwxyz")) (.con (ι.c 9) (.str "0123456789")))) (.nm 1) .seq [.var 0] [] [1]])] }
/-- 108 lexemes.is_number -/
def lexemes_is_number (ι : Ix) : FDef := { nm := "is_number", gl := true, np := 1, iso := false, lam := false, N := ["value"], body := [
    .ret (.and (.call (ι.f 110) [.var 0]) (.cmp .le (.bi .abs [.var 0]) (.con (ι.c 56) (.int 999999999))))] }
/-- 109 lexemes.is_step -/
def lexemes_is_step (ι : Ix) : FDef := { nm := "is_step", gl := true, np := 1, iso := false, lam := false, N := ["value"], body := [
    .ret (.and (.isa [.str] (.var 0)) (.cmp .inn (.var 0) (.con (ι.c 107) (.tup [.str "left", .str "right", .str "turn"]))))] }
/-- 110 lexemes.is_whole -/
def lexemes_is_whole (ι : Ix) : FDef := { nm := "is_whole", gl := true, np := 1, iso := false, lam := false, N := ["value"], body := [
    .ret (.and (.isa [.int] (.var 0)) (.not (.isa [.bool] (.var 0))))] }
/-- 111 lexemes.lexeme_from -/
def lexemes_lexeme_from (ι : Ix) : FDef := { nm := "lexeme_from", gl := true, np := 2, iso := false, lam := false, N := ["text", "place", "end"], body := [
    .asg (.nm 1) (.call (ι.f 114) [.var 0, .var 1, .con (ι.c 5) (.str " \n")]),
    .ife (.cmp .eq (.var 1) (.bi .len [.var 0])) [.ret (.tup [.lit (.str "end"), .lit (.str ""), .var 1])] [],
    .ife (.cmp .inn (.ix (.var 0) (.var 1)) (.con (ι.c 102) (.str ",:;/-"))) [.ret (.tup [.lit (.str "sign"), .ix (.var 0) (.var 1), .var 1])] [],
    .asg (.nm 2) (.call (ι.f 114) [.var 0, .var 1, .bin .add (.con (ι.c 104) (.str "abcdefghijklmnopqrstuvwxyz")) (.con (ι.c 9) (.str "0123456789"))]),
    .ret (.ife (.cmp .gt (.var 2) (.var 1)) (.tup [.lit (.str "word"), .sl false (.var 0) [.var 1] [.var 2], .var 1]) (.tup [.lit (.str "wrong"), .lit (.str ""), .var 1]))] }
/-- 112 lexemes.lexemes -/
def lexemes_lexemes (ι : Ix) : FDef := { nm := "lexemes", gl := true, np := 1, iso := false, lam := false, N := ["text", "found", "here"], body := [
    .par [1, 2] [.lst true [], .call (ι.f 111) [.var 0, .lit (.int 0)]],
    .whl (.cmp .ne (.ix (.var 2) (.lit (.int 0))) (.lit (.str "end"))) [.ife (.cmp .eq (.ix (.var 2) (.lit (.int 0))) (.lit (.str "wrong"))) [.raise 1 [.ix (.var 2) (.lit (.int 2))]] [], .expr (.meth .append (.var 1) [.var 2]), .asg (.nm 2) (.call (ι.f 111) [.var 0, .bin .add (.ix (.var 2) (.lit (.int 2))) (.bi .len [.ix (.var 2) (.lit (.int 1))])])],
    .ret (.var 1)] }
/-- 113 lexemes.number_of -/
def lexemes_number_of (ι : Ix) : FDef := { nm := "number_of", gl := true, np := 2, iso := false, lam := false, N := ["text", "figures", "sign"], body := [
    .ife (.or (.cmp .eq (.var 0) (.lit (.str ""))) (.or (.cmp .gt (.bi .len [.var 0]) (.var 1)) (.not (.tv (.bi .all [.lc false (.cmp .inn (.var 2) (.con (ι.c 9) (.str "0123456789"))) (.nm 2) .seq [.var 0] [] [2]]))))) [.ret (.lit (.non))] [],
    .ret (.ife (.or (.cmp .eq (.var 0) (.lit (.str "0"))) (.cmp .ne (.ix (.var 0) (.lit (.int 0))) (.lit (.str "0")))) (.bi .int [.var 0]) (.lit (.non)))] }
/-- 114 lexemes.run_behind -/
def lexemes_run_behind (ι : Ix) : FDef := { nm := "run_behind", gl := true, np := 3, iso := false, lam := false, N := ["text", "place", "signs"], body := [
    .whl (.and (.cmp .lt (.var 1) (.bi .len [.var 0])) (.cmp .inn (.ix (.var 0) (.var 1)) (.var 2))) [.aug 1 .add (.lit (.int 1))],
    .ret (.var 1)] }
/-- 115 lots.has_fraction -/
def lots_has_fraction (ι : Ix) : FDef := { nm := "has_fraction", gl := true, np := 2, iso := false, lam := false, N := ["lot", "x", "way", "zero", "top", "front", "back", "views", "side", "runs"], body := [
    .asg (.tp [.nm 3, .nm 4, .nm 5, .nm 6, .nm 7]) (.var 0),
    .ife (.cmp .gt (.bi .len [.var 1]) (.lit (.int 2))) [.ret (.lit (.bl false))] [],
    .asg (.nm 2) (.call (ι.f 239) [.var 1]),
    .ife (.cmp .eq (.bi .len [.var 2]) (.lit (.int 1))) [.ret (.ife (.cmp .eq (.ix (.var 2) (.lit (.int 0))) (.lit (.str "zero"))) (.var 3) (.var 4))] [],
    .asg (.tp [.nm 8, .nm 9]) (.var 2),
    .ret (.ix (.ix (.var 7) (.call (ι.f 227) [.var 7, .ife (.cmp .eq (.var 8) (.con (ι.c 130) (.str "up"))) (.var 5) (.var 6), .var 9])) (.lit (.int 0)))] }
/-- 116 lots.live_views -/
def lots_live_views (ι : Ix) : FDef := { nm := "live_views", gl := true, np := 1, iso := false, lam := false, N := ["views", "found", "lap", "yes", "left", "right", "k"], body := [
    .asg (.nm 1) (.lc false (.var 3) (.tp [.nm 3, .nm 4, .nm 5]) .seq [.var 0] [] [3, 4, 5]),
    .forr (.nm 2) .rng [.bi .len [.var 0]] [.asg (.nm 1) (.lc false (.or (.ix (.var 1) (.var 6)) (.or (.ix (.var 1) (.var 4)) (.ix (.var 1) (.var 5)))) (.tp [.nm 6, .tp [.nm 3, .nm 4, .nm 5]]) .enum [.var 0] [] [6, 3, 4, 5])],
    .ret (.var 1)] }
/-- 118 lots.lot_size -/
def lots_lot_size (ι : Ix) : FDef := { nm := "lot_size", gl := true, np := 1, iso := false, lam := false, N := ["lot", "many", "lap", "zero", "top", "front", "back", "views", "is_live", "k", "yes", "left", "right"], body := [
    .asg (.tp [.nm 3, .nm 4, .nm 5, .nm 6, .nm 7]) (.var 0),
    .slc 1 (.lc true (.ife (.tv (.var 8)) (.lit (.non)) (.lit (.int 0))) (.nm 8) .seq [.call (ι.f 116) [.var 7]] [] [8]),
    .forr (.nm 2) .rng [.bi .len [.var 7]] [.forr (.tp [.nm 9, .tp [.nm 10, .nm 11, .nm 12]]) .enum [.var 7] [.ife (.and (.isN false (.ix (.var 1) (.var 9))) (.and (.isN true (.ix (.var 1) (.var 11))) (.isN true (.ix (.var 1) (.var 12))))) [.asg (.sub (.var 1) (.var 9)) (.bin .add (.bin .add (.bi .int [.var 10]) (.ix (.var 1) (.var 11))) (.ix (.var 1) (.var 12)))] []]],
    .ret (.ife (.cmp .inn (.lit (.non)) (.var 1)) (.lit (.non)) (.bin .add (.bin .add (.bin .add (.bi .int [.var 3]) (.bi .int [.var 4])) (.ix (.var 1) (.var 5))) (.ix (.var 1) (.var 6))))] }
/-- 120 lots.view_has -/
def lots_view_has (ι : Ix) : FDef := { nm := "view_has", gl := true, np := 3, iso := false, lam := false, N := ["views", "view", "x"], body := [
    .ret (.ix (.ix (.var 0) (.call (ι.f 227) [.var 0, .var 1, .ix (.call (ι.f 239) [.var 2]) (.lit (.int 1))])) (.lit (.int 0)))] }
/-- 121 lottexts.are_modes -/
def lottexts_are_modes (ι : Ix) : FDef := { nm := "are_modes", gl := true, np := 1, iso := false, lam := false, N := ["value", "one"], body := [
    .ret (.and (.isa [.tuple] (.var 0)) (.and (.chain .lt .le (.lit (.int 0)) (.bi .len [.var 0]) (.con (ι.c 55) (.int 60))) (.bi .all [.lc false (.call (ι.f 124) [.var 1]) (.nm 1) .seq [.var 0] [] [1]])))] }
/-- 122 lottexts.is_head -/
def lottexts_is_head (ι : Ix) : FDef := { nm := "is_head", gl := true, np := 1, iso := false, lam := false, N := ["value", "one"], body := [
    .ife (.or (.not (.tv (.isa [.tuple] (.var 0)))) (.or (.cmp .ne (.bi .len [.var 0]) (.lit (.int 4))) (.not (.tv (.bi .all [.lc false (.isa [.bool] (.var 1)) (.nm 1) .seq [.sl false (.var 0) [] [.lit (.int 2)]] [] [1]]))))) [.ret (.lit (.bl false))] [],
    .ret (.bi .all [.lc false (.call (ι.f 107) [.var 1]) (.nm 1) .seq [.sl false (.var 0) [.lit (.int 2)] []] [] [1]])] }
/-- 123 lottexts.is_joined -/
def lottexts_is_joined (ι : Ix) : FDef := { nm := "is_joined", gl := true, np := 1, iso := false, lam := false, N := ["value"], body := [
    .ife (.or (.not (.tv (.isa [.tuple] (.var 0)))) (.or (.cmp .nin (.bi .len [.var 0]) (.tup [.lit (.int 2), .lit (.int 3)])) (.not (.tv (.isa [.str] (.ix (.var 0) (.lit (.int 0)))))))) [.ret (.lit (.bl false))] [],
    .ife (.not (.tv (.call (ι.f 107) [.ix (.var 0) (.lit (.int 1))]))) [.ret (.lit (.bl false))] [],
    .ife (.cmp .eq (.bi .len [.var 0]) (.lit (.int 2))) [.ret (.or (.cmp .eq (.ix (.var 0) (.lit (.int 0))) (.lit (.str "not"))) (.cmp .inn (.ix (.var 0) (.lit (.int 0))) (.con (ι.c 1) (.tup [.str "near", .str "alone", .str "undone"]))))] [],
    .ret (.ife (.cmp .eq (.ix (.var 0) (.lit (.int 0))) (.lit (.str "seen"))) (.call (ι.f 105) [.ix (.var 0) (.lit (.int 2))]) (.and (.cmp .inn (.ix (.var 0) (.lit (.int 0))) (.con (ι.c 133) (.tup [.str "and", .str "or", .str "by", .str "above", .str "below", .str "then"]))) (.call (ι.f 107) [.ix (.var 0) (.lit (.int 2))])))] }
/-- 124 lottexts.is_mode -/
def lottexts_is_mode (ι : Ix) : FDef := { nm := "is_mode", gl := true, np := 1, iso := false, lam := false, N := ["value", "one"], body := [
    .ife (.or (.not (.tv (.isa [.tuple] (.var 0)))) (.or (.cmp .ne (.bi .len [.var 0]) (.lit (.int 4))) (.not (.tv (.isa [.bool] (.ix (.var 0) (.lit (.int 1)))))))) [.ret (.lit (.bl false))] [],
    .ret (.bi .all [.lc false (.call (ι.f 107) [.var 1]) (.nm 1) .seq [.tupX [false, true] [.ix (.var 0) (.lit (.int 0)), .sl false (.var 0) [.lit (.int 2)] []]] [] [1]])] }
/-- 125 lottexts.is_promised -/
def lottexts_is_promised (ι : Ix) : FDef := { nm := "is_promised", gl := true, np := 1, iso := false, lam := false, N := ["value"], body := [
    .ife (.or (.not (.tv (.isa [.tuple] (.var 0)))) (.or (.cmp .ne (.bi .len [.var 0]) (.lit (.int 3))) (.or (.not (.tv (.isa [.str] (.ix (.var 0) (.lit (.int 0)))))) (.cmp .nin (.ix (.var 0) (.lit (.int 0))) (.con (ι.c 89) (.tup [.str "as", .str "within", .str "keeps", .str "kin"])))))) [.ret (.lit (.bl false))] [],
    .ret (.and (.call (ι.f 107) [.ix (.var 0) (.lit (.int 1))]) (.call (ι.f 107) [.ix (.var 0) (.lit (.int 2))]))] }
/-- 127 lottexts.program_text -/
def lottexts_program_text (ι : Ix) : FDef := { nm := "program_text", gl := true, np := 2, iso := false, lam := false, N := ["head", "modes", "found", "zero", "top", "front", "back", "name", "is_yes", "left", "right"], body := [
    .asg (.tp [.nm 3, .nm 4, .nm 5, .nm 6]) (.var 0),
    .asg (.nm 2) (.lst true [.bin .add (.meth .join (.lit (.str ", ")) [.lst false [.call (ι.f 135) [.lit (.str "zero"), .var 3], .call (ι.f 135) [.lit (.str "top"), .var 4], .bin .add (.lit (.str "front ")) (.var 5), .bin .add (.lit (.str "back ")) (.var 6)]]) (.lit (.str ";"))]),
    .forr (.tp [.nm 7, .nm 8, .nm 9, .nm 10]) .seq [.var 1] [.expr (.meth .append (.var 2) [.bin .add (.bin .add (.bin .add (.bin .add (.bin .add (.call (ι.f 135) [.var 7, .var 8]) (.lit (.str ": left "))) (.var 9)) (.lit (.str ", right "))) (.var 10)) (.lit (.str ";"))])],
    .ret (.meth .join (.lit (.str " ")) [.var 2])] }
/-- 128 lottexts.promised_text -/
def lottexts_promised_text (ι : Ix) : FDef := { nm := "promised_text", gl := true, np := 1, iso := false, lam := false, N := ["value"], body := [
    .ret (.meth .join (.lit (.str " ")) [.lst false [.ix (.var 0) (.lit (.int 1)), .ix (.var 0) (.lit (.int 0)), .ix (.var 0) (.lit (.int 2))]])] }
/-- 135 lottexts.yes_text -/
def lottexts_yes_text (ι : Ix) : FDef := { nm := "yes_text", gl := true, np := 2, iso := false, lam := false, N := ["word", "is_yes"], body := [
    .ret (.ife (.tv (.var 1)) (.bin .add (.bin .add (.var 0) (.lit (.str " "))) (.con (ι.c 135) (.str "yes"))) (.var 0))] }
/-- 136 maps.common_part -/
def maps_common_part (ι : Ix) : FDef := { nm := "common_part", gl := true, np := 1, iso := false, lam := false, N := ["numbers", "found", "number"], body := [
    .asg (.nm 1) (.lit (.int 0)),
    .forr (.nm 2) .seq [.var 0] [.asg (.nm 1) (.bi .gcd [.var 1, .var 2])],
    .ret (.var 1)] }
/-- 137 maps.is_told_map -/
def maps_is_told_map (ι : Ix) : FDef := { nm := "is_told_map", gl := true, np := 1, iso := false, lam := false, N := ["value", "one"], body := [
    .ife (.or (.not (.tv (.isa [.tuple] (.var 0)))) (.or (.cmp .ne (.bi .len [.var 0]) (.lit (.int 4))) (.not (.tv (.bi .all [.lc false (.call (ι.f 110) [.var 1]) (.nm 1) .seq [.var 0] [] [1]]))))) [.ret (.lit (.bl false))] [],
    .ife (.or (.cmp .eq (.call (ι.f 140) [.var 0]) (.lit (.int 0))) (.cmp .ne (.call (ι.f 136) [.var 0]) (.lit (.int 1)))) [.ret (.lit (.bl false))] [],
    .ret (.cmp .gt (.ix (.lc false (.var 1) (.nm 1) .seq [.var 0] [.cmp .ne (.var 1) (.lit (.int 0))] [1]) (.lit (.int 0))) (.lit (.int 0)))] }
/-- 138 maps.map_fixed -/
def maps_map_fixed (ι : Ix) : FDef := { nm := "map_fixed", gl := true, np := 1, iso := true, lam := false, N := ["one", "square", "lesser", "a", "b", "c", "d"], body := [
    .asg (.tp [.nm 3, .nm 4, .nm 5, .nm 6]) (.var 0),
    .ife (.cmp .eq (.var 0) (.con (ι.c 85) (.tup [.int 1, .int 0, .int 0, .int 1]))) [.ret (.lit (.non))] [],
    .ife (.cmp .eq (.var 5) (.lit (.int 0))) [.ret (.ife (.cmp .ne (.var 3) (.var 6)) (.tup [.call (ι.f 22) [.var 4, .bin .sub (.var 6) (.var 3)], .con (ι.c 113) (.tup [.int 1, .int 0])]) (.tup [.con (ι.c 113) (.tup [.int 1, .int 0])]))] [],
    .asg (.nm 1) (.bin .add (.bin .mul (.bin .sub (.var 6) (.var 3)) (.bin .sub (.var 6) (.var 3))) (.bin .mul (.bin .mul (.lit (.int 4)) (.var 4)) (.var 5))),
    .ife (.cmp .lt (.var 1) (.lit (.int 0))) [.ret (.tup [])] [],
    .asg (.nm 2) (.call (ι.f 31) [.var 5, .bin .sub (.var 6) (.var 3), .neg (.var 4), .lit (.bl false)]),
    .ret (.ife (.cmp .eq (.var 1) (.lit (.int 0))) (.tup [.var 2]) (.tup [.var 2, .call (ι.f 31) [.var 5, .bin .sub (.var 6) (.var 3), .neg (.var 4), .lit (.bl true)]]))] }
/-- 139 maps.map_led -/
def maps_map_led (ι : Ix) : FDef := { nm := "map_led", gl := true, np := 2, iso := false, lam := false, N := ["one", "number", "a", "b", "c", "d", "top", "bottom"], body := [
    .ife (.cmp .eq (.bi .len [.var 1]) (.lit (.int 4))) [.ret (.call (ι.f 144) [.var 0, .var 1])] [],
    .asg (.tp [.nm 2, .nm 3, .nm 4, .nm 5]) (.var 0),
    .asg (.tp [.nm 6, .nm 7]) (.var 1),
    .ret (.call (ι.f 22) [.bin .add (.bin .mul (.var 2) (.var 6)) (.bin .mul (.var 3) (.var 7)), .bin .add (.bin .mul (.var 4) (.var 6)) (.bin .mul (.var 5) (.var 7))])] }
/-- 140 maps.map_size -/
def maps_map_size (ι : Ix) : FDef := { nm := "map_size", gl := true, np := 1, iso := false, lam := false, N := ["one"], body := [
    .ret (.bin .sub (.bin .mul (.ix (.var 0) (.lit (.int 0))) (.ix (.var 0) (.lit (.int 3)))) (.bin .mul (.ix (.var 0) (.lit (.int 1))) (.ix (.var 0) (.lit (.int 2)))))] }
/-- 141 maps.map_then -/
def maps_map_then (ι : Ix) : FDef := { nm := "map_then", gl := true, np := 2, iso := true, lam := false, N := ["one", "other", "upper", "a", "b", "c", "d", "first", "second", "third", "fourth"], body := [
    .asg (.tp [.tp [.nm 3, .nm 4, .nm 5, .nm 6], .tp [.nm 7, .nm 8, .nm 9, .nm 10]]) (.tup [.var 1, .var 0]),
    .asg (.nm 2) (.tup [.bin .add (.bin .mul (.var 3) (.var 7)) (.bin .mul (.var 4) (.var 9)), .bin .add (.bin .mul (.var 3) (.var 8)) (.bin .mul (.var 4) (.var 10))]),
    .ret (.call (ι.f 142) [.tupX [true, false, false] [.var 2, .bin .add (.bin .mul (.var 5) (.var 7)) (.bin .mul (.var 6) (.var 9)), .bin .add (.bin .mul (.var 5) (.var 8)) (.bin .mul (.var 6) (.var 10))]])] }
/-- 142 maps.map_told -/
def maps_map_told (ι : Ix) : FDef := { nm := "map_told", gl := true, np := 1, iso := true, lam := false, N := ["table", "first", "part", "number"], body := [
    .asg (.nm 1) (.ix (.lc false (.var 3) (.nm 3) .seq [.var 0] [.cmp .ne (.var 3) (.lit (.int 0))] [3]) (.lit (.int 0))),
    .asg (.nm 2) (.ife (.cmp .gt (.var 1) (.lit (.int 0))) (.call (ι.f 136) [.var 0]) (.neg (.call (ι.f 136) [.var 0]))),
    .ret (.call (ι.f 28) [.bi .tuple [.lc false (.bin .fdiv (.var 3) (.var 2)) (.nm 3) .seq [.var 0] [] [3]]])] }
/-- 143 maps.map_undone -/
def maps_map_undone (ι : Ix) : FDef := { nm := "map_undone", gl := true, np := 1, iso := false, lam := false, N := ["one", "a", "b", "c", "d"], body := [
    .asg (.tp [.nm 1, .nm 2, .nm 3, .nm 4]) (.var 0),
    .ret (.call (ι.f 142) [.tup [.var 4, .neg (.var 2), .neg (.var 3), .var 1]])] }
/-- 144 maps.root_led -/
def maps_root_led (ι : Ix) : FDef := { nm := "root_led", gl := true, np := 2, iso := false, lam := false, N := ["one", "root", "upper", "middle", "lower", "a", "b", "c", "d", "first", "second", "third", "is_more"], body := [
    .asg (.tp [.nm 5, .nm 6, .nm 7, .nm 8]) (.var 0),
    .asg (.tp [.nm 9, .nm 10, .nm 11, .nm 12]) (.var 1),
    .asg (.nm 2) (.bin .add (.bin .sub (.bin .mul (.bin .mul (.var 9) (.var 8)) (.var 8)) (.bin .mul (.bin .mul (.var 10) (.var 7)) (.var 8))) (.bin .mul (.bin .mul (.var 11) (.var 7)) (.var 7))),
    .asg (.nm 3) (.bin .sub (.bin .mul (.var 10) (.bin .add (.bin .mul (.var 5) (.var 8)) (.bin .mul (.var 6) (.var 7)))) (.bin .mul (.lit (.int 2)) (.bin .add (.bin .mul (.bin .mul (.var 9) (.var 6)) (.var 8)) (.bin .mul (.bin .mul (.var 11) (.var 5)) (.var 7))))),
    .asg (.nm 4) (.bin .add (.bin .sub (.bin .mul (.bin .mul (.var 9) (.var 6)) (.var 6)) (.bin .mul (.bin .mul (.var 10) (.var 5)) (.var 6))) (.bin .mul (.bin .mul (.var 11) (.var 5)) (.var 5))),
    .ret (.call (ι.f 31) [.var 2, .var 3, .var 4, .cmp .eq (.var 12) (.cmp .eq (.cmp .gt (.call (ι.f 140) [.var 0]) (.lit (.int 0))) (.cmp .gt (.var 2) (.lit (.int 0))))])] }
/-- 146 namedthings.lot_named -/
def namedthings_lot_named (ι : Ix) : FDef := { nm := "lot_named", gl := true, np := 2, iso := false, lam := false, N := ["session", "name"], body := [
    .ret (.call (ι.f 147) [.var 0, .var 1])] }
/-- 147 namedthings.made_named -/
def namedthings_made_named (ι : Ix) : FDef := { nm := "made_named", gl := true, np := 2, iso := false, lam := false, N := ["session", "name", "piece", "told", "made"], body := [
    .par [3, 4] [.call (ι.f 207) [.var 0, .bi .len [.var 0]], .emp true],
    .forr (.nm 2) .seq [.call (ι.f 204) [.var 0, .var 1]] [.asg (.sub (.var 4) (.var 2)) (.call (ι.f 150) [.var 0, .ix (.var 3) (.var 2), .var 4])],
    .ret (.ix (.var 4) (.var 1))] }
/-- 148 namedthings.map_named -/
def namedthings_map_named (ι : Ix) : FDef := { nm := "map_named", gl := true, np := 2, iso := false, lam := false, N := ["session", "name"], body := [
    .ret (.call (ι.f 147) [.var 0, .var 1])] }
/-- 149 namedthings.number_named -/
def namedthings_number_named (ι : Ix) : FDef := { nm := "number_named", gl := true, np := 2, iso := false, lam := false, N := ["session", "name"], body := [
    .ret (.ix (.ix (.call (ι.f 208) [.var 0, .bi .len [.var 0]]) (.var 1)) (.lit (.int 2)))] }
/-- 150 namedthings.piece_made -/
def namedthings_piece_made (ι : Ix) : FDef := { nm := "piece_made", gl := true, np := 3, iso := false, lam := false, N := ["session", "item", "made", "zero", "top", "front", "back"], body := [
    .ife (.cmp .eq (.ix (.var 1) (.lit (.int 0))) (.lit (.str "map"))) [.ret (.call (ι.f 142) [.ix (.var 1) (.lit (.int 2))])] [],
    .ife (.cmp .eq (.ix (.var 1) (.lit (.int 0))) (.lit (.str "pipe"))) [.ret (.call (ι.f 151) [.var 0, .ix (.var 1) (.lit (.int 2)), .var 2])] [],
    .asg (.tp [.nm 3, .nm 4, .nm 5, .nm 6]) (.ix (.var 1) (.lit (.int 2))),
    .ret (.call (ι.f 119) [.var 3, .var 4, .var 5, .var 6, .ix (.var 1) (.lit (.int 3))])] }
/-- 152 namedthings.stand_named -/
def namedthings_stand_named (ι : Ix) : FDef := { nm := "stand_named", gl := true, np := 2, iso := false, lam := false, N := ["session", "name", "item"], body := [
    .ret (.ix (.lc false (.sl false (.var 2) [.lit (.int 2)] []) (.nm 2) .seq [.var 0] [.and (.cmp .eq (.ix (.var 2) (.lit (.int 0))) (.con (ι.c 106) (.str "stand"))) (.cmp .eq (.ix (.var 2) (.lit (.int 1))) (.var 1))] [2]) (.lit (.int 0)))] }
/-- 155 nearlots.near_views -/
def nearlots_near_views (ι : Ix) : FDef := { nm := "near_views", gl := true, np := 1, iso := false, lam := false, N := ["views", "live", "view"], body := [
    .asg (.nm 1) (.call (ι.f 116) [.var 0]),
    .ret (.lc false (.cmp .inn (.lit (.bl true)) (.call (ι.f 82) [.var 0, .var 1, .var 2])) (.nm 2) .rng [.bi .len [.var 0]] [] [2])] }
/-- 156 numbertexts.is_told_number -/
def numbertexts_is_told_number (ι : Ix) : FDef := { nm := "is_told_number", gl := true, np := 1, iso := false, lam := false, N := ["value", "one"], body := [
    .ife (.or (.not (.tv (.isa [.tuple] (.var 0)))) (.cmp .nin (.bi .len [.var 0]) (.tup [.lit (.int 2), .lit (.int 4)]))) [.ret (.lit (.bl false))] [],
    .ife (.cmp .eq (.bi .len [.var 0]) (.lit (.int 4))) [.ret (.and (.isa [.bool] (.ix (.var 0) (.lit (.int 3)))) (.bi .all [.lc false (.call (ι.f 108) [.var 1]) (.nm 1) .seq [.sl false (.var 0) [] [.lit (.int 3)]] [] [1]]))] [],
    .ret (.and (.call (ι.f 108) [.ix (.var 0) (.lit (.int 0))]) (.and (.call (ι.f 110) [.ix (.var 0) (.lit (.int 1))]) (.chain .le .le (.lit (.int 0)) (.ix (.var 0) (.lit (.int 1))) (.con (ι.c 56) (.int 999999999)))))] }
/-- 157 numbertexts.is_told_table -/
def numbertexts_is_told_table (ι : Ix) : FDef := { nm := "is_told_table", gl := true, np := 1, iso := false, lam := false, N := ["value", "one"], body := [
    .ret (.and (.isa [.tuple] (.var 0)) (.and (.cmp .eq (.bi .len [.var 0]) (.lit (.int 4))) (.bi .all [.lc false (.call (ι.f 108) [.var 1]) (.nm 1) .seq [.var 0] [] [1]])))] }
/-- 158 numbertexts.number_text -/
def numbertexts_number_text (ι : Ix) : FDef := { nm := "number_text", gl := true, np := 1, iso := false, lam := false, N := ["number", "one"], body := [
    .ife (.cmp .eq (.var 0) (.con (ι.c 113) (.tup [.int 1, .int 0]))) [.ret (.con (ι.c 115) (.str "top"))] [],
    .ife (.cmp .eq (.bi .len [.var 0]) (.lit (.int 4))) [.ret (.meth .join (.lit (.str " ")) [.bin .add (.bin .add (.lst false [.con (ι.c 99) (.str "root")]) (.lc false (.bi .str [.var 1]) (.nm 1) .seq [.sl false (.var 0) [] [.lit (.int 3)]] [] [1])) (.lst false [.ife (.tv (.ix (.var 0) (.lit (.int 3)))) (.con (ι.c 46) (.str "more")) (.con (ι.c 28) (.str "less"))])])] [],
    .ret (.ife (.cmp .eq (.ix (.var 0) (.lit (.int 1))) (.lit (.int 1))) (.bi .str [.ix (.var 0) (.lit (.int 0))]) (.bin .add (.bin .add (.bi .str [.ix (.var 0) (.lit (.int 0))]) (.lit (.str "/"))) (.bi .str [.ix (.var 0) (.lit (.int 1))])))] }
/-- 161 numbertexts.table_text -/
def numbertexts_table_text (ι : Ix) : FDef := { nm := "table_text", gl := true, np := 1, iso := false, lam := false, N := ["table", "first", "second", "third", "fourth"], body := [
    .asg (.tp [.nm 1, .nm 2, .nm 3, .nm 4]) (.var 0),
    .ret (.meth .join (.lit (.str " ")) [.lst false [.bi .str [.var 1], .bi .str [.var 2], .lit (.str "over"), .bi .str [.var 3], .bi .str [.var 4]]])] }
/-- 162 pipes.lot_not -/
def pipes_lot_not (ι : Ix) : FDef := { nm := "lot_not", gl := true, np := 1, iso := false, lam := false, N := ["lot", "late", "zero", "top", "front", "back", "views", "yes", "left", "right"], body := [
    .asg (.tp [.nm 2, .nm 3, .nm 4, .nm 5, .nm 6]) (.var 0),
    .asg (.nm 1) (.bi .tuple [.lc false (.tup [.not (.var 7), .var 8, .var 9]) (.tp [.nm 7, .nm 8, .nm 9]) .seq [.var 6] [] [7, 8, 9]]),
    .ret (.tup [.not (.var 2), .not (.var 3), .var 4, .var 5, .var 1])] }
/-- 164 pipes.lots_both -/
def pipes_lots_both (ι : Ix) : FDef := { nm := "lots_both", gl := true, np := 3, iso := false, lam := false, N := ["one", "other", "call", "zero", "top", "front", "back", "view_of"], body := [
    .asg (.tp [.nm 3, .nm 4, .nm 5, .nm 6, .nm 7]) (.call (ι.f 71) [.var 0, .var 1, .var 2]),
    .ret (.call (ι.f 225) [.var 3, .var 4, .var 5, .var 6, .var 7])] }
/-- 166 ranks.going_on -/
def ranks_going_on (ι : Ix) : FDef := { nm := "going_on", gl := true, np := 2, iso := false, lam := false, N := ["views", "kept", "found", "lap", "k", "yes", "left", "right"], body := [
    .asg (.nm 2) (.newl false (.var 1)),
    .forr (.nm 3) .rng [.bi .len [.var 0]] [.asg (.nm 2) (.lc false (.and (.ix (.var 2) (.var 4)) (.or (.ix (.var 2) (.var 6)) (.ix (.var 2) (.var 7)))) (.tp [.nm 4, .tp [.nm 5, .nm 6, .nm 7]]) .enum [.var 0] [] [4, 5, 6, 7])],
    .ret (.var 2)] }
/-- 167 ranks.parting -/
def ranks_parting (ι : Ix) : FDef := { nm := "parting", gl := true, np := 2, iso := false, lam := false, N := ["views", "kept", "found", "lap", "k", "yes", "left", "right"], body := [
    .asg (.nm 2) (.lc false (.and (.ix (.var 1) (.var 4)) (.and (.ix (.var 1) (.var 6)) (.ix (.var 1) (.var 7)))) (.tp [.nm 4, .tp [.nm 5, .nm 6, .nm 7]]) .enum [.var 0] [] [4, 5, 6, 7]),
    .forr (.nm 3) .rng [.bi .len [.var 0]] [.asg (.nm 2) (.lc false (.or (.ix (.var 2) (.var 4)) (.and (.ix (.var 1) (.var 4)) (.or (.ix (.var 2) (.var 6)) (.ix (.var 2) (.var 7))))) (.tp [.nm 4, .tp [.nm 5, .nm 6, .nm 7]]) .enum [.var 0] [] [4, 5, 6, 7])],
    .ret (.var 2)] }
/-- 168 ranks.rank_told -/
def ranks_rank_told (ι : Ix) : FDef := { nm := "rank_told", gl := true, np := 1, iso := false, lam := false, N := ["lot", "views", "kept", "many", "late"], body := [
    .asg (.nm 1) (.ix (.var 0) (.lit (.int 4))),
    .asg (.nm 2) (.call (ι.f 166) [.var 1, .call (ι.f 116) [.var 1]]),
    .forr (.nm 3) .rng [.bin .add (.bi .len [.var 1]) (.lit (.int 1))] [.asg (.nm 4) (.call (ι.f 166) [.var 1, .call (ι.f 167) [.var 1, .var 2]]), .ife (.cmp .eq (.var 4) (.var 2)) [.ret (.tup [.var 3, .cmp .inn (.lit (.bl true)) (.var 2)])] [], .asg (.nm 2) (.var 4)],
    .ret (.tup [.bi .len [.var 1], .lit (.bl false)])] }
/-- 169 reportjudges.are_short -/
def reportjudges_are_short (ι : Ix) : FDef := { nm := "are_short", gl := true, np := 1, iso := false, lam := false, N := ["numbers", "number"], body := [
    .ret (.cmp .le (.bi .max [.lc false (.bi .len [.bi .str [.bi .abs [.var 1]]]) (.nm 1) .seq [.var 0] [] [1]]) (.con (ι.c 54) (.int 300)))] }
/-- 171 reportjudges.due_fault -/
def reportjudges_due_fault (ι : Ix) : FDef := { nm := "due_fault", gl := true, np := 2, iso := false, lam := false, N := ["entry", "due"], body := [
    .ife (.cmp .ne (.bi .repr [.ix (.var 0) (.lit (.int 0))]) (.bi .repr [.var 1])) [.ret (.tup [.lit (.str "answer"), .var 1])] [],
    .ret (.ife (.cmp .eq (.bi .repr [.ix (.var 0) (.lit (.int 1))]) (.lit (.str "()"))) (.lit (.non)) (.tup [.lit (.str "form")]))] }
/-- 172 reportjudges.entry_fault -/
def reportjudges_entry_fault (ι : Ix) : FDef := { nm := "entry_fault", gl := true, np := 4, iso := false, lam := false, N := ["session", "entry", "ask", "answer", "error"], body := [
    .ife (.not (.tv (.call (ι.f 173) [.var 1]))) [.ret (.tup [.lit (.str "form")])] [],
    .ife (.isN false (.var 2)) [.ret (.call (ι.f 171) [.var 1, .var 3])] [],
    .ife (.tv (.call (ι.f 174) [.var 1])) [.ret (.lit (.non))] [],
    .bad] }
/-- 173 reportjudges.is_entry -/
def reportjudges_is_entry (ι : Ix) : FDef := { nm := "is_entry", gl := true, np := 1, iso := false, lam := false, N := ["value"], body := [
    .ife (.or (.not (.tv (.isa [.tuple] (.var 0)))) (.or (.cmp .ne (.bi .len [.var 0]) (.lit (.int 2))) (.or (.not (.tv (.isa [.tuple] (.ix (.var 0) (.lit (.int 0)))))) (.cmp .eq (.ix (.var 0) (.lit (.int 0))) (.tup []))))) [.ret (.lit (.bl false))] [],
    .ret (.isa [.str] (.ix (.ix (.var 0) (.lit (.int 0))) (.lit (.int 0))))] }
/-- 174 reportjudges.is_great -/
def reportjudges_is_great (ι : Ix) : FDef := { nm := "is_great", gl := true, np := 1, iso := false, lam := false, N := ["entry", "answer", "paper"], body := [
    .asg (.tp [.nm 1, .nm 2]) (.var 0),
    .ife (.or (.cmp .ne (.ix (.var 1) (.lit (.int 0))) (.lit (.str "great"))) (.or (.cmp .ne (.bi .len [.var 1]) (.lit (.int 3))) (.or (.not (.tv (.isa [.str] (.ix (.var 1) (.lit (.int 1)))))) (.not (.tv (.call (ι.f 110) [.ix (.var 1) (.lit (.int 2))])))))) [.ret (.lit (.bl false))] [],
    .ret (.and (.cmp .ge (.ix (.var 1) (.lit (.int 2))) (.lit (.int 0))) (.cmp .eq (.bi .repr [.var 2]) (.lit (.str "()"))))] }
/-- 175 reportjudges.judge_report -/
def reportjudges_judge_report (ι : Ix) : FDef := { nm := "judge_report", gl := true, np := 2, iso := false, lam := false, N := ["session", "value", "wrong", "plain", "asked", "k", "fault", "ask", "answer"], body := [
    .asg (.nm 2) (.call (ι.f 17) [.var 0]),
    .ife (.isN true (.var 2)) [.raise 2 [.ix (.var 2) (.lit (.int 0)), .ix (.var 2) (.lit (.int 1)), .ix (.var 2) (.lit (.int 2))]] [],
    .ife (.not (.tv (.isa [.tuple] (.var 1)))) [.ret (.tup [.lit (.str "form")])] [],
    .par [3, 4] [.call (ι.f 75) [.var 0], .call (ι.f 181) [.var 0]],
    .ife (.cmp .ne (.bi .len [.var 1]) (.bi .len [.var 4])) [.ret (.tup [.lit (.str "many"), .bi .len [.var 4]])] [],
    .forr (.tp [.nm 5, .tp [.nm 7, .nm 8]]) .enum [.var 4] [.asg (.nm 6) (.call (ι.f 172) [.var 3, .ix (.var 1) (.var 5), .var 7, .var 8]), .ife (.isN true (.var 6)) [.ret (.tup [.lit (.str "entry"), .var 5, .var 6])] []],
    .ret (.lit (.non))] }
/-- 177 reportjudges.parting_fault -/
def reportjudges_parting_fault (ι : Ix) : FDef := { nm := "parting_fault", gl := true, np := 3, iso := false, lam := false, N := ["session", "ask", "told", "one", "other", "name"], body := [
    .asg (.tp [.nm 3, .nm 4]) (.lc false (.call (ι.f 146) [.var 0, .var 5]) (.nm 5) .seq [.sl false (.var 1) [.lit (.int 1)] [.lit (.int 3)]] [] [5]),
    .ife (.or (.not (.tv (.call (ι.f 26) [.var 2]))) (.or (.cmp .ne (.bi .len [.var 2]) (.lit (.int 2))) (.not (.tv (.call (ι.f 169) [.var 2]))))) [.ret (.tup [.lit (.str "form")])] [],
    .ret (.ife (.cmp .ne (.call (ι.f 115) [.var 3, .var 2]) (.call (ι.f 115) [.var 4, .var 2])) (.lit (.non)) (.tup [.lit (.str "fraction")]))] }
/-- 180 seens.lot_seen -/
def seens_lot_seen (ι : Ix) : FDef := { nm := "lot_seen", gl := true, np := 2, iso := false, lam := false, N := ["lot", "steps", "table", "step", "left_in", "right_in", "front", "back", "views", "yes", "left", "right"], body := [
    .asg (.tp [.nm 4, .nm 5, .nm 6, .nm 7, .nm 8]) (.var 0),
    .asg (.nm 2) (.newl true (.var 8)),
    .forr (.nm 3) .seq [.var 1] [.asg (.tp [.nm 9, .nm 10, .nm 11]) (.ix (.var 2) (.var 6)), .ife (.cmp .eq (.var 3) (.lit (.str "turn"))) [.asg (.tp [.nm 4, .nm 5, .nm 6, .nm 7]) (.tup [.var 5, .var 4, .var 7, .var 6])] [.ife (.cmp .eq (.var 3) (.lit (.str "left"))) [.expr (.meth .append (.var 2) [.tup [.var 5, .var 11, .var 7]]), .par [5, 6, 7] [.var 9, .var 10, .bin .sub (.bi .len [.var 2]) (.lit (.int 1))]] [.expr (.meth .append (.var 2) [.tup [.var 4, .var 7, .var 10]]), .par [4, 6, 7] [.var 9, .var 11, .bin .sub (.bi .len [.var 2]) (.lit (.int 1))]]]],
    .ret (.call (ι.f 117) [.var 4, .var 5, .var 6, .var 7, .var 2])] }
/-- 181 sessionanswers.entered_items -/
def sessionanswers_entered_items (ι : Ix) : FDef := { nm := "entered_items", gl := true, np := 1, iso := false, lam := false, N := ["session", "told", "item", "plain", "ask", "answer"], body := [
    .asg (.nm 1) (.call (ι.f 74) [.var 0]),
    .ret (.lc false (.tup [.var 4, .var 5]) (.tp [.nm 2, .nm 3, .nm 4, .nm 5]) .seq [.var 1] [.or (.isN true (.var 4)) (.isN true (.var 5))] [2, 3, 4, 5])] }
/-- 182 sessionanswers.heard_answer -/
def sessionanswers_heard_answer (ι : Ix) : FDef := { nm := "heard_answer", gl := true, np := 2, iso := false, lam := false, N := ["session", "ask", "lot", "name", "steps"], body := [
    .asg (.tp [.nm 3, .nm 4]) (.call (ι.f 152) [.var 0, .ix (.var 1) (.lit (.int 1))]),
    .asg (.nm 2) (.call (ι.f 146) [.var 0, .var 3]),
    .ife (.cmp .eq (.ix (.var 1) (.lit (.int 0))) (.lit (.str "hears"))) [.ret (.call (ι.f 221) [.var 2, .var 4])] [],
    .ret (.ife (.cmp .eq (.var 4) (.tup [])) (.var 2) (.call (ι.f 180) [.var 2, .var 4]))] }
/-- 183 sessionanswers.kept_answer -/
def sessionanswers_kept_answer (ι : Ix) : FDef := { nm := "kept_answer", gl := true, np := 2, iso := false, lam := false, N := ["session", "name", "told"], body := [
    .asg (.nm 2) (.ix (.ix (.call (ι.f 209) [.var 0, .bi .len [.var 0]]) (.var 1)) (.lit (.int 2))),
    .ife (.cmp .eq (.ix (.var 2) (.lit (.int 0))) (.lit (.str "as"))) [.ret (.call (ι.f 187) [.var 0, .tup [.lit (.str "same"), .ix (.var 2) (.lit (.int 1)), .ix (.var 2) (.lit (.int 2))]])] [],
    .ife (.cmp .eq (.ix (.var 2) (.lit (.int 0))) (.lit (.str "kin"))) [.ret (.isN true (.call (ι.f 184) [.var 0, .tup [.lit (.str "moves"), .ix (.var 2) (.lit (.int 1)), .ix (.var 2) (.lit (.int 2))]]))] [],
    .ret (.call (ι.f 184) [.var 0, .var 2])] }
/-- 185 sessionanswers.map_answer -/
def sessionanswers_map_answer (ι : Ix) : FDef := { nm := "map_answer", gl := true, np := 2, iso := false, lam := false, N := ["session", "ask", "one"], body := [
    .asg (.nm 2) (.call (ι.f 148) [.var 0, .ix (.var 1) (.lit (.int 1))]),
    .ret (.ife (.cmp .eq (.ix (.var 1) (.lit (.int 0))) (.lit (.str "fixed"))) (.call (ι.f 138) [.var 2]) (.call (ι.f 139) [.var 2, .call (ι.f 149) [.var 0, .ix (.var 1) (.lit (.int 2))]]))] }
/-- 187 sessionanswers.same_answer -/
def sessionanswers_same_answer (ι : Ix) : FDef := { nm := "same_answer", gl := true, np := 2, iso := false, lam := false, N := ["session", "ask", "one"], body := [
    .ife (.cmp .eq (.ix (.call (ι.f 202) [.var 0, .bi .len [.var 0]]) (.ix (.var 1) (.lit (.int 1)))) (.con (ι.c 41) (.str "map"))) [.ret (.cmp .eq (.call (ι.f 148) [.var 0, .ix (.var 1) (.lit (.int 1))]) (.call (ι.f 148) [.var 0, .ix (.var 1) (.lit (.int 2))]))] [],
    .asg (.nm 2) (.call (ι.f 146) [.var 0, .ix (.var 1) (.lit (.int 1))]),
    .ret (.call (ι.f 66) [.var 2, .call (ι.f 146) [.var 0, .ix (.var 1) (.lit (.int 2))]])] }
/-- 189 sessionanswers.told_entry -/
def sessionanswers_told_entry (ι : Ix) : FDef := { nm := "told_entry", gl := true, np := 2, iso := false, lam := false, N := ["session", "ask"], body := [
    .ret (.tup [.tup [.lit (.str "told"), .call (ι.f 188) [.var 0, .var 1]], .tup []])] }
/-- 190 sessiontexts.is_item -/
def sessiontexts_is_item (ι : Ix) : FDef := { nm := "is_item", gl := true, np := 1, iso := false, lam := false, N := ["value", "sorts", "sort", "one"], body := [
    .ife (.or (.not (.tv (.isa [.tuple] (.var 0)))) (.or (.cmp .eq (.var 0) (.tup [])) (.not (.tv (.isa [.str] (.ix (.var 0) (.lit (.int 0)))))))) [.ret (.lit (.bl false))] [],
    .ife (.cmp .eq (.ix (.var 0) (.lit (.int 0))) (.con (ι.c 32) (.str "lot"))) [.ret (.and (.cmp .eq (.bi .len [.var 0]) (.lit (.int 4))) (.and (.call (ι.f 107) [.ix (.var 0) (.lit (.int 1))]) (.and (.call (ι.f 122) [.ix (.var 0) (.lit (.int 2))]) (.call (ι.f 121) [.ix (.var 0) (.lit (.int 3))]))))] [],
    .ife (.cmp .nin (.ix (.var 0) (.lit (.int 0))) (.con (ι.c 20) (.dic [(.str "number", .tup [.str "name", .str ":", .str "number"]), (.str "map", .tup [.str "name", .str ":", .str "table"]), (.str "pipe", .tup [.str "name", .str ":", .str "joined"]), (.str "promise", .tup [.str "name", .str ":", .str "promised"]), (.str "in", .tup [.str "name", .str "name"]), (.str "size", .tup [.str "name"]), (.str "form", .tup [.str "name"]), (.str "same", .tup [.str "name", .str "name"]), (.str "within", .tup [.str "name", .str "name"]), (.str "parts", .tup [.str "name", .str "name"]), (.str "first", .tup [.str "name"]), (.str "least", .tup [.str "name"]), (.str "most", .tup [.str "name"]), (.str "next", .tup [.str "name", .str "name"]), (.str "last", .tup [.str "name", .str "name"]), (.str "gap", .tup [.str "name", .str "name"]), (.str "heaps", .tup [.str "name", .str "name"]), (.str "rank", .tup [.str "name"]), (.str "led", .tup [.str "name", .str "name"]), (.str "fixed", .tup [.str "name"]), (.str "way", .tup [.str "name"]), (.str "simplest", .tup [.str "name", .str "name"]), (.str "kin", .tup [.str "name", .str "name"]), (.str "keeps", .tup [.str "name", .str "name"]), (.str "makers", .tup [.str "name"]), (.str "moves", .tup [.str "name", .str "name"]), (.str "keepers", .tup [.str "name", .str "signed"]), (.str "group", .tup [.str "name"]), (.str "count", .tup [.str "name", .str "count"]), (.str "rule", .tup [.str "name"]), (.str "again", .tup [.str "name"]), (.str "kept", .tup [.str "name"]), (.str "grow", .tup [.str "name", .str "of", .str "name"]), (.str "feed", .tup [.str "name", .str "step"]), (.str "hears", .tup [.str "name"]), (.str "where", .tup [.str "name"]), (.str "back", .tup [.str "name"])]))) [.ret (.lit (.bl false))] [],
    .slc 1 (.lc false (.var 2) (.nm 2) .seq [.ix (.con (ι.c 20) (.dic [(.str "number", .tup [.str "name", .str ":", .str "number"]), (.str "map", .tup [.str "name", .str ":", .str "table"]), (.str "pipe", .tup [.str "name", .str ":", .str "joined"]), (.str "promise", .tup [.str "name", .str ":", .str "promised"]), (.str "in", .tup [.str "name", .str "name"]), (.str "size", .tup [.str "name"]), (.str "form", .tup [.str "name"]), (.str "same", .tup [.str "name", .str "name"]), (.str "within", .tup [.str "name", .str "name"]), (.str "parts", .tup [.str "name", .str "name"]), (.str "first", .tup [.str "name"]), (.str "least", .tup [.str "name"]), (.str "most", .tup [.str "name"]), (.str "next", .tup [.str "name", .str "name"]), (.str "last", .tup [.str "name", .str "name"]), (.str "gap", .tup [.str "name", .str "name"]), (.str "heaps", .tup [.str "name", .str "name"]), (.str "rank", .tup [.str "name"]), (.str "led", .tup [.str "name", .str "name"]), (.str "fixed", .tup [.str "name"]), (.str "way", .tup [.str "name"]), (.str "simplest", .tup [.str "name", .str "name"]), (.str "kin", .tup [.str "name", .str "name"]), (.str "keeps", .tup [.str "name", .str "name"]), (.str "makers", .tup [.str "name"]), (.str "moves", .tup [.str "name", .str "name"]), (.str "keepers", .tup [.str "name", .str "signed"]), (.str "group", .tup [.str "name"]), (.str "count", .tup [.str "name", .str "count"]), (.str "rule", .tup [.str "name"]), (.str "again", .tup [.str "name"]), (.str "kept", .tup [.str "name"]), (.str "grow", .tup [.str "name", .str "of", .str "name"]), (.str "feed", .tup [.str "name", .str "step"]), (.str "hears", .tup [.str "name"]), (.str "where", .tup [.str "name"]), (.str "back", .tup [.str "name"])])) (.ix (.var 0) (.lit (.int 0)))] [.cmp .nin (.var 2) (.tup [.con (ι.c 101) (.str ":"), .con (ι.c 134) (.str "of")])] [2]),
    .ife (.cmp .ne (.bi .len [.var 0]) (.bin .add (.bi .len [.var 1]) (.lit (.int 1)))) [.ret (.lit (.bl false))] [],
    .ret (.bi .all [.lc false (.call (ι.f 191) [.var 2, .var 3]) (.tp [.nm 2, .nm 3]) .zip [.var 1, .sl false (.var 0) [.lit (.int 1)] []] [] [2, 3]])] }
/-- 192 sessiontexts.is_session -/
def sessiontexts_is_session (ι : Ix) : FDef := { nm := "is_session", gl := true, np := 1, iso := false, lam := false, N := ["value", "item"], body := [
    .ret (.and (.isa [.tuple] (.var 0)) (.bi .all [.lc false (.call (ι.f 190) [.var 1]) (.nm 1) .seq [.var 0] [] [1]]))] }
/-- 193 sessiontexts.item_text -/
def sessiontexts_item_text (ι : Ix) : FDef := { nm := "item_text", gl := true, np := 1, iso := false, lam := false, N := ["item", "sort", "found", "members"], body := [
    .ife (.cmp .eq (.ix (.var 0) (.lit (.int 0))) (.con (ι.c 32) (.str "lot"))) [.ret (.bin .add (.bin .add (.bin .add (.lit (.str "lot ")) (.ix (.var 0) (.lit (.int 1)))) (.lit (.str ": "))) (.call (ι.f 127) [.ix (.var 0) (.lit (.int 2)), .ix (.var 0) (.lit (.int 3))]))] [],
    .par [2, 3] [.ix (.var 0) (.lit (.int 0)), .newl true (.sl false (.var 0) [.lit (.int 1)] [])],
    .forr (.nm 1) .seq [.ix (.con (ι.c 20) (.dic [(.str "number", .tup [.str "name", .str ":", .str "number"]), (.str "map", .tup [.str "name", .str ":", .str "table"]), (.str "pipe", .tup [.str "name", .str ":", .str "joined"]), (.str "promise", .tup [.str "name", .str ":", .str "promised"]), (.str "in", .tup [.str "name", .str "name"]), (.str "size", .tup [.str "name"]), (.str "form", .tup [.str "name"]), (.str "same", .tup [.str "name", .str "name"]), (.str "within", .tup [.str "name", .str "name"]), (.str "parts", .tup [.str "name", .str "name"]), (.str "first", .tup [.str "name"]), (.str "least", .tup [.str "name"]), (.str "most", .tup [.str "name"]), (.str "next", .tup [.str "name", .str "name"]), (.str "last", .tup [.str "name", .str "name"]), (.str "gap", .tup [.str "name", .str "name"]), (.str "heaps", .tup [.str "name", .str "name"]), (.str "rank", .tup [.str "name"]), (.str "led", .tup [.str "name", .str "name"]), (.str "fixed", .tup [.str "name"]), (.str "way", .tup [.str "name"]), (.str "simplest", .tup [.str "name", .str "name"]), (.str "kin", .tup [.str "name", .str "name"]), (.str "keeps", .tup [.str "name", .str "name"]), (.str "makers", .tup [.str "name"]), (.str "moves", .tup [.str "name", .str "name"]), (.str "keepers", .tup [.str "name", .str "signed"]), (.str "group", .tup [.str "name"]), (.str "count", .tup [.str "name", .str "count"]), (.str "rule", .tup [.str "name"]), (.str "again", .tup [.str "name"]), (.str "kept", .tup [.str "name"]), (.str "grow", .tup [.str "name", .str "of", .str "name"]), (.str "feed", .tup [.str "name", .str "step"]), (.str "hears", .tup [.str "name"]), (.str "where", .tup [.str "name"]), (.str "back", .tup [.str "name"])])) (.ix (.var 0) (.lit (.int 0)))] [.ife (.cmp .eq (.var 1) (.con (ι.c 101) (.str ":"))) [.aug 2 .add (.var 1)] [.aug 2 .add (.bin .add (.lit (.str " ")) (.ife (.cmp .eq (.var 1) (.con (ι.c 134) (.str "of"))) (.var 1) (.call (ι.f 194) [.var 1, .meth .pop (.var 3) [.lit (.int 0)]])))]],
    .ret (.bin .add (.var 2) (.lit (.str ";")))] }
/-- 200 sessiontexts.session_text -/
def sessiontexts_session_text (ι : Ix) : FDef := { nm := "session_text", gl := true, np := 1, iso := false, lam := false, N := ["session", "item"], body := [
    .ret (.meth .join (.lit (.str "")) [.lc false (.bin .add (.call (ι.f 193) [.var 1]) (.lit (.str "\n"))) (.nm 1) .seq [.var 0] [] [1]])] }
/-- 201 sessionuses.kind_of -/
def sessionuses_kind_of (ι : Ix) : FDef := { nm := "kind_of", gl := true, np := 1, iso := false, lam := false, N := ["item"], body := [
    .ife (.cmp .ne (.ix (.var 0) (.lit (.int 0))) (.con (ι.c 83) (.str "pipe"))) [.ret (.ix (.var 0) (.lit (.int 0)))] [],
    .ret (.ife (.cmp .inn (.ix (.ix (.var 0) (.lit (.int 2))) (.lit (.int 0))) (.con (ι.c 43) (.tup [.str "then", .str "undone"]))) (.con (ι.c 41) (.str "map")) (.con (ι.c 32) (.str "lot")))] }
/-- 202 sessionuses.made_kinds -/
def sessionuses_made_kinds (ι : Ix) : FDef := { nm := "made_kinds", gl := true, np := 2, iso := false, lam := false, N := ["session", "number", "made", "name"], body := [
    .asg (.nm 2) (.call (ι.f 206) [.var 0, .var 1, .dix (.con (ι.c 105) (.dic [(.str "number", .tup [.str "number"]), (.str "made", .tup [.str "lot", .str "map", .str "pipe", .str "grow"]), (.str "promise", .tup [.str "promise"])])) (.lit (.str "made"))]),
    .ret (.newd false (.lc false (.tup [.var 3, .call (ι.f 201) [.ix (.var 2) (.var 3)]]) (.nm 3) .seq [.var 2] [] [3]))] }
/-- 203 sessionuses.parts_of -/
def sessionuses_parts_of (ι : Ix) : FDef := { nm := "parts_of", gl := true, np := 1, iso := false, lam := false, N := ["item"], body := [
    .ife (.cmp .ne (.ix (.var 0) (.lit (.int 0))) (.con (ι.c 83) (.str "pipe"))) [.ret (.lst false [])] [],
    .ret (.ife (.cmp .inn (.ix (.ix (.var 0) (.lit (.int 2))) (.lit (.int 0))) (.con (ι.c 77) (.tup [.str "and", .str "or", .str "by", .str "then"]))) (.newl false (.sl false (.ix (.var 0) (.lit (.int 2))) [.lit (.int 1)] [.lit (.int 3)])) (.lst false [.ix (.ix (.var 0) (.lit (.int 2))) (.lit (.int 1))]))] }
/-- 204 sessionuses.pieces -/
def sessionuses_pieces (ι : Ix) : FDef := { nm := "pieces", gl := true, np := 2, iso := false, lam := false, N := ["session", "name", "told", "met", "line", "here", "one", "part"], body := [
    .asg (.tp [.nm 2, .nm 3, .nm 4]) (.tup [.call (ι.f 207) [.var 0, .bi .len [.var 0]], .emp true, .lst true [.var 1]]),
    .whl (.cmp .ne (.var 4) (.lst false [])) [.asg (.nm 5) (.meth .pop (.var 4) []), .asg (.sub (.var 3) (.var 5)) (.lit (.bl true)), .expr (.meth .extend (.var 4) [.lc false (.var 7) (.nm 7) .seq [.call (ι.f 203) [.ix (.var 2) (.var 5)]] [.cmp .nin (.var 7) (.var 3)] [7]])],
    .ret (.lc false (.var 6) (.nm 6) .seq [.var 2] [.cmp .inn (.var 6) (.var 3)] [6])] }
/-- 206 sessionuses.things_ahead -/
def sessionuses_things_ahead (ι : Ix) : FDef := { nm := "things_ahead", gl := true, np := 3, iso := false, lam := false, N := ["session", "number", "words", "item"], body := [
    .ret (.newd false (.lc false (.tup [.ix (.var 3) (.lit (.int 1)), .var 3]) (.nm 3) .seq [.sl false (.var 0) [] [.var 1]] [.cmp .inn (.ix (.var 3) (.lit (.int 0))) (.var 2)] [3]))] }
/-- 207 sessionuses.told_items -/
def sessionuses_told_items (ι : Ix) : FDef := { nm := "told_items", gl := true, np := 2, iso := false, lam := false, N := ["session", "number"], body := [
    .ret (.call (ι.f 206) [.var 0, .var 1, .tup [.con (ι.c 32) (.str "lot"), .con (ι.c 41) (.str "map"), .con (ι.c 83) (.str "pipe")]])] }
/-- 208 sessionuses.told_numbers -/
def sessionuses_told_numbers (ι : Ix) : FDef := { nm := "told_numbers", gl := true, np := 2, iso := false, lam := false, N := ["session", "number"], body := [
    .ret (.call (ι.f 206) [.var 0, .var 1, .tup [.lit (.str "number")]])] }
/-- 209 sessionuses.told_promises -/
def sessionuses_told_promises (ι : Ix) : FDef := { nm := "told_promises", gl := true, np := 2, iso := false, lam := false, N := ["session", "number"], body := [
    .ret (.call (ι.f 206) [.var 0, .var 1, .tup [.lit (.str "promise")]])] }
/-- 210 sides.letters_of -/
def sides_letters_of (ι : Ix) : FDef := { nm := "letters_of", gl := true, np := 1, iso := false, lam := false, N := ["runs", "found", "letter", "many"], body := [
    .ife (.cmp .gt (.bi .sum [.lc false (.var 3) (.tp [.nm 2, .nm 3]) .seq [.var 0] [] [2, 3]]) (.con (ι.c 58) (.int 1200))) [.raise 0 [.con (ι.c 38) (.int 1)]] [],
    .asg (.nm 1) (.lst true []),
    .forr (.tp [.nm 2, .nm 3]) .seq [.var 0] [.expr (.meth .extend (.var 1) [.bin .mul (.lst false [.var 2]) (.var 3)])],
    .ret (.bi .tuple [.var 1])] }
/-- 211 sides.lot_above -/
def sides_lot_above (ι : Ix) : FDef := { nm := "lot_above", gl := true, np := 2, iso := false, lam := false, N := ["lot", "x"], body := [
    .ret (.call (ι.f 213) [.var 0, .var 1, .lit (.bl true)])] }
/-- 212 sides.lot_below -/
def sides_lot_below (ι : Ix) : FDef := { nm := "lot_below", gl := true, np := 2, iso := false, lam := false, N := ["lot", "x"], body := [
    .ret (.call (ι.f 213) [.var 0, .var 1, .lit (.bl false)])] }
/-- 215 simplests.less_by -/
def simplests_less_by (ι : Ix) : FDef := { nm := "less_by", gl := true, np := 2, iso := false, lam := false, N := ["number", "many"], body := [
    .ret (.ife (.cmp .eq (.bi .len [.var 0]) (.lit (.int 2))) (.tup [.bin .sub (.ix (.var 0) (.lit (.int 0))) (.bin .mul (.var 1) (.ix (.var 0) (.lit (.int 1)))), .ix (.var 0) (.lit (.int 1))]) (.call (ι.f 234) [.var 0, .var 1]))] }
/-- 216 simplests.one_by -/
def simplests_one_by (ι : Ix) : FDef := { nm := "one_by", gl := true, np := 1, iso := false, lam := false, N := ["number"], body := [
    .ret (.ife (.cmp .eq (.bi .len [.var 0]) (.lit (.int 2))) (.tup [.ix (.var 0) (.lit (.int 1)), .ix (.var 0) (.lit (.int 0))]) (.call (ι.f 235) [.var 0]))] }
/-- 217 simplests.simplest_above -/
def simplests_simplest_above (ι : Ix) : FDef := { nm := "simplest_above", gl := true, np := 2, iso := false, lam := false, N := ["low", "high", "floors", "many", "top", "bottom"], body := [
    .asg (.nm 2) (.call (ι.f 214) [.var 0, .var 1]),
    .par [4, 5] [.meth .pop (.var 2) [], .lit (.int 1)],
    .forr (.nm 3) .seq [.rev false (.var 2)] [.par [4, 5] [.bin .add (.bin .mul (.var 3) (.var 4)) (.var 5), .var 4]],
    .ret (.call (ι.f 22) [.var 4, .var 5])] }
/-- 218 simplests.simplest_between -/
def simplests_simplest_between (ι : Ix) : FDef := { nm := "simplest_between", gl := true, np := 2, iso := false, lam := false, N := ["one", "other"], body := [
    .ife (.or (.cmp .inn (.con (ι.c 121) (.tup [.int 1, .int 0])) (.tup [.var 0, .var 1])) (.cmp .ge (.call (ι.f 27) [.var 0, .var 1]) (.lit (.int 0)))) [.ret (.lit (.non))] [],
    .ife (.not (.tv (.call (ι.f 232) [.var 0]))) [.ret (.call (ι.f 217) [.var 0, .var 1])] [],
    .ife (.cmp .gt (.call (ι.f 27) [.var 1, .con (ι.c 142) (.tup [.int 0, .int 1])]) (.lit (.int 0))) [.ret (.con (ι.c 142) (.tup [.int 0, .int 1]))] [],
    .ret (.call (ι.f 139) [.con (ι.c 124) (.tup [.int 0, .int 1, .int (-1), .int 0]), .call (ι.f 217) [.call (ι.f 139) [.con (ι.c 124) (.tup [.int 0, .int 1, .int (-1), .int 0]), .var 0], .call (ι.f 139) [.con (ι.c 124) (.tup [.int 0, .int 1, .int (-1), .int 0]), .var 1]]])] }
/-- 219 stands.edge_table -/
def stands_edge_table (ι : Ix) : FDef := { nm := "edge_table", gl := true, np := 1, iso := false, lam := false, N := ["steps", "step", "a", "b", "c", "d"], body := [
    .asg (.tp [.nm 2, .nm 3, .nm 4, .nm 5]) (.tup [.lit (.int 1), .lit (.int 0), .lit (.int 0), .lit (.int 1)]),
    .forr (.nm 1) .seq [.var 0] [.ife (.cmp .eq (.var 1) (.lit (.str "left"))) [.par [2, 4] [.bin .add (.var 2) (.var 3), .bin .add (.var 4) (.var 5)]] [.ife (.cmp .eq (.var 1) (.lit (.str "right"))) [.par [3, 5] [.bin .add (.var 2) (.var 3), .bin .add (.var 4) (.var 5)]] [.asg (.tp [.nm 2, .nm 3, .nm 4, .nm 5]) (.tup [.var 3, .neg (.var 2), .var 5, .neg (.var 4)])]]],
    .ret (.tup [.var 2, .var 3, .var 4, .var 5])] }
/-- 220 stands.edge_told -/
def stands_edge_told (ι : Ix) : FDef := { nm := "edge_told", gl := true, np := 1, iso := false, lam := false, N := ["steps", "a", "b", "c", "d"], body := [
    .asg (.tp [.nm 1, .nm 2, .nm 3, .nm 4]) (.call (ι.f 219) [.var 0]),
    .ret (.tup [.call (ι.f 22) [.var 2, .var 4], .call (ι.f 22) [.var 1, .var 3]])] }
/-- 221 stands.heard_told -/
def stands_heard_told (ι : Ix) : FDef := { nm := "heard_told", gl := true, np := 2, iso := false, lam := false, N := ["lot", "steps", "middle", "a", "b", "c", "d", "left", "right"], body := [
    .asg (.tp [.nm 3, .nm 4, .nm 5, .nm 6]) (.call (ι.f 219) [.var 1]),
    .asg (.tp [.nm 7, .nm 8]) (.call (ι.f 220) [.var 1]),
    .asg (.nm 2) (.call (ι.f 22) [.bin .add (.var 3) (.var 4), .bin .add (.var 5) (.var 6)]),
    .ret (.tup [.var 7, .var 8, .tup [.call (ι.f 115) [.var 0, .var 7], .call (ι.f 115) [.var 0, .var 2], .call (ι.f 115) [.var 0, .var 8]]])] }
/-- 222 tellback.back_item -/
def tellback_back_item (ι : Ix) : FDef := { nm := "back_item", gl := true, np := 2, iso := false, lam := false, N := ["name", "lot", "modes", "zero", "top", "front", "back", "views", "k", "yes", "left", "right"], body := [
    .asg (.tp [.nm 3, .nm 4, .nm 5, .nm 6, .nm 7]) (.var 1),
    .slc 2 (.lc false (.tup [.call (ι.f 223) [.var 8], .var 9, .call (ι.f 223) [.var 10], .call (ι.f 223) [.var 11]]) (.tp [.nm 8, .tp [.nm 9, .nm 10, .nm 11]]) .enum [.var 7] [] [8, 9, 10, 11]),
    .ret (.tup [.lit (.str "lot"), .var 0, .tup [.var 3, .var 4, .call (ι.f 223) [.var 5], .call (ι.f 223) [.var 6]], .bi .tuple [.var 2]])] }
/-- 223 tellback.view_name -/
def tellback_view_name (ι : Ix) : FDef := { nm := "view_name", gl := true, np := 1, iso := false, lam := false, N := ["number"], body := [
    .ret (.bin .add (.lit (.str "z")) (.bi .str [.var 0]))] }
/-- 224 views.classes_of -/
def views_classes_of (ι : Ix) : FDef := { nm := "classes_of", gl := true, np := 1, iso := false, lam := false, N := ["views", "lap", "found", "many", "known", "late", "number", "kind", "yes", "left", "right"], body := [
    .par [2, 3] [.lc false (.bi .int [.var 8]) (.tp [.nm 8, .nm 9, .nm 10]) .seq [.var 0] [] [8, 9, 10], .lit (.int 0)],
    .forr (.nm 1) .rng [.bin .add (.bi .len [.var 0]) (.lit (.int 1))] [.par [4, 5] [.emp true, .lst true []], .forr (.tp [.nm 6, .tp [.nm 8, .nm 9, .nm 10]]) .enum [.var 0] [.asg (.nm 7) (.tup [.ix (.var 2) (.var 6), .ix (.var 2) (.var 9), .ix (.var 2) (.var 10)]), .ife (.cmp .nin (.var 7) (.var 4)) [.asg (.sub (.var 4) (.var 7)) (.bi .len [.var 4])] [], .expr (.meth .append (.var 5) [.ix (.var 4) (.var 7)])], .ife (.cmp .gt (.bi .len [.var 4]) (.con (ι.c 68) (.int 60))) [.raise 0 [.con (ι.c 40) (.int 0)]] [], .ife (.cmp .eq (.bi .len [.var 4]) (.var 3)) [.ret (.var 2)] [], .par [2, 3] [.var 5, .bi .len [.var 4]]],
    .ret (.var 2)] }
/-- 227 views.view_along -/
def views_view_along (ι : Ix) : FDef := { nm := "view_along", gl := true, np := 3, iso := false, lam := false, N := ["views", "view", "runs", "found", "letter", "many"], body := [
    .asg (.nm 3) (.var 1),
    .forr (.tp [.nm 4, .nm 5]) .seq [.var 2] [.asg (.nm 3) (.call (ι.f 228) [.var 0, .var 3, .var 4, .var 5])],
    .ret (.var 3)] }
/-- 228 views.view_behind -/
def views_view_behind (ι : Ix) : FDef := { nm := "view_behind", gl := true, np := 4, iso := false, lam := false, N := ["views", "view", "letter", "many", "begin", "side", "line", "known"], body := [
    .par [5, 6, 7] [.ix (.con (ι.c 100) (.dic [(.str "left", .int 1), (.str "right", .int 2)])) (.var 2), .lst true [], .emp true],
    .whl (.cmp .nin (.var 1) (.var 7)) [.asg (.sub (.var 7) (.var 1)) (.bi .len [.var 6]), .expr (.meth .append (.var 6) [.var 1]), .asg (.nm 1) (.ix (.ix (.var 0) (.var 1)) (.var 5))],
    .asg (.nm 4) (.ix (.var 7) (.var 1)),
    .ife (.cmp .lt (.var 3) (.bi .len [.var 6])) [.ret (.ix (.var 6) (.var 3))] [],
    .ret (.ix (.var 6) (.bin .add (.var 4) (.bin .mod (.bin .sub (.var 3) (.var 4)) (.bin .sub (.bi .len [.var 6]) (.var 4)))))] }
/-- 229 ways.edge_behind -/
def ways_edge_behind (ι : Ix) : FDef := { nm := "edge_behind", gl := true, np := 2, iso := false, lam := false, N := ["edge", "runs", "a", "b", "c", "d", "letter", "many"], body := [
    .asg (.tp [.nm 2, .nm 3, .nm 4, .nm 5]) (.var 0),
    .forr (.tp [.nm 6, .nm 7]) .seq [.var 1] [.ife (.cmp .eq (.var 6) (.con (ι.c 27) (.str "left"))) [.par [2, 4] [.bin .add (.var 2) (.bin .mul (.var 7) (.var 3)), .bin .add (.var 4) (.bin .mul (.var 7) (.var 5))]] [.par [3, 5] [.bin .add (.var 3) (.bin .mul (.var 7) (.var 2)), .bin .add (.var 5) (.bin .mul (.var 7) (.var 4))]]],
    .ret (.tup [.var 2, .var 3, .var 4, .var 5])] }
/-- 230 ways.first_edge -/
def ways_first_edge (ι : Ix) : FDef := { nm := "first_edge", gl := true, np := 1, iso := false, lam := false, N := ["side"], body := [
    .ret (.ife (.cmp .eq (.var 0) (.con (ι.c 7) (.str "down"))) (.tup [.lit (.int 0), .neg (.lit (.int 1)), .lit (.int 1), .lit (.int 0)]) (.tup [.lit (.int 1), .lit (.int 0), .lit (.int 0), .lit (.int 1)]))] }
/-- 231 ways.fraction_runs -/
def ways_fraction_runs (ι : Ix) : FDef := { nm := "fraction_runs", gl := true, np := 2, iso := true, lam := false, N := ["top", "bottom", "runs", "many"], body := [
    .asg (.nm 2) (.lst true []),
    .whl (.cmp .ne (.var 0) (.var 1)) [.ife (.cmp .gt (.var 0) (.var 1)) [.asg (.nm 3) (.bin .fdiv (.bin .sub (.var 0) (.lit (.int 1))) (.var 1)), .expr (.meth .append (.call (ι.f 233) [.var 2]) [.tup [.con (ι.c 97) (.str "right"), .var 3]]), .aug 0 .sub (.bin .mul (.var 3) (.var 1))] [.asg (.nm 3) (.bin .fdiv (.bin .sub (.var 1) (.lit (.int 1))) (.var 0)), .expr (.meth .append (.call (ι.f 233) [.var 2]) [.tup [.con (ι.c 27) (.str "left"), .var 3]]), .aug 1 .sub (.bin .mul (.var 3) (.var 0))]],
    .ret (.bi .tuple [.var 2])] }
/-- 232 ways.is_below -/
def ways_is_below (ι : Ix) : FDef := { nm := "is_below", gl := true, np := 1, iso := false, lam := false, N := ["number"], body := [
    .ret (.cmp .lt (.call (ι.f 29) [.var 0]) (.lit (.int 0)))] }
/-- 233 ways.not_long -/
def ways_not_long (ι : Ix) : FDef := { nm := "not_long", gl := true, np := 1, iso := false, lam := false, N := ["runs"], body := [
    .ife (.cmp .ge (.bi .len [.var 0]) (.con (ι.c 59) (.int 200))) [.raise 0 [.con (ι.c 31) (.int 3)]] [],
    .ret (.var 0)] }
/-- 234 ways.root_less -/
def ways_root_less (ι : Ix) : FDef := { nm := "root_less", gl := true, np := 2, iso := false, lam := false, N := ["root", "many", "first", "second", "third", "is_more"], body := [
    .asg (.tp [.nm 2, .nm 3, .nm 4, .nm 5]) (.var 0),
    .ret (.tup [.var 2, .bin .add (.var 3) (.bin .mul (.bin .mul (.lit (.int 2)) (.var 1)) (.var 2)), .bin .add (.bin .add (.var 4) (.bin .mul (.var 1) (.var 3))) (.bin .mul (.bin .mul (.var 1) (.var 1)) (.var 2)), .var 5])] }
/-- 235 ways.root_over -/
def ways_root_over (ι : Ix) : FDef := { nm := "root_over", gl := true, np := 1, iso := false, lam := false, N := ["root", "first", "second", "third", "is_more"], body := [
    .asg (.tp [.nm 1, .nm 2, .nm 3, .nm 4]) (.var 0),
    .ife (.cmp .lt (.var 3) (.lit (.int 0))) [.ret (.tup [.neg (.var 3), .neg (.var 2), .neg (.var 1), .lit (.bl true)])] [],
    .ret (.tup [.var 3, .var 2, .var 1, .not (.var 4)])] }
/-- 236 ways.root_runs -/
def ways_root_runs (ι : Ix) : FDef := { nm := "root_runs", gl := true, np := 1, iso := false, lam := false, N := ["root", "begin", "known", "runs", "run"], body := [
    .par [2, 3] [.emp true, .lst true []],
    .whl (.cmp .nin (.var 0) (.var 2)) [.asg (.sub (.var 2) (.var 0)) (.bi .len [.var 3]), .asg (.tp [.nm 4, .nm 0]) (.call (ι.f 237) [.var 0]), .expr (.meth .append (.call (ι.f 233) [.var 3]) [.var 4])],
    .asg (.nm 1) (.ix (.var 2) (.var 0)),
    .ret (.tup [.bi .tuple [.sl false (.var 3) [] [.var 1]], .bi .tuple [.sl false (.var 3) [.var 1] []]])] }
/-- 237 ways.run_from -/
def ways_run_from (ι : Ix) : FDef := { nm := "run_from", gl := true, np := 1, iso := false, lam := false, N := ["root", "many", "over"], body := [
    .asg (.nm 1) (.call (ι.f 29) [.var 0]),
    .ife (.cmp .gt (.var 1) (.lit (.int 0))) [.ret (.tup [.tup [.con (ι.c 97) (.str "right"), .var 1], .call (ι.f 234) [.var 0, .var 1]])] [],
    .asg (.nm 2) (.call (ι.f 235) [.var 0]),
    .asg (.nm 1) (.call (ι.f 29) [.var 2]),
    .ret (.tup [.tup [.con (ι.c 27) (.str "left"), .var 1], .call (ι.f 235) [.call (ι.f 234) [.var 2, .var 1]]])] }
/-- 238 ways.way_number -/
def ways_way_number (ι : Ix) : FDef := { nm := "way_number", gl := true, np := 1, iso := true, lam := false, N := ["way", "a", "b", "c", "d", "e", "f", "g", "h"], body := [
    .ife (.cmp .eq (.bi .len [.var 0]) (.lit (.int 1))) [.ret (.ife (.cmp .eq (.var 0) (.con (ι.c 138) (.tup [.str "zero"]))) (.tup [.lit (.int 0), .lit (.int 1)]) (.tup [.lit (.int 1), .lit (.int 0)]))] [],
    .asg (.tp [.nm 1, .nm 2, .nm 3, .nm 4]) (.call (ι.f 229) [.call (ι.f 230) [.ix (.var 0) (.lit (.int 0))], .ix (.var 0) (.lit (.int 1))]),
    .ife (.cmp .eq (.bi .len [.var 0]) (.lit (.int 2))) [.ret (.call (ι.f 22) [.bin .add (.var 1) (.var 2), .bin .add (.var 3) (.var 4)])] [],
    .asg (.tp [.nm 5, .nm 6, .nm 7, .nm 8]) (.call (ι.f 229) [.tup [.lit (.int 1), .lit (.int 0), .lit (.int 0), .lit (.int 1)], .ix (.var 0) (.lit (.int 2))]),
    .ret (.call (ι.f 139) [.tup [.var 1, .var 2, .var 3, .var 4], .call (ι.f 31) [.var 7, .bin .sub (.var 8) (.var 5), .neg (.var 6), .lit (.bl true)]])] }
/-- 239 ways.way_told -/
def ways_way_told (ι : Ix) : FDef := { nm := "way_told", gl := true, np := 1, iso := true, lam := false, N := ["number", "side", "above", "head", "around"], body := [
    .ife (.cmp .eq (.ix (.var 0) (.lit (.int 0))) (.lit (.int 0))) [.ret (.con (ι.c 138) (.tup [.str "zero"]))] [],
    .ife (.and (.cmp .eq (.ix (.var 0) (.lit (.int 1))) (.lit (.int 0))) (.cmp .eq (.bi .len [.var 0]) (.lit (.int 2)))) [.ret (.con (ι.c 114) (.tup [.str "top"]))] [],
    .asg (.nm 1) (.ife (.tv (.call (ι.f 232) [.var 0])) (.con (ι.c 7) (.str "down")) (.con (ι.c 132) (.str "up"))),
    .asg (.nm 2) (.ife (.cmp .eq (.var 1) (.con (ι.c 7) (.str "down"))) (.call (ι.f 139) [.con (ι.c 124) (.tup [.int 0, .int 1, .int (-1), .int 0]), .var 0]) (.var 0)),
    .ife (.cmp .eq (.bi .len [.var 0]) (.lit (.int 2))) [.ret (.tup [.var 1, .call (ι.f 231) [.ix (.var 2) (.lit (.int 0)), .ix (.var 2) (.lit (.int 1))]])] [],
    .asg (.tp [.nm 3, .nm 4]) (.call (ι.f 236) [.var 2]),
    .ret (.tup [.var 1, .var 3, .var 4])] }
def tab (ι : Ix) : List (Option FDef) := [some (___wall ι), some (answertexts_answer_text ι), some (answertexts_blanks ι), some (answertexts_commas ι), some (answertexts_heard_text ι), some (answertexts_limit_text ι), some (answertexts_lot_text ι), some (answertexts_one_text ι), some (answertexts_semicolons ι), some (answertexts_some_text ι), some (answertexts_told_text ι), none, some (askuses_is_told_least ι), some (askuses_lacking ι), none, none, none, some (askuses_wrong_item ι), some (askuses_wrong_lot ι), none, none, some (askuses_wrong_value ι), some (circlenumbers_fraction_told ι), some (circlenumbers_is_long ι), some (circlenumbers_is_root ι), some (circlenumbers_is_squared ι), some (circlenumbers_is_told_number ι), some (circlenumbers_line_order ι), some (circlenumbers_not_long ι), some (circlenumbers_number_floor ι), some (circlenumbers_root_order ι), some (circlenumbers_root_told ι), some (circlenumbers_rooted_sign ι), some (circlenumbers_roots_order ι), some (circlenumbers_sign_of ι), some (circlenumbers_square_of ι), some (circlenumbers_times_root ι), some (consoles_lexemes_alone ι), some (cosets_keepers_told ι), some (cosets_size_tables ι), some (countrules_does_obey ι), some (countrules_eliminated ι), none, some (countrules_row_small ι), some (countrules_rule_told ι), none, some (counts_count_told ι), some (counts_counts_row ι), some (edges_classes_alike ι), some (edges_edge_runs ι), some (edges_map_behind ι), some (edges_upward_runs ι), none, some (ends_end_heaped ι), none, some (ends_gap_told ι), none, some (ends_halves ι), some (ends_last_told ι), some (ends_least_told ι), some (ends_middle_taken ι), some (ends_most_told ι), some (ends_next_told ι), none, some (ends_round_heaped ι), none, some (firsts_are_alike ι), none, none, none, some (firsts_middle_of ι), none, none, some (groups_group_told ι), none, some (grownnames_plain_session ι), some (heaps_are_live ι), some (heaps_heaps_told ι), some (heaps_passed_by ι), none, some (heaps_run_views ι), some (heaps_top_sides ι), some (heaps_view_sides ι), some (heaps_zero_sides ι), none, none, some (kins_common_last ι), some (kins_edge_at ι), some (kins_edges_map ι), none, some (kins_runs_first ι), some (kins_runs_left ι), some (kins_steps_many ι), none, some (kins_turned_by ι), some (ledlots_behind_left ι), some (ledlots_behind_right ι), some (ledlots_first_above ι), some (ledlots_is_settled ι), some (ledlots_led_on ι), none, some (ledlots_middle_in ι), some (ledlots_state_of ι), some (ledlots_state_view ι), some (ledlots_turn_of ι), some (lexemes_are_steps ι), some (lexemes_is_count ι), some (lexemes_is_name ι), some (lexemes_is_number ι), some (lexemes_is_step ι), some (lexemes_is_whole ι), some (lexemes_lexeme_from ι), some (lexemes_lexemes ι), some (lexemes_number_of ι), some (lexemes_run_behind ι), some (lots_has_fraction ι), some (lots_live_views ι), none, some (lots_lot_size ι), none, some (lots_view_has ι), some (lottexts_are_modes ι), some (lottexts_is_head ι), some (lottexts_is_joined ι), some (lottexts_is_mode ι), some (lottexts_is_promised ι), none, some (lottexts_program_text ι), some (lottexts_promised_text ι), none, none, none, none, none, none, some (lottexts_yes_text ι), some (maps_common_part ι), some (maps_is_told_map ι), some (maps_map_fixed ι), some (maps_map_led ι), some (maps_map_size ι), some (maps_map_then ι), some (maps_map_told ι), some (maps_map_undone ι), some (maps_root_led ι), none, some (namedthings_lot_named ι), some (namedthings_made_named ι), some (namedthings_map_named ι), some (namedthings_number_named ι), some (namedthings_piece_made ι), none, some (namedthings_stand_named ι), none, none, some (nearlots_near_views ι), some (numbertexts_is_told_number ι), some (numbertexts_is_told_table ι), some (numbertexts_number_text ι), none, none, some (numbertexts_table_text ι), some (pipes_lot_not ι), none, some (pipes_lots_both ι), none, some (ranks_going_on ι), some (ranks_parting ι), some (ranks_rank_told ι), some (reportjudges_are_short ι), none, some (reportjudges_due_fault ι), some (reportjudges_entry_fault ι), some (reportjudges_is_entry ι), some (reportjudges_is_great ι), some (reportjudges_judge_report ι), none, some (reportjudges_parting_fault ι), none, none, some (seens_lot_seen ι), some (sessionanswers_entered_items ι), some (sessionanswers_heard_answer ι), some (sessionanswers_kept_answer ι), none, some (sessionanswers_map_answer ι), none, some (sessionanswers_same_answer ι), none, some (sessionanswers_told_entry ι), some (sessiontexts_is_item ι), none, some (sessiontexts_is_session ι), some (sessiontexts_item_text ι), none, none, none, none, none, none, some (sessiontexts_session_text ι), some (sessionuses_kind_of ι), some (sessionuses_made_kinds ι), some (sessionuses_parts_of ι), some (sessionuses_pieces ι), none, some (sessionuses_things_ahead ι), some (sessionuses_told_items ι), some (sessionuses_told_numbers ι), some (sessionuses_told_promises ι), some (sides_letters_of ι), some (sides_lot_above ι), some (sides_lot_below ι), none, none, some (simplests_less_by ι), some (simplests_one_by ι), some (simplests_simplest_above ι), some (simplests_simplest_between ι), some (stands_edge_table ι), some (stands_edge_told ι), some (stands_heard_told ι), some (tellback_back_item ι), some (tellback_view_name ι), some (views_classes_of ι), none, none, some (views_view_along ι), some (views_view_behind ι), some (ways_edge_behind ι), some (ways_first_edge ι), some (ways_fraction_runs ι), some (ways_is_below ι), some (ways_not_long ι), some (ways_root_less ι), some (ways_root_over ι), some (ways_root_runs ι), some (ways_run_from ι), some (ways_way_number ι), some (ways_way_told ι)]
end PG

set_option Elab.async false
set_option linter.all false
set_option maxRecDepth 100000
set_option maxHeartbeats 4000000
namespace MP
open PySem L2
/-! ### what is computed, as rules for simp -/
@[simp] theorem getV_z {x : Option D} {r : Env} : getV (x :: r) 0 = x := (rfl)
@[simp] theorem getV_s {x : Option D} {r : Env} {n : Nat} : getV (x :: r) (n + 1) = getV r n := (rfl)
@[simp] theorem setV_z {x d : Option D} {r : Env} : setV (x :: r) 0 d = d :: r := (rfl)
@[simp] theorem setV_s {x d : Option D} {r : Env} {n : Nat} : setV (x :: r) (n + 1) d = x :: setV r n d := (rfl)
@[simp] theorem getO_z {x : Ob} {r : DS} : getO (x :: r) 0 = some x := (rfl)
@[simp] theorem getO_s {x : Ob} {r : DS} {n : Nat} : getO (x :: r) (n + 1) = getO r n := (rfl)
@[simp] theorem setO_z {x d : Ob} {r : DS} : setO (x :: r) 0 d = d :: r := (rfl)
@[simp] theorem setO_s {x d : Ob} {r : DS} {n : Nat} : setO (x :: r) (n + 1) d = x :: setO r n d := (rfl)
@[simp] theorem wipeV_n {ρ : Env} : wipeV ρ [] = ρ := (rfl)
@[simp] theorem wipeV_c {ρ : Env} {v : Nat} {vs : List Nat} : wipeV ρ (v :: vs) = setV (wipeV ρ vs) v none := (rfl)
@[simp] theorem setAll_c {i : Nat} {is : List Nat} {d : D} {ds : List D} {ρ : Env} : setAll (i :: is) (d :: ds) ρ = setAll is ds (setV ρ i (some d)) := (rfl)
@[simp] theorem setAll_n {ds : List D} {ρ : Env} : setAll [] ds ρ = ρ := by cases ds <;> rfl
@[simp] theorem bind_ok {α β : Type} {a : α} {st : DS} {f : α → DS → R β} : (R.ok a st).bind f = f a st := (rfl)
@[simp] theorem bind_exc {α β : Type} {c : Nat} {fs : List D} {st : DS} {f : α → DS → R β} : (R.exc c fs st : R α).bind f = .exc c fs st := (rfl)
@[simp] theorem bind_bad {α β : Type} {f : α → DS → R β} : (R.bad : R α).bind f = .bad := (rfl)
@[simp] theorem sbind_bad {f : Env → DS → RS} : RS.bad.bind f = .bad := (rfl)
@[simp] theorem to_bad {α : Type} {ρ : Env} {f : α → DS → RS} : (R.bad : R α).to ρ f = .bad := (rfl)
@[simp] theorem end_bad : RS.bad.end = .bad := (rfl)
@[simp] theorem sbind_nx {ρ : Env} {st : DS} {f : Env → DS → RS} : (RS.nx ρ st).bind f = f ρ st := (rfl)
@[simp] theorem sbind_ret {d : D} {st : DS} {f : Env → DS → RS} : (RS.ret d st).bind f = .ret d st := (rfl)
@[simp] theorem sbind_exc {c : Nat} {fs : List D} {ρ : Env} {st : DS} {f : Env → DS → RS} : (RS.exc c fs ρ st).bind f = .exc c fs ρ st := (rfl)
@[simp] theorem sbind_brk {ρ : Env} {st : DS} {f : Env → DS → RS} : (RS.brk ρ st).bind f = .brk ρ st := (rfl)
@[simp] theorem sbind_cont {ρ : Env} {st : DS} {f : Env → DS → RS} : (RS.cont ρ st).bind f = .cont ρ st := (rfl)
@[simp] theorem obind_some {α β : Type} {a : α} {f : α → Option β} : (some a).bind f = f a := (rfl)
def RS.tie (x : RS) (f : Env → DS → RS) : RS := match x with
  | .nx ρ st => f ρ st
  | .exc c fs ρ st => .exc c fs ρ st
  | _ => .bad
@[simp] theorem tie_nx {ρ : Env} {st : DS} {f : Env → DS → RS} : (RS.nx ρ st).tie f = f ρ st := (rfl)
def negD : D → Option D | .int i => some (.int (-i)) | _ => none
@[simp] theorem negD_int {i : Int} : negD (.int i) = some (.int (-i)) := (rfl)
def intD : D → Option Int | .int i => some i | _ => none
@[simp] theorem intD_int {i : Int} : intD (.int i) = some i := (rfl)
def tupD : D → Option (List D) | .tup xs => some xs | _ => none
@[simp] theorem tupD_tup {xs : List D} : tupD (.tup xs) = some xs := (rfl)
def toldR : R D → R D
  | .ok d st1 => .ok (.tup [.str "told", d]) st1
  | .exc 0 [d] st1 => .ok (.tup [.str "great", d]) st1
  | _ => .bad
@[simp] theorem toldR_ok {d : D} {st : DS} : toldR (.ok d st) = .ok (.tup [.str "told", d]) st := (rfl)
@[simp] theorem toldR_exc {d : D} {st : DS} : toldR (.exc 0 [d] st) = .ok (.tup [.str "great", d]) st := (rfl)
/-- a place is written -/
def subD (st : DS) (od x d : D) : Option DS := match od with
      | .ref n => match getO st n, keyOf x with
        | some (.dic kvs), some k => if kvs.length < sizeLine then some (setO st n (.dic (putP kvs k x d))) else none
        | some (.lst xs), some (.inl i) => (match ixN xs.length i with
          | some k => some (setO st n (.lst (xs.set k d)))
          | none => none)
        | _, _ => none
      | _ => none
def isoR (st : DS) : R D → R D
      | .ok d _ => if noRef d then .ok d st else .bad
      | .exc c fs _ => if noRefL fs then .exc c fs st else .bad
      | .bad => .bad
@[simp] theorem isoR_ok {d : D} {st st1 : DS} : isoR st (.ok d st1) = if noRef d then .ok d st else .bad := (rfl)
@[simp] theorem isoR_exc {c : Nat} {fs : List D} {st st1 : DS} : isoR st (.exc c fs st1) = if noRefL fs then .exc c fs st else .bad := (rfl)
@[simp] theorem noRef_int {i : Int} : noRef (.int i) = true := by simp only [noRef]
@[simp] theorem noRef_bl {i : Bool} : noRef (.bl i) = true := by simp only [noRef]
@[simp] theorem noRef_str {i : Str} : noRef (.str i) = true := by simp only [noRef]
@[simp] theorem noRef_non : noRef .non = true := by simp only [noRef]
@[simp] theorem noRef_tup {xs : List D} : noRef (.tup xs) = noRefL xs := by simp only [noRef]
@[simp] theorem noRef_lst {xs : List D} : noRef (.lst xs) = noRefL xs := by simp only [noRef]
@[simp] theorem noRef_scr {xs : List D} : noRef (.scr xs) = noRefL xs := by simp only [noRef]
@[simp] theorem noRefL_n : noRefL [] = true := by simp only [noRefL]
@[simp] theorem noRefL_c {x : D} {xs : List D} : noRefL (x :: xs) = (noRef x && noRefL xs) := by simp only [noRefL]
@[simp] theorem to_ok {α : Type} {a : α} {st : DS} {ρ : Env} {f : α → DS → RS} : (R.ok a st).to ρ f = f a st := (rfl)
@[simp] theorem to_exc {α : Type} {c : Nat} {fs : List D} {st : DS} {ρ : Env} {f : α → DS → RS} : (R.exc c fs st : R α).to ρ f = .exc c fs ρ st := (rfl)
@[simp] theorem of_some {α : Type} {a : α} {st : DS} : R.of (some a) st = .ok a st := (rfl)
@[simp] theorem end_nx {ρ : Env} {st : DS} : (RS.nx ρ st).end = .ok .non st := (rfl)
@[simp] theorem end_ret {d : D} {st : DS} : (RS.ret d st).end = .ok d st := (rfl)
@[simp] theorem end_exc {c : Nat} {fs : List D} {ρ : Env} {st : DS} : (RS.exc c fs ρ st).end = .exc c fs st := (rfl)
@[simp] theorem tnD_nm {i : Nat} {d : D} {ρ : Env} : tnD (.nm i) d ρ = some (setV ρ i (some d)) := by simp only [tnD] <;> rfl
@[simp] theorem tnD_tp {ts : List TN} {xs : List D} {ρ : Env} : tnD (.tp ts) (.tup xs) ρ = tnL ts xs ρ := by simp only [tnD] <;> rfl
@[simp] theorem tnL_n {ρ : Env} : tnL [] [] ρ = some ρ := by simp only [tnL] <;> rfl
@[simp] theorem tnL_c {t : TN} {ts : List TN} {x : D} {xs : List D} {ρ : Env} : tnL (t :: ts) (x :: xs) ρ = (tnD t x ρ).bind (tnL ts xs) := by
  simp only [tnL]
  cases tnD t x ρ <;> rfl
section
variable {C : Nat → List D → DS → R D} {ρ : Env} {st : DS}
@[simp] theorem ev_var {i : Nat} : eval C (.var i) ρ st = R.of (getV ρ i) st := by simp only [eval] <;> rfl
@[simp] theorem ev_lit {d : D} : eval C (.lit d) ρ st = .ok d st := by simp only [eval] <;> rfl
@[simp] theorem ev_con {k : Nat} {d : D} : eval C (.con k d) ρ st = .ok d st := by simp only [eval] <;> rfl
@[simp] theorem ev_bin {op : BOp} {a b : E} : eval C (.bin op a b) ρ st = (eval C a ρ st).bind fun x st1 => (eval C b ρ st1).bind fun y st2 => R.of (binD op st2 x y) st2 := by simp only [eval] <;> rfl
@[simp] theorem ev_neg {a : E} : eval C (.neg a) ρ st = (eval C a ρ st).bind fun x st1 => R.of (negD x) st1 := by
  simp only [eval]
  cases eval C a ρ st with
  | ok x st1 => cases x <;> rfl
  | _ => rfl
@[simp] theorem ev_or {a b : E} : eval C (.or a b) ρ st = (eval C a ρ st).bind fun x st1 => (R.of (truD st1 x) st1).bind fun k st2 => if k then .ok x st2 else eval C b ρ st2 := by simp only [eval] <;> rfl
@[simp] theorem ev_cmp {op : COp} {a b : E} : eval C (.cmp op a b) ρ st = (eval C a ρ st).bind fun x st1 => (eval C b ρ st1).bind fun y st2 => (R.of (cmpD op st2 x y) st2).bind fun k st3 => .ok (.bl k) st3 := by simp only [eval] <;> rfl
@[simp] theorem ev_ife {c a b : E} : eval C (.ife c a b) ρ st = (evalT C c ρ st).bind fun k st1 => if k then eval C a ρ st1 else eval C b ρ st1 := by simp only [eval] <;> rfl
@[simp] theorem ev_tup {es : List E} : eval C (.tup es) ρ st = (evalL C es ρ st).bind fun xs st1 => if xs.length ≤ sizeLine then .ok (.tup xs) st1 else .bad := by simp only [eval] <;> rfl
@[simp] theorem ev_tupX {bs : List Bool} {es : List E} : eval C (.tupX bs es) ρ st = (evalX C bs es ρ st).bind fun xs st1 => if xs.length ≤ sizeLine then .ok (.tup xs) st1 else .bad := by simp only [eval] <;> rfl
@[simp] theorem eX_n {bs : List Bool} : evalX C bs [] ρ st = .ok [] st := by cases bs with | nil => simp only [evalX] | cons b r => cases b <;> simp only [evalX]
@[simp] theorem eX_f {bs : List Bool} {e : E} {es : List E} : evalX C (false :: bs) (e :: es) ρ st = (eval C e ρ st).bind fun x st1 => (evalX C bs es ρ st1).bind fun xs st2 => .ok (x :: xs) st2 := by simp only [evalX] <;> rfl
@[simp] theorem eX_t {bs : List Bool} {e : E} {es : List E} : evalX C (true :: bs) (e :: es) ρ st = (eval C e ρ st).bind fun x st1 => (R.of (seqD st1 x) st1).bind fun ys st1 => (evalX C bs es ρ st1).bind fun xs st2 => .ok (ys ++ xs) st2 := by
  simp only [evalX]
  cases eval C e ρ st with
  | ok x st1 => dsimp only [R.bind]; cases seqD st1 x <;> rfl
  | _ => rfl
@[simp] theorem ev_isa {t : IT} {a : E} : eval C (.isa [t] a) ρ st = (eval C a ρ st).bind fun x st1 => (R.of (isaD st1 t x) st1).bind fun k st2 => .ok (.bl k) st2 := by simp only [eval] <;> rfl
@[simp] theorem ev_chain {o1 o2 : COp} {a b c : E} : eval C (.chain o1 o2 a b c) ρ st = (eval C a ρ st).bind fun x st1 => (eval C b ρ st1).bind fun y st2 => (R.of (cmpD o1 st2 x y) st2).bind fun k st3 =>
      if k then (eval C c ρ st3).bind fun z st4 => (R.of (cmpD o2 st4 y z) st4).bind fun k st5 => .ok (.bl k) st5 else .ok (.bl false) st3 := by simp only [eval] <;> rfl
@[simp] theorem ev_and {a b : E} : eval C (.and a b) ρ st = (eval C a ρ st).bind fun x st1 => (R.of (truD st1 x) st1).bind fun k st2 => if k then eval C b ρ st2 else .ok x st2 := by simp only [eval] <;> rfl
@[simp] theorem ev_not {a : E} : eval C (.not a) ρ st = (eval C a ρ st).bind fun x st1 => (R.of (truD st1 x) st1).bind fun k st2 => .ok (.bl (!k)) st2 := by simp only [eval] <;> rfl
@[simp] theorem ev_isN {ng : Bool} {a : E} : eval C (.isN ng a) ρ st = (eval C a ρ st).bind fun x st1 => .ok (.bl (xor ng (isNon x))) st1 := by simp only [eval] <;> rfl
@[simp] theorem ev_newl {m : Bool} {a : E} : eval C (.newl m a) ρ st = (eval C a ρ st).bind fun x st1 => (R.of (seqD st1 x) st1).bind fun xs st2 => newL m xs st2 := by
  simp only [eval]
  cases eval C a ρ st with
  | ok x st1 => dsimp only [R.bind]; cases seqD st1 x <;> rfl
  | _ => rfl
@[simp] theorem eT_isN {ng : Bool} {a : E} : evalT C (.isN ng a) ρ st = (eval C a ρ st).bind fun x st1 => .ok (xor ng (isNon x)) st1 := by simp only [evalT] <;> rfl
@[simp] theorem eT_chain {o1 o2 : COp} {a b c : E} : evalT C (.chain o1 o2 a b c) ρ st = (eval C a ρ st).bind fun x st1 => (eval C b ρ st1).bind fun y st2 => (R.of (cmpD o1 st2 x y) st2).bind fun k st3 =>
      if k then (eval C c ρ st3).bind fun z st4 => R.of (cmpD o2 st4 y z) st4 else .ok false st3 := by simp only [evalT] <;> rfl
@[simp] theorem eT_din {ng : Bool} {a b : E} : evalT C (.din ng a b) ρ st = (eval C a ρ st).bind fun x st1 => (eval C b ρ st1).bind fun y st2 => (R.of (dinD st2 x y) st2).bind fun k st3 => .ok (xor ng k) st3 := by simp only [evalT] <;> rfl
@[simp] theorem ev_lst {m : Bool} {es : List E} : eval C (.lst m es) ρ st = (evalL C es ρ st).bind fun xs st1 => if xs.length ≤ sizeLine then newL m xs st1 else .bad := by simp only [eval] <;> rfl
@[simp] theorem ev_dix {a i : E} : eval C (.dix a i) ρ st = (eval C a ρ st).bind fun x st1 => (eval C i ρ st1).bind fun y st2 => R.of (dixD st2 x y) st2 := by simp only [eval] <;> rfl
@[simp] theorem ev_ix {a i : E} : eval C (.ix a i) ρ st = (eval C a ρ st).bind fun x st1 => (eval C i ρ st1).bind fun y st2 => R.of (ixD st2 x y) st2 := by simp only [eval] <;> rfl
@[simp] theorem ev_sl {m : Bool} {a : E} {lo hi : List E} : eval C (.sl m a lo hi) ρ st = (eval C a ρ st).bind fun x st1 => (evalO C lo ρ st1).bind fun l st2 => (evalO C hi ρ st2).bind fun h st3 => slD m x l h st3 := by simp only [eval] <;> rfl
@[simp] theorem ev_rev {m : Bool} {a : E} : eval C (.rev m a) ρ st = (eval C a ρ st).bind fun x st1 => (R.of (lisD st1 x) st1).bind fun xs st2 => newL m xs.reverse st2 := by
  simp only [eval]
  cases eval C a ρ st with
  | ok x st1 => show _ = (R.of (lisD st1 x) st1).bind _; dsimp only [R.bind]; cases lisD st1 x <;> rfl
  | _ => rfl
@[simp] theorem ev_call {f : Nat} {es : List E} : eval C (.call f es) ρ st = (evalL C es ρ st).bind fun xs st1 => C f xs st1 := by simp only [eval] <;> rfl
@[simp] theorem ev_bi {b : BI} {es : List E} : eval C (.bi b es) ρ st = (evalL C es ρ st).bind fun xs st1 => R.of (biD b st1 xs) st1 := by simp only [eval] <;> rfl
@[simp] theorem ev_meth {k : MK} {o : E} {es : List E} : eval C (.meth k o es) ρ st = (eval C o ρ st).bind fun x st1 => if mtyD k st1 x then (evalL C es ρ st1).bind fun xs st2 => methD k st2 x xs else .bad := by simp only [eval] <;> rfl
@[simp] theorem ev_revT {a : E} : eval C (.revT a) ρ st = (eval C a ρ st).bind fun x st1 => (R.of (tupD x) st1).bind fun xs st2 => .ok (.tup xs.reverse) st2 := by
  simp only [eval]
  cases eval C a ρ st with
  | ok x st1 => cases x <;> rfl
  | _ => rfl
@[simp] theorem ev_tv {a : E} : eval C (.tv a) ρ st = eval C a ρ st := by simp only [eval] <;> rfl
@[simp] theorem ev_binO {op : BOp} {a b : E} : eval C (.binO op a b) ρ st = (eval C a ρ st).bind fun x st1 => (eval C b ρ st1).bind fun y st2 => (R.of (catD op st2 x y) st2).bind fun zs st3 => newL true zs st3 := by
  simp only [eval]
  cases eval C a ρ st with
  | ok x st1 =>
    dsimp only [R.bind]
    cases eval C b ρ st1 with
    | ok y st2 => dsimp only; cases catD op st2 x y <;> rfl
    | _ => rfl
  | _ => rfl
@[simp] theorem ev_emp {m : Bool} : eval C (.emp m) ρ st = newD m [] st := by simp only [eval] <;> rfl
theorem ev_dic {m : Bool} {es : List E} {xs : List D} {kvs : List (D × D)} {st1 : DS} (h : evalL C es ρ st = .ok xs st1) (hp : pairUp xs = some kvs) (hk : kvs.length ≤ 15 ∧ (keysOf kvs).isSome) : eval C (.dic m es) ρ st = newD m (mergeP [] kvs) st1 := by
  simp only [eval, h, hp] <;> rw [if_pos hk]
@[simp] theorem ev_told {f : Nat} {e : E} : eval C (.told f e) ρ st = toldR (eval C e ρ st) := by
  have key : ∀ r : R D, (match r with
    | .ok d st1 => R.ok (.tup [.str "told", d]) st1
    | .exc 0 [d] st1 => .ok (.tup [.str "great", d]) st1
    | _ => .bad) = toldR r := fun r => by
    cases r with
    | ok d st1 => rfl
    | exc c fs st1 => cases c with
      | zero => cases fs with
        | nil => rfl
        | cons a r => cases r <;> rfl
      | succ c => rfl
    | bad => rfl
  rw [eval]
  exact key _
/-- a turn of a comprehension -/
def lcW (C : Nat → List D → DS → R D) (elt : E) (tg : TN) (ifs : List E) (own : List Nat) (ρ : Env) : D → DS → R (Option D) := fun x st2 => (R.of (tnD tg x (wipeV ρ own)) st2).bind fun ρ' st2 => (evalTs C ifs ρ' st2).bind fun k st3 => if k then (eval C elt ρ' st3).bind fun d st4 => .ok (some d) st4 else .ok none st3
theorem lcW_eq {elt : E} {tg : TN} {ifs : List E} {own : List Nat} {x : D} {st2 : DS} : lcW C elt tg ifs own ρ x st2 = (R.of (tnD tg x (wipeV ρ own)) st2).bind fun ρ' st2 => (evalTs C ifs ρ' st2).bind fun k st3 => if k then (eval C elt ρ' st3).bind fun d st4 => .ok (some d) st4 else .ok none st3 := (rfl)
@[simp] theorem ev_lc {m : Bool} {elt : E} {tg : TN} {ik : IK} {src ifs : List E} {own : List Nat} : eval C (.lc m elt tg ik src ifs own) ρ st = (evalL C src ρ st).bind fun xs st1 => (R.of (itD ik st1 xs) st1).bind fun items st1 => (lcL (lcW C elt tg ifs own ρ) items [] st1).bind fun ys st2 => newL m ys st2 := by
  simp only [eval]
  cases evalL C src ρ st with
  | ok xs st1 =>
    dsimp only [R.bind]
    cases itD ik st1 xs with
    | none => rfl
    | some items =>
      dsimp only [R.of]
      have e : (fun x st2 => match tnD tg x (wipeV ρ own) with
          | some ρ' => (evalTs C ifs ρ' st2).bind fun k st3 => if k then (eval C elt ρ' st3).bind fun d st4 => .ok (some d) st4 else .ok none st3
          | none => .bad) = lcW C elt tg ifs own ρ := by
        funext x st2
        unfold lcW
        cases tnD tg x (wipeV ρ own) <;> rfl
      rw [← e]
      rfl
  | _ => rfl
@[simp] theorem eT_not {a : E} : evalT C (.not a) ρ st = (evalT C a ρ st).bind fun k st1 => .ok (!k) st1 := by simp only [evalT] <;> rfl
@[simp] theorem eT_and {a b : E} : evalT C (.and a b) ρ st = (evalT C a ρ st).bind fun k st1 => if k then evalT C b ρ st1 else .ok false st1 := by simp only [evalT] <;> rfl
@[simp] theorem eT_or {a b : E} : evalT C (.or a b) ρ st = (evalT C a ρ st).bind fun k st1 => if k then .ok true st1 else evalT C b ρ st1 := by simp only [evalT] <;> rfl
@[simp] theorem eT_cmp {op : COp} {a b : E} : evalT C (.cmp op a b) ρ st = (eval C a ρ st).bind fun x st1 => (eval C b ρ st1).bind fun y st2 => R.of (cmpD op st2 x y) st2 := by simp only [evalT] <;> rfl
@[simp] theorem eT_tv {a : E} : evalT C (.tv a) ρ st = (eval C a ρ st).bind fun x st1 => R.of (truD st1 x) st1 := by simp only [evalT] <;> rfl
@[simp] theorem eL_n : evalL C [] ρ st = .ok [] st := by simp only [evalL] <;> rfl
@[simp] theorem eL_c {e : E} {es : List E} : evalL C (e :: es) ρ st = (eval C e ρ st).bind fun x st1 => (evalL C es ρ st1).bind fun xs st2 => .ok (x :: xs) st2 := by simp only [evalL] <;> rfl
@[simp] theorem eTs_n : evalTs C [] ρ st = .ok true st := by simp only [evalTs] <;> rfl
@[simp] theorem eTs_c {e : E} {es : List E} : evalTs C (e :: es) ρ st = (evalT C e ρ st).bind fun k st1 => if k then evalTs C es ρ st1 else .ok false st1 := by simp only [evalTs] <;> rfl
@[simp] theorem eO_n : evalO C [] ρ st = .ok none st := by simp only [evalO] <;> rfl
@[simp] theorem eO_c {e : E} {es : List E} : evalO C (e :: es) ρ st = (eval C e ρ st).bind fun x st1 => (R.of (intD x) st1).bind fun i st2 => .ok (some i) st2 := by
  simp only [evalO]
  cases eval C e ρ st with
  | ok x st1 => cases x <;> rfl
  | _ => rfl
@[simp] theorem aT_nm {i : Nat} {d : D} : asgT C (.nm i) d ρ st = .nx (setV ρ i (some d)) st := by simp only [asgT] <;> rfl
@[simp] theorem aT_sub {o i : E} {d : D} : asgT C (.sub o i) d ρ st = (eval C o ρ st).to ρ fun od st1 => (eval C i ρ st1).to ρ fun x st2 => (R.of (subD st2 od x d) st2).to ρ fun st3 _ => .nx ρ st3 := by
  simp only [asgT]
  cases eval C o ρ st with
  | ok od st1 =>
    dsimp only [R.to]
    cases eval C i ρ st1 with
    | ok x st2 =>
      dsimp only
      unfold subD
      cases od with
      | ref n =>
        dsimp only
        generalize getO st2 n = g
        generalize keyOf x = kk
        cases g with
        | none => rfl
        | some ob => cases ob with
          | ins c fs => rfl
          | dic kvs => cases kk with
            | none => rfl
            | some k => by_cases h : kvs.length < sizeLine <;> simp only [h, if_true, if_false] <;> rfl
          | lst xs => cases kk with
            | none => rfl
            | some k => cases k with
              | inr s => rfl
              | inl i => dsimp only; cases ixN xs.length i <;> rfl
      | _ => rfl
    | _ => rfl
  | _ => rfl
@[simp] theorem aT_tp {ts : List T} {xs : List D} : asgT C (.tp ts) (.tup xs) ρ st = if xs.length = ts.length then asgTs C ts xs ρ st else .bad := by simp only [asgT] <;> rfl
@[simp] theorem aT_tpl {ts : List T} {xs : List D} : asgT C (.tp ts) (.lst xs) ρ st = if xs.length = ts.length then asgTs C ts xs ρ st else .bad := by simp only [asgT] <;> rfl
@[simp] theorem aTs_n : asgTs C [] [] ρ st = .nx ρ st := by simp only [asgTs] <;> rfl
@[simp] theorem aTs_c {t : T} {ts : List T} {x : D} {xs : List D} : asgTs C (t :: ts) (x :: xs) ρ st = (asgT C t x ρ st).tie (asgTs C ts xs) := by
  simp only [asgTs]
  cases asgT C t x ρ st <;> rfl
@[simp] theorem ex_expr {e : E} : exec C (.expr e) ρ st = (eval C e ρ st).to ρ fun _ st1 => .nx ρ st1 := by simp only [exec] <;> rfl
@[simp] theorem ex_ret {e : E} : exec C (.ret e) ρ st = (eval C e ρ st).to ρ fun d st1 => .ret d st1 := by simp only [exec] <;> rfl
@[simp] theorem ex_retN : exec C .retN ρ st = .ret .non st := by simp only [exec] <;> rfl
@[simp] theorem ex_asg {t : T} {e : E} : exec C (.asg t e) ρ st = (eval C e ρ st).to ρ fun d st1 => asgT C t d ρ st1 := by simp only [exec] <;> rfl
@[simp] theorem ex_ife {c : E} {a b : List S} : exec C (.ife c a b) ρ st = (evalT C c ρ st).to ρ fun k st1 => if k then execs C a ρ st1 else execs C b ρ st1 := by simp only [exec] <;> rfl
@[simp] theorem ex_pass : exec C .pass ρ st = .nx ρ st := by simp only [exec] <;> rfl
@[simp] theorem ex_raise {c : Nat} {es : List E} : exec C (.raise c es) ρ st = (evalL C es ρ st).to ρ fun xs st1 => .exc c xs ρ st1 := by simp only [exec] <;> rfl
@[simp] theorem ex_par {is : List Nat} {es : List E} : exec C (.par is es) ρ st = (evalL C es ρ st).to ρ fun xs st1 => if xs.length = is.length then .nx (setAll is xs ρ) st1 else .bad := by simp only [exec] <;> rfl
@[simp] theorem ex_slc {i : Nat} {e : E} : exec C (.slc i e) ρ st = (eval C e ρ st).to ρ fun d st1 => .nx (setV ρ i (some d)) st1 := by simp only [exec] <;> rfl
@[simp] theorem ex_aug {i : Nat} {op : BOp} {e : E} : exec C (.aug i op e) ρ st = (R.of (getV ρ i) st).to ρ fun x st => (eval C e ρ st).to ρ fun y st1 => (R.of (augD op x y) st1).to ρ fun z st1 => .nx (setV ρ i (some z)) st1 := by
  simp only [exec]
  cases getV ρ i with
  | none => rfl
  | some x =>
    dsimp only [R.of, R.to]
    cases eval C e ρ st with
    | ok y st1 => dsimp only; cases augD op x y <;> rfl
    | _ => rfl
/-- a turn of a walk -/
def forB (C : Nat → List D → DS → R D) (tg : TN) (b : List S) : D → Env → DS → RS := fun x ρ' st' => match tnD tg x ρ' with | some ρ2 => execs C b ρ2 st' | none => .bad
@[simp] theorem forB_eq {tg : TN} {b : List S} {x : D} : forB C tg b x ρ st = (R.of (tnD tg x ρ) st).to ρ fun ρ2 st => execs C b ρ2 st := by
  unfold forB
  cases tnD tg x ρ <;> rfl
@[simp] theorem ex_for {tg : TN} {ik : IK} {src : List E} {b : List S} : exec C (.forr tg ik src b) ρ st = (evalL C src ρ st).to ρ fun xs st1 => (R.of (itD ik st1 xs) st1).to ρ fun items st1 => forL (forB C tg b) items ρ st1 := by
  simp only [exec]
  cases evalL C src ρ st with
  | ok xs st1 =>
    dsimp only [R.to]
    cases itD ik st1 xs <;> rfl
  | _ => rfl
theorem ex_whl {c : E} {b : List S} : exec C (.whl c b) ρ st = whileL (evalT C c) (execs C b) fuel ρ st := by simp only [exec] <;> rfl
@[simp] theorem exs_n : execs C [] ρ st = .nx ρ st := by simp only [execs] <;> rfl
@[simp] theorem exs_c {s : S} {r : List S} : execs C (s :: r) ρ st = (exec C s ρ st).bind (execs C r) := by
  simp only [execs]
  cases exec C s ρ st <;> rfl
end
@[simp] theorem newL_t {xs : List D} {st : DS} : newL true xs st = .ok (.ref st.length) (st ++ [.lst xs]) := (rfl)
@[simp] theorem newL_f {xs : List D} {st : DS} : newL false xs st = .ok (.lst xs) st := (rfl)
@[simp] theorem newD_t {xs : List (D × D)} {st : DS} : newD true xs st = .ok (.ref st.length) (st ++ [.dic xs]) := (rfl)
@[simp] theorem newD_f {xs : List (D × D)} {st : DS} : newD false xs st = .ok (.dic xs) st := (rfl)
theorem forL_n {F : D → Env → DS → RS} {ρ : Env} {st : DS} : forL F [] ρ st = .nx ρ st := (rfl)
theorem forL_c {F : D → Env → DS → RS} {x : D} {xs : List D} {ρ ρ' : Env} {st st' : DS} (h : F x ρ st = .nx ρ' st') : forL F (x :: xs) ρ st = forL F xs ρ' st' := by
  show (match F x ρ st with | .nx ρ' st' => forL F xs ρ' st' | .cont ρ' st' => forL F xs ρ' st' | .brk ρ' st' => .nx ρ' st' | r => r) = _
  rw [h]
theorem lcL_n {f : D → DS → R (Option D)} {acc : List D} {st : DS} : lcL f [] acc st = .ok acc st := (rfl)
theorem lcL_y {f : D → DS → R (Option D)} {x d : D} {xs acc : List D} {st st1 : DS} (h : f x st = .ok (some d) st1) (hl : acc.length < sizeLine) : lcL f (x :: xs) acc st = lcL f xs (acc ++ [d]) st1 := by
  show (match f x st with | .ok (some d) st1 => if acc.length < sizeLine then lcL f xs (acc ++ [d]) st1 else .bad | .ok none st1 => lcL f xs acc st1 | _ => .bad) = _
  rw [h]
  dsimp only
  rw [if_pos hl]
theorem lcL_z {f : D → DS → R (Option D)} {x : D} {xs acc : List D} {st st1 : DS} (h : f x st = .ok none st1) : lcL f (x :: xs) acc st = lcL f xs acc st1 := by
  show (match f x st with | .ok (some d) st1 => if acc.length < sizeLine then lcL f xs (acc ++ [d]) st1 else .bad | .ok none st1 => lcL f xs acc st1 | _ => .bad) = _
  rw [h]
/-- a def's call, its body shown -/
theorem call_eq {P : Nat → Option FDef} {n f : Nat} {fd : FDef} {xs : List D} {st : DS} (h : P f = some fd) (hi : fd.iso = false) (h1 : xs.length = fd.np) (h2 : xs.length ≤ fd.N.length) :
    callN P (n + 1) f xs st = (execs (callN P n) fd.body (xs.map some ++ List.replicate (fd.N.length - xs.length) none) st).end := by
  unfold callN
  rw [h]
  unfold isoF
  dsimp only
  rw [if_neg (by rw [hi]; decide)]
  unfold runF
  rw [if_pos ⟨h1, h2⟩]
/-- .. of one that is given no objects -/
theorem call_iso {P : Nat → Option FDef} {n f : Nat} {fd : FDef} {xs : List D} {st : DS} (h : P f = some fd) (hi : fd.iso = true) (h1 : xs.length = fd.np) (h2 : xs.length ≤ fd.N.length) (hn : noRefL xs = true) :
    callN P (n + 1) f xs st = isoR st (execs (callN P n) fd.body (xs.map some ++ List.replicate (fd.N.length - xs.length) none) []).end := by
  unfold callN
  rw [h]
  unfold isoF
  dsimp only
  rw [if_pos (by rw [hi]), if_pos hn]
  unfold runF
  rw [if_pos ⟨h1, h2⟩]
  rfl
end MP

set_option Elab.async false
set_option linter.all false
set_option maxRecDepth 100000
set_option maxHeartbeats 4000000
namespace MP
open PySem L2 PyProof.Rows
/-! ### ints -/
theorem bits_le {i : Int} {k : Nat} (h : i.natAbs < 2 ^ k) : Builtin.Int.intBits i ≤ k := by
  unfold Builtin.Int.intBits
  split
  · omega
  · rename_i h0
    have h0' : i.natAbs ≠ 0 := by
      intro z
      exact h0 (by simp; omega)
    exact (Nat.log2_lt h0').mpr h
theorem mulOk_l {i j : Int} (h : i.natAbs < 2 ^ 64) : mulOk i j = true := by
  have := bits_le h
  unfold mulOk shortFactorBits
  rw [decide_eq_false (p := Builtin.Int.intBits i > 64) (by omega)]
  rfl
theorem mulOk_r {i j : Int} (h : j.natAbs < 2 ^ 64) : mulOk i j = true := by
  have := bits_le h
  unfold mulOk shortFactorBits
  rw [decide_eq_false (p := Builtin.Int.intBits j > 64) (by omega), Bool.and_false]
  rfl
theorem mulOk_b {i j : Int} (h1 : i.natAbs < 2 ^ 30000) (h2 : j.natAbs < 2 ^ 30000) : mulOk i j = true := by
  have a := bits_le h1
  have b := bits_le h2
  have e : Builtin.Int.intTooBig ((Builtin.Int.intBits i : Int) + (Builtin.Int.intBits j : Int)) = false := by
    unfold Builtin.Int.intTooBig bitsLine
    exact decide_eq_false (by omega)
  unfold mulOk
  rw [e, Bool.and_false]
  rfl
theorem divOk_r {i j : Int} (h : j.natAbs < 2 ^ 8000) (h0 : j ≠ 0) : divOk i j = true := by
  have e : Builtin.divisionGoesByPylong i j = false := by
    unfold Builtin.divisionGoesByPylong
    have : j.natAbs ≠ 0 := by omega
    have l := (Nat.log2_lt this).mpr h
    have h0' : (j == 0) = false := by simpa using h0
    simp only [h0', Bool.false_eq_true, if_false]
    rw [decide_eq_false (p := j.natAbs.log2 / 30 + 1 > 300) (by omega)]
    rfl
  unfold divOk
  rw [e, decide_eq_true h0]
  rfl
section
variable {st : DS}
@[simp] theorem b_add {i j : Int} : binD .add st (.int i) (.int j) = some (.int (i + j)) := (rfl)
@[simp] theorem b_sub {i j : Int} : binD .sub st (.int i) (.int j) = some (.int (i - j)) := (rfl)
theorem b_mul {i j : Int} (h : mulOk i j = true) : binD .mul st (.int i) (.int j) = some (.int (i * j)) := by
  show (if mulOk i j then some (D.int (i * j)) else none) = _
  rw [if_pos h]
theorem b_div {i j : Int} (h : divOk i j = true) : binD .fdiv st (.int i) (.int j) = some (.int (i.fdiv j)) := by
  show (if divOk i j then some (D.int (i.fdiv j)) else none) = _
  rw [if_pos h]
theorem b_mod {i j : Int} (h : j ≠ 0) : binD .mod st (.int i) (.int j) = some (.int (i.fmod j)) := by
  show (if j ≠ 0 then some (D.int (i.fmod j)) else none) = _
  rw [if_pos h]
theorem b_cat {a b : List D} (h : a.length + b.length ≤ sizeLine) : binD .add st (.tup a) (.tup b) = some (.tup (a ++ b)) := by
  show (if a.length + b.length ≤ sizeLine then some (D.tup (a ++ b)) else none) = _
  rw [if_pos h]
@[simp] theorem c_eq {i j : Int} : cmpD .eq st (.int i) (.int j) = some (decide (i = j)) := (rfl)
@[simp] theorem c_eqs {i j : Str} : cmpD .eq st (.str i) (.str j) = some (decide (i = j)) := (rfl)
@[simp] theorem c_ne {i j : Int} : cmpD .ne st (.int i) (.int j) = some (!decide (i = j)) := (rfl)
@[simp] theorem c_nes {i j : Str} : cmpD .ne st (.str i) (.str j) = some (!decide (i = j)) := (rfl)
@[simp] theorem c_lt {i j : Int} : cmpD .lt st (.int i) (.int j) = some (decide (i < j)) := (rfl)
@[simp] theorem c_le {i j : Int} : cmpD .le st (.int i) (.int j) = some (decide (i ≤ j)) := (rfl)
@[simp] theorem c_gt {i j : Int} : cmpD .gt st (.int i) (.int j) = some (decide (j < i)) := (rfl)
@[simp] theorem c_ge {i j : Int} : cmpD .ge st (.int i) (.int j) = some (decide (j ≤ i)) := (rfl)
@[simp] theorem c_isb {i j : Bool} : cmpD .isb st (.bl i) (.bl j) = some (decide (i = j)) := (rfl)
@[simp] theorem c_isnb {i j : Bool} : cmpD .isnb st (.bl i) (.bl j) = some (!decide (i = j)) := (rfl)
@[simp] theorem c_eqb {i j : Bool} : cmpD .eq st (.bl i) (.bl j) = some (decide (i = j)) := (rfl)
@[simp] theorem c_neb {i j : Bool} : cmpD .ne st (.bl i) (.bl j) = some (!decide (i = j)) := (rfl)
@[simp] theorem isa_tup {t : IT} {xs : List D} : isaD st t (.tup xs) = some (match t with | .tuple => true | _ => false) := (rfl)
@[simp] theorem isa_lst {t : IT} {xs : List D} : isaD st t (.lst xs) = some (match t with | .list => true | _ => false) := (rfl)
@[simp] theorem isa_int {t : IT} {i : Int} : isaD st t (.int i) = some (match t with | .int => true | _ => false) := (rfl)
@[simp] theorem isa_str {t : IT} {i : Str} : isaD st t (.str i) = some (match t with | .str => true | _ => false) := (rfl)
@[simp] theorem isa_bl {t : IT} {i : Bool} : isaD st t (.bl i) = some (match t with | .int => true | .bool => true | _ => false) := (rfl)
@[simp] theorem isa_non {t : IT} : isaD st t .non = some false := (rfl)
@[simp] theorem seq_tup {xs : List D} : seqD st (.tup xs) = some xs := (rfl)
@[simp] theorem seq_lst {xs : List D} : seqD st (.lst xs) = some xs := (rfl)
@[simp] theorem bi_tupL {xs : List D} : biD .tuple st [.lst xs] = some (.tup xs) := (rfl)
@[simp] theorem bi_allL {xs : List D} : biD .all st [.lst xs] = (match blsD xs with | some bs => some (.bl (bs.all id)) | none => none) := (rfl)
@[simp] theorem isNon_non : isNon .non = true := (rfl)
@[simp] theorem isNon_tup {xs : List D} : isNon (.tup xs) = false := (rfl)
@[simp] theorem isNon_int {i : Int} : isNon (.int i) = false := (rfl)
@[simp] theorem isNon_str {i : Str} : isNon (.str i) = false := (rfl)
@[simp] theorem t_int {i : Int} : truD st (.int i) = some (i != 0) := (rfl)
@[simp] theorem t_non : truD st .non = some false := (rfl)
@[simp] theorem t_tup {xs : List D} : truD st (.tup xs) = some (!xs.isEmpty) := (rfl)
@[simp] theorem t_lst {xs : List D} : truD st (.lst xs) = some (!xs.isEmpty) := (rfl)
@[simp] theorem t_bl {b : Bool} : truD st (.bl b) = some b := (rfl)
@[simp] theorem bi_abs {i : Int} : biD .abs st [.int i] = some (.int (i.natAbs : Nat)) := by
  show some (D.int (if i < 0 then -i else i)) = _
  congr 2
  split <;> omega
@[simp] theorem bi_max {i j : Int} : biD .max st [.int i, .int j] = some (.int (if j > i then j else i)) := (rfl)
@[simp] theorem bi_int {i : Int} : biD .int st [.int i] = some (.int i) := (rfl)
@[simp] theorem bi_intb {b : Bool} : biD .int st [.bl b] = some (.int (if b then 1 else 0)) := (rfl)
@[simp] theorem bi_gcd {a b : Int} : biD .gcd st [.int a, .int b] = some (.int ((Nat.gcd a.natAbs b.natAbs : Nat) : Int)) := (rfl)
theorem bi_str {i : Int} (h : i.natAbs.log2 < 1920) : biD .str st [.int i] = some (.str (toString i)) := by
  show (if i.natAbs.log2 < 1920 then some (D.str (toString i)) else none) = _
  rw [if_pos h]
theorem bi_lenS {s : Str} (h : s.length ≤ sizeLine) : biD .len st [.str s] = some (.int s.length) := by
  show (if s.length ≤ sizeLine then some (D.int s.length) else none) = _
  rw [if_pos h]
@[simp] theorem bi_lenT {xs : List D} : biD .len st [.tup xs] = some (.int xs.length) := (rfl)
@[simp] theorem bi_lenL {xs : List D} : biD .len st [.lst xs] = some (.int xs.length) := (rfl)
theorem bi_lenR {n : Nat} {xs : List D} (h : getO st n = some (.lst xs)) : biD .len st [.ref n] = some (.int xs.length) := by
  have e : seqD st (.ref n) = some xs := by show (match getO st n with | some (.lst xs) => some xs | _ => none) = _; rw [h]
  show (match seqD st (.ref n) with | some ys => some (D.int ys.length) | none => _) = _
  rw [e]
@[simp] theorem bi_tupT {xs : List D} : biD .tuple st [.tup xs] = some (.tup xs) := (rfl)
theorem bi_tupR {n : Nat} {xs : List D} (h : getO st n = some (.lst xs)) : biD .tuple st [.ref n] = some (.tup xs) := by
  have e : lisD st (.ref n) = some xs := by show (match getO st n with | some (.lst xs) => some xs | _ => none) = _; rw [h]
  show (match lisD st (.ref n) with | some ys => some (D.tup ys) | none => none) = _
  rw [e]
@[simp] theorem bi_anyL {xs : List D} : biD .any st [.lst xs] = (match blsD xs with | some bs => some (.bl (bs.any id)) | none => none) := (rfl)
@[simp] theorem m_bits {i : Int} : methD .bitlen st (.int i) [] = .ok (.int (Builtin.Int.intBits i : Nat)) st := (rfl)
@[simp] theorem mt_bits {i : Int} : mtyD .bitlen st (.int i) = true := (rfl)
@[simp] theorem ix0 {x : D} {xs : List D} : ixD st (.tup (x :: xs)) (.int 0) = some x := by
  show atI (x :: xs) 0 = _
  unfold atI ixN
  simp
@[simp] theorem ix1 {x y : D} {xs : List D} : ixD st (.tup (x :: y :: xs)) (.int 1) = some y := by
  show atI (x :: y :: xs) 1 = _
  unfold atI ixN
  have h : (1 : Int) < (xs.length : Int) + 1 + 1 := by omega
  simp [h]
@[simp] theorem ix2 {x y z : D} {xs : List D} : ixD st (.tup (x :: y :: z :: xs)) (.int 2) = some z := by
  show atI (x :: y :: z :: xs) 2 = _
  unfold atI ixN
  have h : (2 : Int) < (xs.length : Int) + 1 + 1 + 1 := by omega
  simp [h]
@[simp] theorem ix3 {x y z u : D} {xs : List D} : ixD st (.tup (x :: y :: z :: u :: xs)) (.int 3) = some u := by
  show atI (x :: y :: z :: u :: xs) 3 = _
  unfold atI ixN
  have h : (3 : Int) < (xs.length : Int) + 1 + 1 + 1 + 1 := by omega
  simp [h]
theorem ix_lst {xs : List D} {i : D} : ixD st (.lst xs) i = ixD st (.tup xs) i := by cases i <;> rfl
@[simp] theorem ix0L {x : D} {xs : List D} : ixD st (.lst (x :: xs)) (.int 0) = some x := by rw [ix_lst, ix0]
@[simp] theorem ix1L {x y : D} {xs : List D} : ixD st (.lst (x :: y :: xs)) (.int 1) = some y := by rw [ix_lst, ix1]
@[simp] theorem ix2L {x y z : D} {xs : List D} : ixD st (.lst (x :: y :: z :: xs)) (.int 2) = some z := by rw [ix_lst, ix2]
@[simp] theorem sz1 : (1 ≤ sizeLine) = True := eq_true (by decide)
@[simp] theorem sz2 : (2 ≤ sizeLine) = True := eq_true (by decide)
@[simp] theorem sz3 : (3 ≤ sizeLine) = True := eq_true (by decide)
@[simp] theorem sz4 : (4 ≤ sizeLine) = True := eq_true (by decide)
@[simp] theorem sz5 : (5 ≤ sizeLine) = True := eq_true (by decide)
@[simp] theorem sz6 : (6 ≤ sizeLine) = True := eq_true (by decide)
@[simp] theorem sz7 : (7 ≤ sizeLine) = True := eq_true (by decide)
@[simp] theorem sz8 : (8 ≤ sizeLine) = True := eq_true (by decide)
@[simp] theorem sz9 : (9 ≤ sizeLine) = True := eq_true (by decide)
@[simp] theorem sz10 : (10 ≤ sizeLine) = True := eq_true (by decide)
@[simp] theorem sz11 : (11 ≤ sizeLine) = True := eq_true (by decide)
@[simp] theorem sl0 : (0 < sizeLine) = True := eq_true (by decide)
@[simp] theorem sl1 : (1 < sizeLine) = True := eq_true (by decide)
@[simp] theorem sl2 : (2 < sizeLine) = True := eq_true (by decide)
@[simp] theorem sl3 : (3 < sizeLine) = True := eq_true (by decide)
@[simp] theorem sl4 : (4 < sizeLine) = True := eq_true (by decide)
@[simp] theorem sl5 : (5 < sizeLine) = True := eq_true (by decide)
@[simp] theorem sl6 : (6 < sizeLine) = True := eq_true (by decide)
@[simp] theorem sl7 : (7 < sizeLine) = True := eq_true (by decide)
@[simp] theorem sl8 : (8 < sizeLine) = True := eq_true (by decide)
@[simp] theorem sl9 : (9 < sizeLine) = True := eq_true (by decide)
@[simp] theorem sl10 : (10 < sizeLine) = True := eq_true (by decide)
@[simp] theorem sl11 : (11 < sizeLine) = True := eq_true (by decide)
end
/-! ### an int in digits -/
theorem str_len {i : Int} {k : Nat} (hk : 0 < k) (h0 : 0 ≤ i) (h : i < 10 ^ k) : (PySem.Str.ofString (toString i)).length ≤ k := toString_length_le h0 hk h
end MP

set_option Elab.async false
set_option linter.all false
set_option maxRecDepth 100000
set_option maxHeartbeats 4000000
set_option exponentiation.threshold 700
namespace MP
open PySem L2 PyProof.Rows
/-! ### the text of small data -/
def SmI (i : Int) : Prop := i.natAbs < 10 ^ 500
/-- data whose text is short: N its bulk, k its depth -/
def Rp (st : DS) (d : D) (N k : Nat) : Prop := ∃ p, pd st d = some p ∧ p.showable = true ∧ p.leavesShort 600 = true ∧ p.bulk ≤ N ∧ p.depth ≤ k ∧ p.hasDict = false
def RpL (st : DS) (ds : List D) (N k : Nat) : Prop := ∃ p, pdL st ds = some p ∧ PyData.showableAll p = true ∧ PyData.leavesShortAll 600 p = true ∧ PyData.bulkAll p ≤ N ∧ PyData.depthAll p ≤ k ∧ PyData.hasDictAll p = false
section
variable {st : DS}
theorem Rp.int {i : Int} (h : SmI i) : Rp st (.int i) 0 0 := by
  refine ⟨.int i, by simp only [pd], ?_, ?_, by simp [PyData.bulk], by simp [PyData.depth], by simp [PyData.hasDict]⟩
  · simp only [PyData.showable, decide_eq_true_eq]
    by_cases z : i.natAbs = 0
    · rw [z]; decide
    · exact (Nat.log2_lt z).mpr (Nat.lt_of_lt_of_le h (by decide +kernel))
  · simp only [PyData.leavesShort, decide_eq_true_eq]
    have e := int_text_length_le10 (a := i) (k := 500) (by decide) h
    show (Str.ofString (toString i)).length ≤ 600
    rw [PySem.ofString_length]
    exact Nat.le_trans (by first | exact e | simpa [String.length] using e) (by decide)
theorem Rp.str {s : Str} {N : Nat} (h : (s.cps.toList.all fun c => decide (c < 16 ^ 8)) = true) (hn : s.cps.size ≤ N) : Rp st (.str s) N 0 :=
  ⟨.str s, by simp only [pd], by simp [PyData.showable], by simpa only [PyData.leavesShort] using h, by simpa only [PyData.bulk] using hn, by simp [PyData.depth], by simp [PyData.hasDict]⟩
theorem RpL.nil : RpL st [] 0 0 := ⟨[], by simp only [pdL], by simp [PyData.showableAll], by simp [PyData.leavesShortAll], by simp [PyData.bulkAll], by simp [PyData.depthAll], by simp [PyData.hasDictAll]⟩
theorem RpL.cons {d : D} {ds : List D} {N M k j : Nat} (h : Rp st d N k) (hs : RpL st ds M j) : RpL st (d :: ds) (N + 1 + M) (max k j) := by
  obtain ⟨p, a1, a2, a3, a4, a5, a6⟩ := h
  obtain ⟨q, b1, b2, b3, b4, b5, b6⟩ := hs
  refine ⟨p :: q, by simp only [pdL, a1, b1], by simp only [PyData.showableAll, a2, b2]; rfl, by simp only [PyData.leavesShortAll, a3, b3]; rfl, ?_, ?_, by simp only [PyData.hasDictAll, a6, b6]; rfl⟩
  · simp only [PyData.bulkAll]; omega
  · simp only [PyData.depthAll]; omega
theorem RpL.mono {ds : List D} {N M k j : Nat} (h : RpL st ds N k) (a : N ≤ M) (b : k ≤ j) : RpL st ds M j := by
  obtain ⟨p, a1, a2, a3, a4, a5, a6⟩ := h
  exact ⟨p, a1, a2, a3, Nat.le_trans a4 a, Nat.le_trans a5 b, a6⟩
theorem Rp.mono {ds : D} {N M k j : Nat} (h : Rp st ds N k) (a : N ≤ M) (b : k ≤ j) : Rp st ds M j := by
  obtain ⟨p, a1, a2, a3, a4, a5, a6⟩ := h
  exact ⟨p, a1, a2, a3, Nat.le_trans a4 a, Nat.le_trans a5 b, a6⟩
theorem Rp.tup {ds : List D} {N k : Nat} (h : RpL st ds N k) : Rp st (.tup ds) N (k + 1) := by
  obtain ⟨p, a1, a2, a3, a4, a5, a6⟩ := h
  refine ⟨.tuple p, by simp only [pd, a1, Option.map_some], by simpa only [PyData.showable] using a2, by simpa only [PyData.leavesShort] using a3, by simpa only [PyData.bulk] using a4, ?_, by simpa only [PyData.hasDict] using a6⟩
  simp only [PyData.depth]; omega
theorem Rp.lst {ds : List D} {N k : Nat} (h : RpL st ds N k) : Rp st (.lst ds) N (k + 1) := by
  obtain ⟨p, a1, a2, a3, a4, a5, a6⟩ := h
  refine ⟨.list p, by simp only [pd, a1, Option.map_some], by simpa only [PyData.showable] using a2, by simpa only [PyData.leavesShort] using a3, by simpa only [PyData.bulk] using a4, ?_, by simpa only [PyData.hasDict] using a6⟩
  simp only [PyData.depth]; omega
/-- repr is told -/
theorem Rp.repr {d : D} {N k : Nat} (h : Rp st d N k) (hN : N ≤ 20000) (hk : k ≤ 50) : ∃ s, biD .repr st [d] = some (.str s) := by
  obtain ⟨p, a1, a2, a3, a4, a5, a6⟩ := h
  have l := PyData.shown_le_bulk 600 (by decide) p a3
  have l2 : p.shown.length ≤ sizeLine := by
    have e : sizeLine = 16777216 := by decide
    omega
  refine ⟨p.shown, ?_⟩
  show (match pd st d with | some p => if p.showable && decide (p.shown.length ≤ sizeLine) && decide (p.depth ≤ 60) && !p.hasDict then some (D.str p.shown) else none | none => none) = _
  rw [a1]
  dsimp only
  rw [if_pos (by rw [a2, a6, decide_eq_true l2, decide_eq_true (by omega : p.depth ≤ 60)]; rfl)]
end
theorem mulOk_e {i j : Int} {a b : Nat} (h1 : i.natAbs < 2 ^ a) (h2 : j.natAbs < 2 ^ b) (h : a + b ≤ 100000000) : mulOk i j = true := by
  have x := bits_le h1
  have y := bits_le h2
  have e : Builtin.Int.intTooBig ((Builtin.Int.intBits i : Int) + (Builtin.Int.intBits j : Int)) = false := by
    unfold Builtin.Int.intTooBig bitsLine
    exact decide_eq_false (by omega)
  unfold mulOk
  rw [e, Bool.and_false]
  rfl
theorem grow {t k b : Int} {e m : Nat} (h1 : t.natAbs < 2 ^ e) (h2 : b.natAbs < 2 ^ e) (hk : k.natAbs < 2 ^ m) {w : Nat} (hw : w = m + 1) : (t + k * b).natAbs < 2 ^ (e + w) := by
  subst hw
  have a := Int.natAbs_add_le t (k * b)
  rw [Int.natAbs_mul] at a
  have p : k.natAbs * b.natAbs ≤ 2 ^ m * 2 ^ e := Nat.mul_le_mul (by omega) (by omega)
  have p' : k.natAbs * b.natAbs ≤ (2 ^ m - 1) * 2 ^ e := Nat.mul_le_mul (by omega) (by omega)
  have q : (2 ^ m - 1) * 2 ^ e = 2 ^ m * 2 ^ e - 2 ^ e := by rw [Nat.sub_mul, Nat.one_mul]
  have o : 2 ^ e ≤ 2 ^ m * 2 ^ e := Nat.le_mul_of_pos_left _ (Nat.two_pow_pos m)
  have r : 2 ^ (e + (m + 1)) = 2 * (2 ^ m * 2 ^ e) := by
    rw [Nat.pow_add, Nat.pow_succ, Nat.mul_comm, Nat.mul_comm (2 ^ m) 2, Nat.mul_assoc]
  omega
end MP

set_option Elab.async false
set_option linter.all false
set_option maxRecDepth 100000
set_option maxHeartbeats 4000000
namespace MP
open PySem L2 PyProof.Rows
/-! ### what every law draws from -/
def fSource : FDef := { nm := "_law_source", gl := true, np := 1, iso := false, lam := false, N := ["script", "mixed", "cell"], body := [
    .asg (.nm 1) (.lit (.int 11)),
    .forr (.nm 2) .seq [.var 0] [.asg (.nm 1) (.bin .mod (.bi .int [.bin .add (.bin .add (.bin .mul (.var 1) (.lit (.int 69069))) (.bin .mul (.var 2) (.lit (.int 31)))) (.lit (.int 5))]) (.lit (.int 2147483629)))],
    .ret (.dic true [.lit (.str "cells"), .rev true (.lc false (.bi .abs [.var 2]) (.nm 2) .seq [.var 0] [] [2]), .lit (.str "left"), .lit (.int 1), .lit (.str "mixed"), .var 1, .lit (.str "turn"), .lit (.int 0)])] }
def pickC : E := .and (.cmp .gt (.var 1) (.lit (.int 1))) (.and (.cmp .lt (.dix (.var 0) (.lit (.str "left"))) (.lit (.int 2))) (.cmp .gt (.bi .len [.dix (.var 0) (.lit (.str "cells"))]) (.lit (.int 0))))
def pickB : List S := [.asg (.sub (.var 0) (.lit (.str "left"))) (.meth .pop (.dix (.var 0) (.lit (.str "cells"))) [])]
def fPick : FDef := { nm := "_law_pick", gl := true, np := 2, iso := false, lam := false, N := ["source", "many", "left", "mixed"], body := [
    .whl pickC pickB,
    .asg (.nm 2) (.dix (.var 0) (.lit (.str "left"))),
    .ife (.or (.cmp .lt (.var 1) (.lit (.int 2))) (.cmp .gt (.var 2) (.lit (.int 1)))) [.asg (.sub (.var 0) (.lit (.str "left"))) (.bin .fdiv (.var 2) (.bi .max [.lit (.int 1), .var 1])), .ret (.bin .mod (.bi .int [.var 2]) (.bi .max [.lit (.int 1), .var 1]))] [],
    .asg (.sub (.var 0) (.lit (.str "turn"))) (.bin .add (.dix (.var 0) (.lit (.str "turn"))) (.lit (.int 1))),
    .asg (.nm 3) (.bin .mod (.bi .int [.bin .add (.dix (.var 0) (.lit (.str "mixed"))) (.bin .mul (.dix (.var 0) (.lit (.str "turn"))) (.lit (.int 104729)))]) (.lit (.int 998244353))),
    .asg (.nm 3) (.bin .mod (.bi .int [.bin .add (.bin .mul (.var 3) (.var 3)) (.bin .mul (.dix (.var 0) (.lit (.str "turn"))) (.lit (.int 17)))]) (.lit (.int 2147483647))),
    .asg (.sub (.var 0) (.lit (.str "mixed"))) (.var 3),
    .ret (.bin .mod (.bi .int [.bin .fdiv (.var 3) (.lit (.int 16))]) (.var 1))] }
def fOf (i : Nat) : FDef := { nm := "_law_of", gl := true, np := 2, iso := false, lam := false, N := ["source", "some"], body := [
    .ret (.ix (.var 1) (.call i [.var 0, .bi .len [.var 1]]))] }
/-- the state of what is drawn from, and what stands behind it -/
def srcSt (rc : List Int) (l m t : Int) (rest : DS) : DS := .lst (rc.map D.int).reverse :: .dic [(.str "cells", .ref 0), (.str "left", .int l), (.str "mixed", .int m), (.str "turn", .int t)] :: rest
def Src (st rest : DS) : Prop := ∃ rc l m t, rc.length ≤ 63 ∧ st = srcSt rc l m t rest
section
variable {rc : List Int} {l m t : Int} {rest : DS}
theorem s_get0 : getO (srcSt rc l m t rest) 0 = some (.lst (rc.map D.int).reverse) := (rfl)
theorem s_get1 : getO (srcSt rc l m t rest) 1 = some (.dic [(.str "cells", .ref 0), (.str "left", .int l), (.str "mixed", .int m), (.str "turn", .int t)]) := (rfl)
theorem s_cells : dixD (srcSt rc l m t rest) (.ref 1) (.str "cells") = some (.ref 0) := (rfl)
theorem s_left : dixD (srcSt rc l m t rest) (.ref 1) (.str "left") = some (.int l) := (rfl)
theorem s_mixed : dixD (srcSt rc l m t rest) (.ref 1) (.str "mixed") = some (.int m) := (rfl)
theorem s_turn : dixD (srcSt rc l m t rest) (.ref 1) (.str "turn") = some (.int t) := (rfl)
theorem s_pleft {k : Int} : subD (srcSt rc l m t rest) (.ref 1) (.str "left") (.int k) = some (srcSt rc k m t rest) := by
  show (if 4 < sizeLine then _ else none) = _
  rw [if_pos (by decide)]
  rfl
theorem s_pmixed {k : Int} : subD (srcSt rc l m t rest) (.ref 1) (.str "mixed") (.int k) = some (srcSt rc l k t rest) := by
  show (if 4 < sizeLine then _ else none) = _
  rw [if_pos (by decide)]
  rfl
theorem s_pturn {k : Int} : subD (srcSt rc l m t rest) (.ref 1) (.str "turn") (.int k) = some (srcSt rc l m k rest) := by
  show (if 4 < sizeLine then _ else none) = _
  rw [if_pos (by decide)]
  rfl
theorem s_len : biD .len (srcSt rc l m t rest) [.ref 0] = some (.int rc.length) := by
  rw [bi_lenR s_get0, List.length_reverse, List.length_map]
theorem m_pop {st : DS} {n : Nat} {ys : List D} {y : D} (h : getO st n = some (.lst (ys ++ [y]))) : methD .pop st (.ref n) [] = .ok y (setO st n (.lst ys)) := by
  unfold methD
  dsimp only
  rw [h]
  have e1 : (ys ++ [y])[(ys ++ [y]).length - 1]? = some y := by simp
  dsimp only
  rw [e1, List.dropLast_concat]
theorem m_append {st : DS} {n : Nat} {ys : List D} {y : D} (h : getO st n = some (.lst ys)) (hl : ys.length < sizeLine) : methD .append st (.ref n) [y] = .ok .non (setO st n (.lst (ys ++ [y]))) := by
  unfold methD
  dsimp only
  rw [h]
  dsimp only
  rw [if_pos hl]
theorem s_pop {c : Int} : methD .pop (srcSt (c :: rc) l m t rest) (.ref 0) [] = .ok (.int c) (srcSt rc l m t rest) := by
  have e : ((c :: rc).map D.int).reverse = (rc.map D.int).reverse ++ [.int c] := by simp
  rw [m_pop (s_get0.trans (by rw [e]))]
  rfl
theorem s_mty : mtyD .pop (srcSt rc l m t rest) (.ref 0) = true := (rfl)
end
section
variable {P : Nat → Option FDef} {i n : Nat}
theorem whileL_t {c : Env → DS → R Bool} {b : Env → DS → RS} {k : Nat} {ρ ρ' : Env} {st st1 st' : DS} (hc : c ρ st = .ok true st1) (hb : b ρ st1 = .nx ρ' st') : whileL c b (k + 1) ρ st = whileL c b k ρ' st' := by
  show (c ρ st).to ρ _ = _
  rw [hc]
  simp only [to_ok, if_true, hb]
theorem whileL_f {c : Env → DS → R Bool} {b : Env → DS → RS} {k : Nat} {ρ : Env} {st st1 : DS} (hc : c ρ st = .ok false st1) : whileL c b (k + 1) ρ st = .nx ρ st1 := by
  show (c ρ st).to ρ _ = _
  rw [hc]
  simp
def pickM (x : Int) : Int := if x > 1 then x else 1
theorem pickM_pos {x : Int} : pickM x ≠ 0 := by unfold pickM; split <;> omega
/-- the cells are taken till one is left of -/
theorem pick_loop {C : Nat → List D → DS → R D} {many m t : Int} {rest : DS} {x y : Option D} : ∀ (rc : List Int) (l : Int) (fu : Nat), rc.length < fu →
    ∃ rc' l', rc'.length ≤ rc.length ∧ whileL (evalT C pickC) (execs C pickB) fu [some (.ref 1), some (.int many), x, y] (srcSt rc l m t rest) = .nx [some (.ref 1), some (.int many), x, y] (srcSt rc' l' m t rest)
  | rc, l, 0, h => by omega
  | rc, l, fu + 1, h => by
    by_cases hc : 1 < many ∧ l < 2 ∧ 0 < rc.length
    · obtain ⟨h1, h2, h3⟩ := hc
      cases rc with
      | nil => simp at h3
      | cons c rc =>
        obtain ⟨rc', l', e1, e2⟩ := pick_loop (C := C) (many := many) (m := m) (t := t) (rest := rest) (x := x) (y := y) rc c fu (by simp only [List.length_cons] at h; omega)
        refine ⟨rc', l', by simp only [List.length_cons]; omega, ?_⟩
        rw [← e2]
        have h3' : (0 : Int) < ((c :: rc).length : Nat) := by omega
        refine whileL_t (st1 := srcSt (c :: rc) l m t rest) ?_ ?_
        · simp only [pickC, eT_and, eT_cmp, ev_var, getV_s, getV_z, of_some, bind_ok, ev_lit, c_gt, c_lt, ev_dix, s_left, s_cells, ev_bi, eL_c, eL_n, s_len, h1, h2, h3', decide_true, if_true]
        · simp only [pickB, exs_c, exs_n, ex_asg, aT_sub, ev_meth, ev_dix, ev_var, ev_lit, getV_s, getV_z, of_some, bind_ok, s_cells, s_mty, if_true, eL_n, s_pop, to_ok, s_pleft, sbind_nx]
    · refine ⟨rc, l, Nat.le_refl _, ?_⟩
      refine whileL_f ?_
      by_cases h1 : 1 < many
      · by_cases h2 : l < 2
        · have h3 : ¬ (0 : Int) < (rc.length : Nat) := by omega
          simp only [pickC, eT_and, eT_cmp, ev_var, getV_s, getV_z, of_some, bind_ok, ev_lit, c_gt, c_lt, ev_dix, s_left, s_cells, ev_bi, eL_c, eL_n, s_len, h1, h2, h3, decide_true, decide_false, if_true]
        · simp only [pickC, eT_and, eT_cmp, ev_var, getV_s, getV_z, of_some, bind_ok, ev_lit, c_gt, c_lt, ev_dix, s_left, s_cells, ev_bi, eL_c, eL_n, s_len, h1, h2, decide_true, decide_false, if_true, if_false, Bool.false_eq_true]
      · simp only [pickC, eT_and, eT_cmp, ev_var, getV_s, getV_z, of_some, bind_ok, ev_lit, c_gt, h1, decide_false, if_false, Bool.false_eq_true]
theorem fmod_lt' {a b : Int} (h : 0 < b) : 0 ≤ a.fmod b ∧ a.fmod b < b := by
  rw [Int.fmod_eq_emod_of_nonneg _ (by omega)]
  exact ⟨Int.emod_nonneg _ (by omega), Int.emod_lt_of_pos _ h⟩
theorem pick_ok (h : P i = some fPick) {st rest : DS} (hs : Src st rest) {many : Int} (h1 : 1 ≤ many) (hb : many.natAbs < 2 ^ 8000) :
    ∃ r st', callN P (n + 1) i [.ref 1, .int many] st = .ok (.int r) st' ∧ 0 ≤ r ∧ r < many ∧ Src st' rest := by
  obtain ⟨rc, l, m, t, hl, rfl⟩ := hs
  rw [call_eq h rfl rfl (by show 2 ≤ 4; decide)]
  obtain ⟨rc', l', e1, e2⟩ := pick_loop (C := callN P n) (many := many) (m := m) (t := t) (rest := rest) (x := none) (y := none) rc l fuel (Nat.lt_of_le_of_lt hl (by decide +kernel))
  have e3 := (ex_whl (C := callN P n) (c := pickC) (b := pickB)).trans e2
  have hm : (if many > 1 then many else 1) = many := by split <;> omega
  have hd : divOk l' many = true := divOk_r hb (by omega)
  have hn : many ≠ 0 := by omega
  by_cases hx : many < 2 ∨ 1 < l'
  · refine ⟨_, srcSt rc' (l'.fdiv many) m t rest, ?_, (fmod_lt' (a := l') h1).1, (fmod_lt' (a := l') h1).2, rc', _, _, _, by omega, rfl⟩
    have ec : evalT (callN P n) (.or (.cmp .lt (.var 1) (.lit (.int 2))) (.cmp .gt (.var 2) (.lit (.int 1)))) [some (.ref 1), some (.int many), some (.int l'), none] (srcSt rc' l' m t rest) = .ok true (srcSt rc' l' m t rest) := by
      by_cases h2 : many < 2
      · simp [h2]
      · have h3 : 1 < l' := by omega
        simp [h2, h3]
    simp only [fPick, List.map_cons, List.map_nil, List.length_cons, List.length_nil, List.replicate, List.cons_append, List.nil_append, exs_c, exs_n, e3, sbind_nx, ex_asg, ev_dix, ev_var, ev_lit, getV_s, getV_z, of_some, bind_ok, s_left, to_ok, aT_nm, setV_s, setV_z, ex_ife, ec, if_true, aT_sub, ev_bin, ev_bi, eL_c, eL_n, bi_max, hm, b_div hd, s_pleft, ex_ret, bi_int, b_mod hn, sbind_ret, end_ret]
  · have ec : evalT (callN P n) (.or (.cmp .lt (.var 1) (.lit (.int 2))) (.cmp .gt (.var 2) (.lit (.int 1)))) [some (.ref 1), some (.int many), some (.int l'), none] (srcSt rc' l' m t rest) = .ok false (srcSt rc' l' m t rest) := by
      have h2 : ¬ many < 2 := by omega
      have h3 : ¬ 1 < l' := by omega
      simp [h2, h3]
    have b0 : ∀ a : Int, mulOk a 104729 = true := fun a => mulOk_r (by decide)
    have b3 : ∀ a : Int, mulOk a 17 = true := fun a => mulOk_r (by decide)
    have b1 : ∀ a : Int, binD .mod = binD .mod := fun a => rfl
    generalize hA : (m + (t + 1) * 104729).fmod 998244353 = A
    have hA1 : A.natAbs < 2 ^ 64 := by
      have := fmod_lt' (a := m + (t + 1) * 104729) (b := 998244353) (by decide)
      rw [hA] at this
      have e : (2 : Nat) ^ 64 = 18446744073709551616 := by decide
      omega
    have b2 : mulOk A A = true := mulOk_l hA1
    have d16 : ∀ a : Int, divOk a 16 = true := fun a => divOk_r (by decide +kernel) (by decide)
    refine ⟨_, srcSt rc' l' ((A * A + (t + 1) * 17).fmod 2147483647) (t + 1) rest, ?_, (fmod_lt' (a := ((A * A + (t + 1) * 17).fmod 2147483647).fdiv 16) h1).1, (fmod_lt' (a := ((A * A + (t + 1) * 17).fmod 2147483647).fdiv 16) h1).2, rc', _, _, _, by omega, rfl⟩
    have n1 : (998244353 : Int) ≠ 0 := by decide
    have n2 : (2147483647 : Int) ≠ 0 := by decide
    simp only [fPick, List.map_cons, List.map_nil, List.length_cons, List.length_nil, List.replicate, List.cons_append, List.nil_append, exs_c, exs_n, e3, sbind_nx, ex_asg, ev_dix, ev_var, ev_lit, getV_s, getV_z, of_some, bind_ok, s_left, s_turn, s_mixed, to_ok, aT_nm, setV_s, setV_z, ex_ife, ec, if_false, Bool.false_eq_true, aT_sub, ev_bin, ev_bi, eL_c, eL_n, b_add, b_mul (b0 _), b_mul (b3 _), b_mul b2, s_pturn, bi_int, b_mod n1, b_mod n2, hA, s_pmixed, b_div (d16 _), b_mod hn, ex_ret, sbind_ret, end_ret]
/-- one of a list -/
theorem of_ok {j : Nat} (h : P i = some fPick) (h2 : P j = some (fOf i)) {st rest : DS} (hs : Src st rest) {ds : List D} (h0 : 0 < ds.length) (hl : ds.length ≤ 1000000) :
    ∃ k st', ∃ hk : k < ds.length, callN P (n + 2) j [.ref 1, .lst ds] st = .ok ds[k] st' ∧ Src st' rest := by
  obtain ⟨r, st', e, r0, r1, s⟩ := pick_ok (n := n) h hs (many := (ds.length : Nat)) (by omega) (Nat.lt_of_le_of_lt (by omega : ((ds.length : Nat) : Int).natAbs ≤ 1000000) (by decide +kernel))
  have hk : r.toNat < ds.length := by omega
  refine ⟨r.toNat, st', hk, ?_, s⟩
  rw [call_eq h2 rfl rfl (by show 2 ≤ 2; decide)]
  have e2 : ixD st' (.lst ds) (.int r) = some ds[r.toNat] := by
    show (match seqD st' (.lst ds) with | some xs => atI xs r | none => none) = _
    show atI ds r = _
    unfold atI ixN
    have a1 : ¬ r < 0 := by omega
    have a2 : r < (ds.length : Int) := by omega
    simp [a1, a2, r0, List.getElem?_eq_getElem hk]
  simp only [fOf, List.map_cons, List.map_nil, List.length_cons, List.length_nil, List.replicate, List.append_nil, exs_c, exs_n, ex_ret, ev_ix, ev_var, ev_call, eL_c, eL_n, ev_bi, getV_s, getV_z, of_some, bind_ok, bi_lenL, e, e2, to_ok, sbind_ret, end_ret, Nat.sub_self]
theorem lcL_map {α : Type} {f : D → DS → R (Option D)} {a g : α → D} {st : DS} : ∀ (xs : List α) (acc : List D), (∀ x ∈ xs, f (a x) st = .ok (some (g x)) st) → acc.length + xs.length ≤ sizeLine → lcL f (xs.map a) acc st = .ok (acc ++ xs.map g) st
  | [], acc, _, _ => by simp [lcL_n]
  | x :: xs, acc, h, hl => by
    have hl' : acc.length < sizeLine := by simp only [List.length_cons] at hl; omega
    rw [List.map_cons, lcL_y (h x (List.mem_cons_self ..)) hl', lcL_map xs (acc ++ [g x]) (fun y hy => h y (List.mem_cons_of_mem _ hy)) (by simp only [List.length_append, List.length_cons, List.length_nil] at hl ⊢; omega)]
    simp
theorem lcL_flt {α : Type} {f : D → DS → R (Option D)} {a g : α → D} {p : α → Bool} {st : DS} : ∀ (xs : List α) (acc : List D), (∀ x ∈ xs, f (a x) st = .ok (if p x then some (g x) else none) st) → acc.length + xs.length ≤ sizeLine → lcL f (xs.map a) acc st = .ok (acc ++ (xs.filter p).map g) st
  | [], acc, _, _ => by simp [lcL_n]
  | x :: xs, acc, h, hl => by
    have hl' : acc.length < sizeLine := by simp only [List.length_cons] at hl; omega
    have hx := h x (List.mem_cons_self ..)
    by_cases q : p x = true
    · rw [if_pos q] at hx
      rw [List.map_cons, lcL_y hx hl', lcL_flt xs (acc ++ [g x]) (fun y hy => h y (List.mem_cons_of_mem _ hy)) (by simp only [List.length_append, List.length_cons, List.length_nil] at hl ⊢; omega)]
      simp [List.filter_cons, q]
    · rw [if_neg q] at hx
      rw [List.map_cons, lcL_z hx, lcL_flt xs acc (fun y hy => h y (List.mem_cons_of_mem _ hy)) (by simp only [List.length_cons] at hl ⊢; omega)]
      simp [List.filter_cons, q]
theorem source_loop {C : Nat → List D → DS → R D} {s : Option D} {st : DS} : ∀ (ns : List Int) (m : Int) (x : Option D), ∃ m' x', forL (forB C (.nm 2) [.asg (.nm 1) (.bin .mod (.bi .int [.bin .add (.bin .add (.bin .mul (.var 1) (.lit (.int 69069))) (.bin .mul (.var 2) (.lit (.int 31)))) (.lit (.int 5))]) (.lit (.int 2147483629)))]) (ns.map D.int) [s, some (.int m), x] st = .nx [s, some (.int m'), x'] st
  | [], m, x => ⟨m, x, rfl⟩
  | c :: ns, m, x => by
    have b1 : mulOk m 69069 = true := mulOk_r (by decide)
    have b2 : mulOk c 31 = true := mulOk_r (by decide)
    have n1 : (2147483629 : Int) ≠ 0 := by decide
    obtain ⟨m', x', e⟩ := source_loop ns ((m * 69069 + c * 31 + 5).fmod 2147483629) (some (.int c))
    refine ⟨m', x', ?_⟩
    rw [List.map_cons, ← e]
    refine forL_c ?_
    simp only [forB_eq, tnD_nm, of_some, to_ok, setV_s, setV_z, exs_c, exs_n, ex_asg, ev_bin, ev_bi, eL_c, eL_n, ev_var, ev_lit, getV_s, getV_z, bind_ok, b_mul b1, b_mul b2, b_add, bi_int, b_mod n1, aT_nm, sbind_nx]
theorem source_ok (h : P i = some fSource) (ns : List Int) (hl : ns.length ≤ 63) : ∃ st', callN P (n + 1) i [.scr (ns.map D.int)] [] = .ok (.ref 1) st' ∧ Src st' [] := by
  rw [call_eq h rfl rfl (by show 1 ≤ 3; decide)]
  obtain ⟨m, x, e⟩ := source_loop (C := callN P n) (s := some (.scr (ns.map D.int))) (st := []) ns 11 none
  refine ⟨srcSt (ns.map fun (c : Int) => ((c.natAbs : Nat) : Int)) 1 m 0 [], ?_, _, _, _, _, by simpa using hl, rfl⟩
  have e2 : lcL (lcW (callN P n) (.bi .abs [.var 2]) (.nm 2) [] [2] [some (.scr (ns.map D.int)), some (.int m), x]) (ns.map D.int) [] [] = .ok (ns.map fun (c : Int) => D.int ((c.natAbs : Nat) : Int)) [] := by
    have := lcL_map (f := lcW (callN P n) (.bi .abs [.var 2]) (.nm 2) [] [2] [some (.scr (ns.map D.int)), some (.int m), x]) (a := D.int) (g := fun (c : Int) => D.int ((c.natAbs : Nat) : Int)) (st := []) ns [] (fun c _ => by
      simp only [lcW_eq, tnD_nm, wipeV_c, wipeV_n, setV_s, setV_z, of_some, bind_ok, eTs_n, if_true, ev_bi, eL_c, eL_n, ev_var, getV_s, getV_z, bi_abs]) (Nat.le_trans (by simpa using hl) (by decide : 63 ≤ sizeLine))
    rw [this, List.nil_append]
  have e3 : itD .seq [] [.scr (ns.map D.int)] = some (ns.map D.int) := (rfl)
  have e4 : lisD [] (.lst (ns.map fun (c : Int) => D.int ((c.natAbs : Nat) : Int))) = some (ns.map fun (c : Int) => D.int ((c.natAbs : Nat) : Int)) := (rfl)
  have e5 : ∀ st : DS, evalL (callN P n) [.lit (.str "cells"), .rev true (.lc false (.bi .abs [.var 2]) (.nm 2) .seq [.var 0] [] [2]), .lit (.str "left"), .lit (.int 1), .lit (.str "mixed"), .var 1, .lit (.str "turn"), .lit (.int 0)] [some (.scr (ns.map D.int)), some (.int m), x] [] = .ok [.str "cells", .ref 0, .str "left", .int 1, .str "mixed", .int m, .str "turn", .int 0] [.lst (ns.map fun (c : Int) => D.int ((c.natAbs : Nat) : Int)).reverse] := fun st => by
    simp only [eL_c, eL_n, ev_lit, ev_rev, ev_lc, ev_var, getV_s, getV_z, of_some, bind_ok, e2, e3, e4, newL_f, newL_t, List.length_nil, List.nil_append]
  have e6 := ev_dic (m := true) (e5 []) (kvs := [(.str "cells", .ref 0), (.str "left", .int 1), (.str "mixed", .int m), (.str "turn", .int 0)]) (by rfl) ⟨by show 4 ≤ 15; decide, by rfl⟩
  have e7 : mergeP [] [((.str "cells" : D), (.ref 0 : D)), (.str "left", .int 1), (.str "mixed", .int m), (.str "turn", .int 0)] = [(.str "cells", .ref 0), (.str "left", .int 1), (.str "mixed", .int m), (.str "turn", .int 0)] := by rfl
  rw [e7] at e6
  simp only [fSource, List.map_cons, List.map_nil, List.length_cons, List.length_nil, List.replicate, List.cons_append, List.nil_append, exs_c, exs_n, ex_asg, ev_lit, to_ok, aT_nm, setV_s, setV_z, sbind_nx, ex_for, eL_c, eL_n, ev_var, getV_s, getV_z, of_some, bind_ok, e3, e, ex_ret, e6, newD_t, sbind_ret, end_ret, srcSt, List.map_map, Function.comp_def]
end
end MP

set_option Elab.async false
set_option linter.all false
set_option maxRecDepth 100000
set_option maxHeartbeats 4000000
namespace MP
open PySem L2 PyProof.Rows
/-! ### == of data, repr of data -/
mutual
def toP : D → PyData
  | .non => .none
  | .bl b => .bool b
  | .int i => .int i
  | .str s => .str s
  | .tup xs => .tuple (toPL xs)
  | .lst xs => .list (toPL xs)
  | .scr xs => .list (toPL xs)
  | .dic _ => .none
  | .ref _ => .none
def toPL : List D → List PyData
  | [] => []
  | x :: xs => toP x :: toPL xs
end
mutual
/-- data without dicts and objects -/
def pln : D → Bool
  | .non => true
  | .bl _ => true
  | .int _ => true
  | .str _ => true
  | .tup xs => plnL xs
  | .lst xs => plnL xs
  | .scr xs => plnL xs
  | .dic _ => false
  | .ref _ => false
def plnL : List D → Bool
  | [] => true
  | x :: xs => pln x && plnL xs
end
@[simp] theorem pln_non : pln .non = true := by simp only [pln]
@[simp] theorem pln_bl {b : Bool} : pln (.bl b) = true := by simp only [pln]
@[simp] theorem pln_int {b : Int} : pln (.int b) = true := by simp only [pln]
@[simp] theorem pln_str {b : Str} : pln (.str b) = true := by simp only [pln]
@[simp] theorem pln_tup {b : List D} : pln (.tup b) = plnL b := by simp only [pln]
@[simp] theorem pln_lst {b : List D} : pln (.lst b) = plnL b := by simp only [pln]
@[simp] theorem plnL_n : plnL [] = true := by simp only [plnL]
@[simp] theorem plnL_c {x : D} {b : List D} : plnL (x :: b) = (pln x && plnL b) := by simp only [plnL]
theorem plnL_all : ∀ {b : List D}, plnL b = true ↔ ∀ x ∈ b, pln x = true
  | [] => by simp
  | x :: b => by simp [plnL_all (b := b)]
section
variable {st : DS}
mutual
theorem pd_pln : ∀ d : D, pln d = true → pd st d = some (toP d)
  | .non, _ => by simp only [pd, toP]
  | .bl _, _ => by simp only [pd, toP]
  | .int _, _ => by simp only [pd, toP]
  | .str _, _ => by simp only [pd, toP]
  | .tup xs, h => by simp only [pd, toP, pd_plnL xs (by simpa only [pln] using h), Option.map_some]
  | .lst xs, h => by simp only [pd, toP, pd_plnL xs (by simpa only [pln] using h), Option.map_some]
  | .scr xs, h => by simp only [pd, toP, pd_plnL xs (by simpa only [pln] using h), Option.map_some]
  | .dic xs, h => by simp [pln] at h
  | .ref xs, h => by simp [pln] at h
theorem pd_plnL : ∀ d : List D, plnL d = true → pdL st d = some (toPL d)
  | [], _ => by simp only [pdL, toPL]
  | x :: xs, h => by
    simp only [plnL, Bool.and_eq_true] at h
    simp only [pdL, toPL, pd_pln x h.1, pd_plnL xs h.2]
end
end
def eqP (x y : D) : Bool := PyData.eqv (toP x) (toP y)
def eqPL (x y : List D) : Bool := PyData.eqvAll (toPL x) (toPL y)
@[simp] theorem eqP_int {i j : Int} : eqP (.int i) (.int j) = decide (i = j) := by simp only [eqP, toP, PyData.eqv]; rfl
@[simp] theorem eqP_bl {i j : Bool} : eqP (.bl i) (.bl j) = decide (i = j) := by simp only [eqP, toP, PyData.eqv]; rfl
theorem str_beq {i j : Str} : (i == j) = decide (i = j) := by
  by_cases h : i = j
  · rw [decide_eq_true h, h]; exact beq_self_eq_true j
  · rw [decide_eq_false h]; exact beq_eq_false_iff_ne.mpr h
@[simp] theorem eqP_str {i j : Str} : eqP (.str i) (.str j) = decide (i = j) := by simp only [eqP, toP, PyData.eqv, str_beq]
@[simp] theorem eqP_non : eqP .non .non = true := by simp only [eqP, toP, PyData.eqv]
@[simp] theorem eqP_tup {i j : List D} : eqP (.tup i) (.tup j) = eqPL i j := by simp only [eqP, toP, PyData.eqv, eqPL]
@[simp] theorem eqP_lst {i j : List D} : eqP (.lst i) (.lst j) = eqPL i j := by simp only [eqP, toP, PyData.eqv, eqPL]
@[simp] theorem eqP_tl {i j : List D} : eqP (.tup i) (.lst j) = false := by simp only [eqP, toP, PyData.eqv]
@[simp] theorem eqP_lt {i j : List D} : eqP (.lst i) (.tup j) = false := by simp only [eqP, toP, PyData.eqv]
@[simp] theorem eqP_nt {j : List D} : eqP .non (.tup j) = false := by simp only [eqP, toP, PyData.eqv]
@[simp] theorem eqP_tn {j : List D} : eqP (.tup j) .non = false := by simp only [eqP, toP, PyData.eqv]
@[simp] theorem eqP_it {i : Int} {j : List D} : eqP (.int i) (.tup j) = false := by simp only [eqP, toP, PyData.eqv]
@[simp] theorem eqP_ti {i : Int} {j : List D} : eqP (.tup j) (.int i) = false := by simp only [eqP, toP, PyData.eqv]
@[simp] theorem eqP_is {i : Int} {j : Str} : eqP (.int i) (.str j) = false := by simp only [eqP, toP, PyData.eqv]
@[simp] theorem eqP_si {i : Int} {j : Str} : eqP (.str j) (.int i) = false := by simp only [eqP, toP, PyData.eqv]
@[simp] theorem eqP_in {i : Int} : eqP (.int i) .non = false := by simp only [eqP, toP, PyData.eqv]
@[simp] theorem eqP_ni {i : Int} : eqP .non (.int i) = false := by simp only [eqP, toP, PyData.eqv]
@[simp] theorem eqP_ib {i : Int} {b : Bool} : eqP (.int i) (.bl b) = (i == if b then 1 else 0) := by simp only [eqP, toP, PyData.eqv]
@[simp] theorem eqP_bi {i : Int} {b : Bool} : eqP (.bl b) (.int i) = ((if b then 1 else 0) == i) := by simp only [eqP, toP, PyData.eqv]
@[simp] theorem eqPL_n : eqPL [] [] = true := by simp only [eqPL, toPL, PyData.eqvAll]
@[simp] theorem eqPL_c {x y : D} {xs ys : List D} : eqPL (x :: xs) (y :: ys) = (eqP x y && eqPL xs ys) := by simp only [eqPL, eqP, toPL, PyData.eqvAll]
@[simp] theorem eqPL_nc {y : D} {ys : List D} : eqPL [] (y :: ys) = false := by simp only [eqPL, eqP, toPL, PyData.eqvAll]
@[simp] theorem eqPL_cn {y : D} {ys : List D} : eqPL (y :: ys) [] = false := by simp only [eqPL, eqP, toPL, PyData.eqvAll]
/-- what == may be asked of -/
def Sh (d : D) (k : Nat) : Prop := pln d = true ∧ (toP d).canLay0 = true ∧ (toP d).depth ≤ k
def ShL (d : List D) (k : Nat) : Prop := plnL d = true ∧ PyData.canLayAll0 (toPL d) = true ∧ PyData.depthAll (toPL d) ≤ k
theorem Sh.int {i : Int} {k : Nat} : Sh (.int i) k := ⟨by simp, by simp [toP, PyData.canLay0], by simp [toP, PyData.depth]⟩
theorem Sh.bl {i : Bool} {k : Nat} : Sh (.bl i) k := ⟨by simp, by simp [toP, PyData.canLay0], by simp [toP, PyData.depth]⟩
theorem Sh.non {k : Nat} : Sh .non k := ⟨by simp, by simp [toP, PyData.canLay0], by simp [toP, PyData.depth]⟩
theorem Sh.str {s : Str} {k : Nat} (h : PyData.strOk s = true) : Sh (.str s) k := ⟨by simp, by simpa [toP, PyData.canLay0] using h, by simp [toP, PyData.depth]⟩
theorem ShL.nil {k : Nat} : ShL [] k := ⟨by simp, by simp [toPL, PyData.canLayAll0], by simp [toPL, PyData.depthAll]⟩
theorem ShL.cons {d : D} {ds : List D} {k : Nat} (h : Sh d k) (hs : ShL ds k) : ShL (d :: ds) k := ⟨by simp [h.1, hs.1], by simp [toPL, PyData.canLayAll0, h.2.1, hs.2.1], by
  have a := h.2.2
  have b := hs.2.2
  simp only [toPL, PyData.depthAll]; omega⟩
theorem Sh.tup {ds : List D} {k : Nat} (h : ShL ds k) : Sh (.tup ds) (k + 1) := ⟨by simp [h.1], by simp only [toP, PyData.canLay0]; exact h.2.1, by
  have a := h.2.2
  simp only [toP, PyData.depth]; omega⟩
theorem Sh.lst {ds : List D} {k : Nat} (h : ShL ds k) : Sh (.lst ds) (k + 1) := ⟨by simp [h.1], by simp only [toP, PyData.canLay0]; exact h.2.1, by
  have a := h.2.2
  simp only [toP, PyData.depth]; omega⟩
theorem Sh.mono {d : D} {j k : Nat} (h : Sh d j) (l : j ≤ k) : Sh d k := ⟨h.1, h.2.1, Nat.le_trans h.2.2 l⟩
theorem ShL.mono {d : List D} {j k : Nat} (h : ShL d j) (l : j ≤ k) : ShL d k := ⟨h.1, h.2.1, Nat.le_trans h.2.2 l⟩
theorem ShL.map {α : Type} {f : α → D} {k : Nat} (h : ∀ a, Sh (f a) k) : ∀ xs : List α, ShL (xs.map f) k
  | [] => .nil
  | x :: xs => .cons (h x) (ShL.map h xs)
theorem ShL.app {ds es : List D} {k : Nat} (h : ShL ds k) (g : ShL es k) : ShL (ds ++ es) k := by
  induction ds with
  | nil => exact g
  | cons x xs ih =>
    have a : plnL (x :: xs) = true := h.1
    have b := h.2.1
    have c := h.2.2
    simp only [plnL_c, Bool.and_eq_true] at a
    simp only [toPL, PyData.canLayAll0, Bool.and_eq_true] at b
    simp only [toPL, PyData.depthAll] at c
    exact .cons ⟨a.1, b.1, by omega⟩ (ih ⟨a.2, b.2, by omega⟩)
theorem Sh.shaped {d : D} (h : Sh d 64) : SeqAt.shaped (toP d) = true := by
  unfold SeqAt.shaped
  rw [h.2.1, decide_eq_true h.2.2]
  rfl
section
variable {st : DS}
theorem eqD_gen {x y : D} (hx : Sh x 64) (hy : Sh y 64) : eqD st x y = some (eqP x y) := by
  have key : (match pd st x, pd st y with
    | some a, some b => if SeqAt.shaped a && SeqAt.shaped b then some (PyData.eqv a b) else none
    | _, _ => none) = some (eqP x y) := by
    rw [pd_pln x hx.1, pd_pln y hy.1]
    dsimp only
    rw [hx.shaped, hy.shaped]
    rfl
  cases x with
  | int i => cases y with
    | int j => rw [eqP_int]; rfl
    | _ => exact key
  | str i => cases y with
    | str j => rw [eqP_str]; rfl
    | _ => exact key
  | bl i => cases y with
    | bl j => rw [eqP_bl]; rfl
    | _ => exact key
  | _ => exact key
theorem c_eqG {x y : D} (hx : Sh x 64) (hy : Sh y 64) : cmpD .eq st x y = some (eqP x y) := eqD_gen hx hy
theorem c_neG {x y : D} (hx : Sh x 64) (hy : Sh y 64) : cmpD .ne st x y = some (!eqP x y) := by
  show (eqD st x y).map (!·) = _
  rw [eqD_gen hx hy]
  rfl
end
/-! ### the texts of data -/
def smB (i : Int) : Bool := decide (i.natAbs < 10 ^ 500)
theorem smB_iff {i : Int} : smB i = true ↔ SmI i := by unfold smB SmI; simp
theorem smB_of {i : Int} (h : SmI i) : smB i = true := smB_iff.mpr h
def okS (s : Str) : Bool := s.cps.toList.all fun c => decide (c < 16 ^ 8)
mutual
/-- data whose numbers are not too long -/
def rq : D → Bool
  | .non => true
  | .bl _ => true
  | .int i => smB i
  | .str s => okS s
  | .tup xs => rqL xs
  | .lst xs => rqL xs
  | .scr xs => false
  | .dic xs => false
  | .ref n => false
def rqL : List D → Bool
  | [] => true
  | x :: xs => rq x && rqL xs
end
mutual
/-- bulk, as the text of data is long -/
def bk : D → Nat
  | .non => 0
  | .bl _ => 0
  | .int i => 0
  | .str s => s.cps.size
  | .tup xs => bkL xs
  | .lst xs => bkL xs
  | .scr xs => 0
  | .dic xs => 0
  | .ref n => 0
def bkL : List D → Nat
  | [] => 0
  | x :: xs => bk x + 1 + bkL xs
end
mutual
def dp : D → Nat
  | .non => 0
  | .bl _ => 0
  | .int i => 0
  | .str s => 0
  | .tup xs => dpL xs + 1
  | .lst xs => dpL xs + 1
  | .scr xs => 0
  | .dic xs => 0
  | .ref n => 0
def dpL : List D → Nat
  | [] => 0
  | x :: xs => max (dp x) (dpL xs)
end
@[simp] theorem rq_non : rq .non = true := by simp only [rq]
@[simp] theorem rq_bl {b : Bool} : rq (.bl b) = true := by simp only [rq]
@[simp] theorem rq_int {b : Int} : rq (.int b) = smB b := by simp only [rq]
@[simp] theorem rq_str {b : Str} : rq (.str b) = okS b := by simp only [rq]
@[simp] theorem rq_tup {b : List D} : rq (.tup b) = rqL b := by simp only [rq]
@[simp] theorem rq_lst {b : List D} : rq (.lst b) = rqL b := by simp only [rq]
@[simp] theorem rqL_n : rqL [] = true := by simp only [rqL]
@[simp] theorem rqL_c {x : D} {xs : List D} : rqL (x :: xs) = (rq x && rqL xs) := by simp only [rqL]
@[simp] theorem bk_non : bk .non = 0 := by simp only [bk]
@[simp] theorem bk_bl {b : Bool} : bk (.bl b) = 0 := by simp only [bk]
@[simp] theorem bk_int {b : Int} : bk (.int b) = 0 := by simp only [bk]
@[simp] theorem bk_str {b : Str} : bk (.str b) = b.cps.size := by simp only [bk]
@[simp] theorem bk_tup {b : List D} : bk (.tup b) = bkL b := by simp only [bk]
@[simp] theorem bk_lst {b : List D} : bk (.lst b) = bkL b := by simp only [bk]
@[simp] theorem bkL_n : bkL [] = 0 := by simp only [bkL]
@[simp] theorem bkL_c {x : D} {xs : List D} : bkL (x :: xs) = bk x + 1 + bkL xs := by simp only [bkL]
@[simp] theorem dp_non : dp .non = 0 := by simp only [dp]
@[simp] theorem dp_bl {b : Bool} : dp (.bl b) = 0 := by simp only [dp]
@[simp] theorem dp_int {b : Int} : dp (.int b) = 0 := by simp only [dp]
@[simp] theorem dp_str {b : Str} : dp (.str b) = 0 := by simp only [dp]
@[simp] theorem dp_tup {b : List D} : dp (.tup b) = dpL b + 1 := by simp only [dp]
@[simp] theorem dp_lst {b : List D} : dp (.lst b) = dpL b + 1 := by simp only [dp]
@[simp] theorem dpL_n : dpL [] = 0 := by simp only [dpL]
@[simp] theorem dpL_c {x : D} {xs : List D} : dpL (x :: xs) = max (dp x) (dpL xs) := by simp only [dpL]
theorem rqL_all : ∀ {b : List D}, rqL b = true ↔ ∀ x ∈ b, rq x = true
  | [] => by simp
  | x :: b => by simp [rqL_all (b := b)]
theorem rqL_app : ∀ {a b : List D}, rqL (a ++ b) = (rqL a && rqL b)
  | [], b => by simp
  | x :: a, b => by simp [rqL_app (a := a), Bool.and_assoc]
theorem bkL_app : ∀ {a b : List D}, bkL (a ++ b) = bkL a + bkL b
  | [], b => by simp
  | x :: a, b => by simp only [List.cons_append, bkL_c, bkL_app (a := a)]; omega
theorem dpL_app : ∀ {a b : List D}, dpL (a ++ b) = max (dpL a) (dpL b)
  | [], b => by simp
  | x :: a, b => by simp only [List.cons_append, dpL_c, dpL_app (a := a)]; omega
theorem bkL_le {k : Nat} : ∀ {b : List D}, (∀ x ∈ b, bk x ≤ k) → bkL b ≤ (k + 1) * b.length
  | [], _ => by simp
  | x :: b, h => by
    have a := h x (List.mem_cons_self ..)
    have c := bkL_le (b := b) fun y hy => h y (List.mem_cons_of_mem _ hy)
    simp only [bkL_c, List.length_cons, Nat.mul_add]
    omega
theorem dpL_le {k : Nat} : ∀ {b : List D}, (∀ x ∈ b, dp x ≤ k) → dpL b ≤ k
  | [], _ => by simp
  | x :: b, h => by
    have a := h x (List.mem_cons_self ..)
    have c := dpL_le (b := b) fun y hy => h y (List.mem_cons_of_mem _ hy)
    simp only [dpL_c]
    omega
mutual
theorem rq_ok : ∀ d : D, rq d = true → pln d = true ∧ (toP d).showable = true ∧ (toP d).leavesShort 600 = true ∧ (toP d).hasDict = false ∧ (toP d).bulk = bk d ∧ (toP d).depth = dp d
  | .non, _ => by simp [toP, PyData.showable, PyData.leavesShort, PyData.hasDict, PyData.bulk, PyData.depth]
  | .bl _, _ => by simp [toP, PyData.showable, PyData.leavesShort, PyData.hasDict, PyData.bulk, PyData.depth]
  | .int i, h => by
    have hi : SmI i := smB_iff.mp (by simpa using h)
    refine ⟨by simp, ?_, ?_, by simp [toP, PyData.hasDict], by simp [toP, PyData.bulk], by simp [toP, PyData.depth]⟩
    · simp only [toP, PyData.showable, decide_eq_true_eq]
      by_cases z : i.natAbs = 0
      · rw [z]; decide
      · exact (Nat.log2_lt z).mpr (Nat.lt_of_lt_of_le hi (by decide +kernel))
    · simp only [toP, PyData.leavesShort, decide_eq_true_eq]
      have e := int_text_length_le10 (a := i) (k := 500) (by decide) hi
      show (Str.ofString (toString i)).length ≤ 600
      rw [PySem.ofString_length]
      exact Nat.le_trans (by first | exact e | simpa [String.length] using e) (by decide)
  | .str s, h => by
    have hs : okS s = true := by simpa using h
    exact ⟨by simp, by simp [toP, PyData.showable], by simp only [toP, PyData.leavesShort]; exact hs, by simp [toP, PyData.hasDict], by simp [toP, PyData.bulk], by simp [toP, PyData.depth]⟩
  | .tup xs, h => by
    obtain ⟨a1, a2, a3, a4, a5, a6⟩ := rqL_ok xs (by simpa using h)
    exact ⟨by simpa using a1, by simp only [toP, PyData.showable]; exact a2, by simp only [toP, PyData.leavesShort]; exact a3, by simp only [toP, PyData.hasDict]; exact a4, by simp only [toP, PyData.bulk, bk_tup]; exact a5, by simp only [toP, PyData.depth, dp_tup]; omega⟩
  | .lst xs, h => by
    obtain ⟨a1, a2, a3, a4, a5, a6⟩ := rqL_ok xs (by simpa using h)
    exact ⟨by simpa using a1, by simp only [toP, PyData.showable]; exact a2, by simp only [toP, PyData.leavesShort]; exact a3, by simp only [toP, PyData.hasDict]; exact a4, by simp only [toP, PyData.bulk, bk_lst]; exact a5, by simp only [toP, PyData.depth, dp_lst]; omega⟩
  | .scr xs, h => by simp [rq] at h
  | .dic xs, h => by simp [rq] at h
  | .ref xs, h => by simp [rq] at h
theorem rqL_ok : ∀ d : List D, rqL d = true → plnL d = true ∧ PyData.showableAll (toPL d) = true ∧ PyData.leavesShortAll 600 (toPL d) = true ∧ PyData.hasDictAll (toPL d) = false ∧ PyData.bulkAll (toPL d) = bkL d ∧ PyData.depthAll (toPL d) = dpL d
  | [], _ => by simp [toPL, PyData.showableAll, PyData.leavesShortAll, PyData.hasDictAll, PyData.bulkAll, PyData.depthAll]
  | x :: xs, h => by
    simp only [rqL_c, Bool.and_eq_true] at h
    obtain ⟨a1, a2, a3, a4, a5, a6⟩ := rq_ok x h.1
    obtain ⟨b1, b2, b3, b4, b5, b6⟩ := rqL_ok xs h.2
    refine ⟨by simp [a1, b1], by simp only [toPL, PyData.showableAll, a2, b2]; rfl, by simp only [toPL, PyData.leavesShortAll, a3, b3]; rfl, by simp only [toPL, PyData.hasDictAll, a4, b4]; rfl, by simp only [toPL, PyData.bulkAll, a5, b5, bkL_c], by simp only [toPL, PyData.depthAll, a6, b6, dpL_c]⟩
end
/-- the text of data -/
def rpS (d : D) : Str := (toP d).shown
theorem bi_repr {st : DS} {d : D} (h : rq d = true) (hb : bk d ≤ 20000) (hd : dp d ≤ 50) : biD .repr st [d] = some (.str (rpS d)) := by
  obtain ⟨a1, a2, a3, a4, a5, a6⟩ := rq_ok d h
  have l := PyData.shown_le_bulk 600 (by decide) (toP d) a3
  have l2 : (toP d).shown.length ≤ sizeLine := by
    have e : sizeLine = 16777216 := by decide
    rw [a5] at l
    omega
  show (match pd st d with | some p => if p.showable && decide (p.shown.length ≤ sizeLine) && decide (p.depth ≤ 60) && !p.hasDict then some (D.str p.shown) else none | none => none) = _
  rw [pd_pln d a1]
  dsimp only
  rw [if_pos (by rw [a2, a4, decide_eq_true l2, decide_eq_true (by omega : (toP d).depth ≤ 60)]; rfl)]
  rfl
theorem smI {i : Int} (h : i.natAbs < 10 ^ 400) : SmI i := Nat.lt_of_lt_of_le h (by decide +kernel)
end MP

set_option Elab.async false
set_option linter.all false
set_option maxRecDepth 100000
set_option maxHeartbeats 4000000
namespace MP
open PySem L2 PyProof.Rows
/-! ### objects behind what is drawn from -/
theorem getO_app {x : Ob} : ∀ {st : DS} {n : Nat} {o : Ob}, getO st n = some o → getO (st ++ [x]) n = some o
  | [], _, _, h => by cases h
  | a :: r, 0, _, h => h
  | a :: r, n + 1, _, h => getO_app (st := r) (n := n) h
theorem getO_end {x : Ob} : ∀ {st : DS}, getO (st ++ [x]) st.length = some x
  | [] => rfl
  | a :: r => getO_end (st := r)
theorem setO_end {x y : Ob} : ∀ {st : DS}, setO (st ++ [x]) st.length y = st ++ [y]
  | [] => rfl
  | a :: r => congrArg (a :: ·) (setO_end (st := r))
section
variable {st rest : DS}
theorem Src.len (h : Src st rest) : st.length = rest.length + 2 := by
  obtain ⟨rc, l, m, t, _, rfl⟩ := h
  rfl
theorem Src.app (h : Src st rest) (o : Ob) : Src (st ++ [o]) (rest ++ [o]) := by
  obtain ⟨rc, l, m, t, a, rfl⟩ := h
  exact ⟨rc, l, m, t, a, rfl⟩
theorem Src.get (h : Src st rest) {k : Nat} {o : Ob} (g : getO rest k = some o) : getO st (k + 2) = some o := by
  obtain ⟨rc, l, m, t, _, rfl⟩ := h
  exact g
theorem Src.set (h : Src st rest) (k : Nat) (o : Ob) : Src (setO st (k + 2) o) (setO rest k o) := by
  obtain ⟨rc, l, m, t, a, rfl⟩ := h
  exact ⟨rc, l, m, t, a, rfl⟩
end
@[simp] theorem itD_tup {st : DS} {xs : List D} : itD .seq st [.tup xs] = some xs := (rfl)
@[simp] theorem itD_lst {st : DS} {xs : List D} : itD .seq st [.lst xs] = some xs := (rfl)
@[simp] theorem itD_scr {st : DS} {xs : List D} : itD .seq st [.scr xs] = some xs := (rfl)
theorem itD_rng {st : DS} {j : Int} (h : -(2 ^ 62) ≤ j ∧ j < 2 ^ 62) : itD .rng st [.int j] = some ((List.range j.toNat).map fun (k : Nat) => .int (0 + (k : Int))) := by
  show (if -(2 ^ 62) ≤ j ∧ j < 2 ^ 62 then some ((List.range j.toNat).map fun (k : Nat) => D.int (0 + (k : Int))) else none) = _
  rw [if_pos h]
/-- a walk that keeps a promise -/
theorem forL_inv {F : D → Env → DS → RS} (I : Env → DS → Prop) : ∀ (xs : List D), (∀ x ∈ xs, ∀ ρ st, I ρ st → ∃ ρ' st', F x ρ st = .nx ρ' st' ∧ I ρ' st') → ∀ ρ st, I ρ st → ∃ ρ' st', forL F xs ρ st = .nx ρ' st' ∧ I ρ' st'
  | [], _, ρ, st, h => ⟨ρ, st, rfl, h⟩
  | x :: xs, hF, ρ, st, h => by
    obtain ⟨ρ1, st1, e1, h1⟩ := hF x (List.mem_cons_self ..) ρ st h
    obtain ⟨ρ2, st2, e2, h2⟩ := forL_inv I xs (fun y hy => hF y (List.mem_cons_of_mem _ hy)) ρ1 st1 h1
    exact ⟨ρ2, st2, by rw [forL_c e1, e2], h2⟩
/-- .. one that knows the turn -/
theorem forL_idx {F : D → Env → DS → RS} (I : Nat → Env → DS → Prop) : ∀ (xs : List D) (k : Nat), (∀ (i : Nat) (h : i < xs.length) ρ st, I (k + i) ρ st → ∃ ρ' st', F xs[i] ρ st = .nx ρ' st' ∧ I (k + i + 1) ρ' st') → ∀ ρ st, I k ρ st → ∃ ρ' st', forL F xs ρ st = .nx ρ' st' ∧ I (k + xs.length) ρ' st'
  | [], k, _, ρ, st, h => ⟨ρ, st, rfl, h⟩
  | x :: xs, k, hF, ρ, st, h => by
    obtain ⟨ρ1, st1, e1, h1⟩ := hF 0 (by simp) ρ st h
    have e1' : F x ρ st = .nx ρ1 st1 := e1
    obtain ⟨ρ2, st2, e2, h2⟩ := forL_idx I xs (k + 1) (fun i hi ρ st hI => by
      have := hF (i + 1) (by simp; omega) ρ st (by rw [show k + (i + 1) = k + 1 + i by omega]; exact hI)
      rw [show k + (i + 1) + 1 = k + 1 + i + 1 by omega] at this
      exact this) ρ1 st1 h1
    exact ⟨ρ2, st2, by rw [forL_c e1', e2], by rw [List.length_cons, show k + (xs.length + 1) = k + 1 + xs.length by omega]; exact h2⟩
theorem forB_tp2 {C : Nat → List D → DS → R D} {ρ : Env} {st : DS} {i j : Nat} {b : List S} {d1 d2 : D} : forB C (.tp [.nm i, .nm j]) b (.tup [d1, d2]) ρ st = execs C b (setV (setV ρ i (some d1)) j (some d2)) st := by
  simp only [forB_eq, tnD_tp, tnL_c, tnL_n, tnD_nm, obind_some, of_some, to_ok]
theorem forB_nm {C : Nat → List D → DS → R D} {ρ : Env} {st : DS} {i : Nat} {b : List S} {d1 : D} : forB C (.nm i) b d1 ρ st = execs C b (setV ρ i (some d1)) st := by
  simp only [forB_eq, tnD_nm, of_some, to_ok]
theorem catD_add {st : DS} {a b : List D} (h : a.length + b.length ≤ sizeLine) : binD .add st (.lst a) (.lst b) = some (.lst (a ++ b)) := by
  show (catD .add st (.lst a) (.lst b)).map D.lst = _
  show ((if a.length + b.length ≤ sizeLine then some (a ++ b) else none).map D.lst) = _
  rw [if_pos h]
  rfl
theorem catD_mul {st : DS} {a : List D} {k : Int} (h : -(2 ^ 63) ≤ k ∧ k < 2 ^ 63 ∧ a.length * k.toNat ≤ sizeLine) : binD .mul st (.lst a) (.int k) = some (.lst (List.replicate k.toNat a).flatten) := by
  show ((if -(2 ^ 63) ≤ k ∧ k < 2 ^ 63 ∧ a.length * k.toNat ≤ sizeLine then some (List.replicate k.toNat a).flatten else none).map D.lst) = _
  rw [if_pos h]
  rfl
theorem b_pow {st : DS} {i j : Int} (h : 0 ≤ j ∧ j ≤ 1000000 ∧ i.natAbs < 2 ^ 64) : binD .pow st (.int i) (.int j) = some (.int (i ^ j.toNat)) := by
  show (if 0 ≤ j ∧ j ≤ 1000000 ∧ i.natAbs < 2 ^ 64 then some (D.int (i ^ j.toNat)) else none) = _
  rw [if_pos h]
end MP

set_option Elab.async false
set_option linter.all false
set_option maxRecDepth 100000
set_option maxHeartbeats 4000000
namespace MP
open PySem L2 PyProof.Rows
/-! ### the program's defs, wherever they stand -/
/-- the defs of some places stand in P, at places by ι -/
def Hs (P : Nat → Option FDef) (ι : Ix) (l : List Nat) : Prop := ∀ k ∈ l, ∃ x, match (PG.tab ι)[k]? with | some (some F) => P (ι.f k) = some { F with nm := x } | _ => False
theorem Hs.mono {P : Nat → Option FDef} {ι : Ix} {l m : List Nat} (h : Hs P ι l) (s : m.all (fun k => l.contains k) = true) : Hs P ι m := fun k hk => h k (by
  have := List.all_eq_true.mp s k hk
  simpa using this)
end MP

set_option Elab.async false
set_option linter.all false
set_option maxRecDepth 100000
set_option maxHeartbeats 4000000
set_option exponentiation.threshold 9000
namespace MP
open PySem L2 PyProof.Rows
/-! ### common parts by lesser rests -/
theorem gcd_mod {a b : Int} (ha : 0 ≤ a) (hb : 0 < b) : Int.gcd b (a.fmod b) = Int.gcd a b := by
  rw [Int.fmod_eq_emod_of_nonneg _ (by omega)]
  unfold Int.gcd
  rw [Int.natAbs_emod_of_nonneg ha]
  rw [Nat.gcd_comm b.natAbs, Nat.gcd_comm a.natAbs b.natAbs]
  exact (Nat.gcd_rec _ _).symm
theorem euclid_loop {c : Env → DS → R Bool} {b : Env → DS → RS} {ρ : Int → Int → Env} {st : DS} (hc : ∀ x y, c (ρ x y) st = .ok (decide (0 < y)) st) (hb : ∀ x y, 0 < y → b (ρ x y) st = .nx (ρ y (x.fmod y)) st) :
    ∀ (k : Nat) (x y : Int) (fu : Nat), 0 ≤ x → 0 ≤ y → y < 2 ^ k → 2 * k + 1 < fu → whileL c b fu (ρ x y) st = .nx (ρ ((Int.gcd x y : Nat) : Int) 0) st
  | k, x, y, 0, _, _, _, h => by omega
  | k, x, y, 1, _, _, _, h => by omega
  | k, x, y, fu + 2, hx, hy, hk, hf => by
    have z0 : ∀ (x : Int) (fu : Nat), 0 ≤ x → whileL c b (fu + 1) (ρ x 0) st = .nx (ρ ((Int.gcd x 0 : Nat) : Int) 0) st := fun x fu hx => by
      have e := hc x 0
      rw [decide_eq_false (by omega)] at e
      rw [whileL_f e]
      have : ((Int.gcd x 0 : Nat) : Int) = x := by simp; omega
      rw [this]
    by_cases h0 : y = 0
    · subst h0
      exact z0 x (fu + 1) hx
    · have yp : 0 < y := by omega
      have e := hc x y
      rw [decide_eq_true yp] at e
      rw [whileL_t e (hb x y yp)]
      obtain ⟨r0, r1⟩ := fmod_lt' (a := x) yp
      rw [← gcd_mod hx yp]
      generalize x.fmod y = r at *
      by_cases hr : r = 0
      · subst hr
        exact z0 y fu hy
      · have rp : 0 < r := by omega
        have e2 := hc y r
        rw [decide_eq_true rp] at e2
        rw [whileL_t e2 (hb y r rp)]
        obtain ⟨s0, s1⟩ := fmod_lt' (a := y) rp
        rw [← gcd_mod hy rp]
        cases k with
        | zero =>
          exfalso
          have : (2 : Int) ^ 0 = 1 := rfl
          omega
        | succ k =>
          refine euclid_loop hc hb k r (y.fmod r) fu r0 s0 ?_ (by omega)
          have hs : 2 * y.fmod r < y := by
            have q := Int.fmod_add_mul_fdiv y r
            have q1 : 1 ≤ y.fdiv r := by
              rw [Int.fdiv_eq_ediv_of_nonneg _ (by omega)]
              exact Int.le_ediv_of_mul_le rp (by omega)
            have := Int.mul_le_mul_of_nonneg_left q1 (by omega : 0 ≤ r)
            omega
          have p : (2 : Int) ^ (k + 1) = 2 * 2 ^ k := by rw [Int.pow_succ]; omega
          omega
/-- a comprehension that changes what stands there -/
theorem lcL_st {f : D → DS → R (Option D)} (I : DS → Prop) (G : D → Prop) : ∀ (xs acc : List D) (st : DS), (∀ x ∈ xs, ∀ st, I st → ∃ d st', f x st = .ok (some d) st' ∧ I st' ∧ G d) → acc.length + xs.length ≤ sizeLine → I st →
    ∃ ds st', lcL f xs acc st = .ok (acc ++ ds) st' ∧ I st' ∧ ds.length = xs.length ∧ ∀ d ∈ ds, G d
  | [], acc, st, _, _, h => ⟨[], st, by simp [lcL_n], h, rfl, fun _ h => nomatch h⟩
  | x :: xs, acc, st, hf, hl, h => by
    have hl' : acc.length < sizeLine := by simp only [List.length_cons] at hl; omega
    obtain ⟨d, st1, e1, i1, g1⟩ := hf x (List.mem_cons_self ..) st h
    obtain ⟨ds, st2, e2, i2, l2, g2⟩ := lcL_st I G xs (acc ++ [d]) st1 (fun y hy => hf y (List.mem_cons_of_mem _ hy)) (by simp only [List.length_append, List.length_cons, List.length_nil] at hl ⊢; omega) i1
    refine ⟨d :: ds, st2, by rw [lcL_y e1 hl', e2]; simp, i2, by simp [l2], fun z hz => ?_⟩
    rcases List.mem_cons.mp hz with q | q
    · rw [q]; exact g1
    · exact g2 z q
theorem fuel_big : (1000000 : Nat) < fuel := by decide +kernel
end MP

set_option Elab.async false
set_option linter.all false
set_option maxRecDepth 100000
namespace MP
open PySem L2
theorem lcV_lcL {f : D → DS → R (Option D)} {x : D} {st : DS} {rs : List D} (hs : seqD st x = some rs) (hf : ∀ d ∈ rs, ∃ o, f d st = .ok o st) : ∀ k i acc, i ≤ rs.length → rs.length < i + k → lcV f false x k i acc st = lcL f (rs.drop i) acc st
  | 0, i, acc, hl, h => by omega
  | k + 1, i, acc, hl, h => by
    have w : wkD false st x i = some (rs[i]?) := by
      unfold wkD srcD
      rw [if_neg (by decide), hs]
      dsimp only
      cases rs[i]? <;> rfl
    by_cases hi : i < rs.length
    · have e : rs[i]? = some rs[i] := List.getElem?_eq_getElem hi
      obtain ⟨o, ho⟩ := hf rs[i] (List.getElem_mem hi)
      have ih := fun acc => lcV_lcL hs hf k (i + 1) acc (by omega) (by omega)
      rw [List.drop_eq_getElem_cons hi]
      cases o with
      | none =>
        rw [lcL_z ho, ← ih]
        show (match wkD false st x i with | none => R.bad | some none => .ok acc st | some (some d) => match f d st with
          | .ok (some y) st1 => if acc.length < sizeLine then lcV f false x k (i + 1) (acc ++ [y]) st1 else .bad
          | .ok none st1 => lcV f false x k (i + 1) acc st1
          | _ => .bad) = _
        rw [w, e]
        dsimp only
        rw [ho]
      | some y =>
        show (match wkD false st x i with | none => R.bad | some none => .ok acc st | some (some d) => match f d st with
          | .ok (some y) st1 => if acc.length < sizeLine then lcV f false x k (i + 1) (acc ++ [y]) st1 else .bad
          | .ok none st1 => lcV f false x k (i + 1) acc st1
          | _ => .bad) = (match f rs[i] st with | .ok (some d) st1 => if acc.length < sizeLine then lcL f (rs.drop (i + 1)) (acc ++ [d]) st1 else .bad | .ok none st1 => lcL f (rs.drop (i + 1)) acc st1 | _ => .bad)
        rw [w, e]
        dsimp only
        rw [ho]
        dsimp only
        rw [ih]
    · have e : rs[i]? = none := List.getElem?_eq_none (by omega)
      rw [List.drop_eq_nil_of_le (by omega), lcL_n]
      show (match wkD false st x i with | none => R.bad | some none => .ok acc st | some (some d) => match f d st with
          | .ok (some y) st1 => if acc.length < sizeLine then lcV f false x k (i + 1) (acc ++ [y]) st1 else .bad
          | .ok none st1 => lcV f false x k (i + 1) acc st1
          | _ => .bad) = _
      rw [w, e]
section
variable {C : Nat → List D → DS → R D} {ρ : Env} {st : DS}
@[simp] theorem ev_lcv {m en : Bool} {elt src : E} {tg : TN} {ifs : List E} {own : List Nat} : eval C (.lcv m elt tg en src ifs own) ρ st = (eval C src ρ st).bind fun x st1 => (lcV (lcW C elt tg ifs own ρ) en x fuel 0 [] st1).bind fun ys st2 => newL m ys st2 := by
  simp only [eval]
  generalize fuel = k
  cases eval C src ρ st with
  | ok x st1 =>
    refine congrArg (fun f => (lcV f en x k 0 [] st1).bind fun ys st2 => newL m ys st2) ?_
    funext x st2
    unfold lcW
    cases tnD tg x (wipeV ρ own) <;> rfl
  | exc a b c => simp only [R.bind]
  | bad => simp only [R.bind]
@[simp] theorem ex_forv {tg : TN} {en : Bool} {src : E} {b : List S} : exec C (.forv tg en src b) ρ st = (eval C src ρ st).to ρ fun x st1 => forV (forB C tg b) en x fuel 0 ρ st1 := by
  simp only [exec]
  generalize fuel = k
  rfl
end
end MP

set_option Elab.async false
set_option linter.all false
set_option maxRecDepth 100000
namespace K08
open PySem L2 MP
def ι : Ix := { f := fun i => (([(110, 0), (23, 1), (28, 2), (34, 3), (25, 4), (35, 5), (22, 6), (31, 7), (32, 8), (36, 9), (33, 10), (30, 11), (27, 12), (29, 13), (24, 14), (26, 15)] : List (Nat × Nat)).lookup i).getD 999, c := fun i => (([(49, 0), (110, 1), (30, 2), (113, 3)] : List (Nat × Nat)).lookup i).getD 999 }
/-- 0 lexemes.is_whole -/
def f0 : FDef := { PG.lexemes_is_whole ι with nm := "is_whole" }
/-- 1 circlenumbers.is_long -/
def f1 : FDef := { PG.circlenumbers_is_long ι with nm := "is_long" }
/-- 2 circlenumbers.not_long -/
def f2 : FDef := { PG.circlenumbers_not_long ι with nm := "not_long" }
/-- 3 circlenumbers.sign_of -/
def f3 : FDef := { PG.circlenumbers_sign_of ι with nm := "sign_of" }
/-- 4 circlenumbers.is_squared -/
def f4 : FDef := { PG.circlenumbers_is_squared ι with nm := "is_squared" }
/-- 5 circlenumbers.square_of -/
def f5 : FDef := { PG.circlenumbers_square_of ι with nm := "square_of" }
/-- 6 circlenumbers.fraction_told -/
def f6 : FDef := { PG.circlenumbers_fraction_told ι with nm := "fraction_told" }
/-- 7 circlenumbers.root_told -/
def f7 : FDef := { PG.circlenumbers_root_told ι with nm := "root_told" }
/-- 8 circlenumbers.rooted_sign -/
def f8 : FDef := { PG.circlenumbers_rooted_sign ι with nm := "rooted_sign" }
/-- 9 circlenumbers.times_root -/
def f9 : FDef := { PG.circlenumbers_times_root ι with nm := "times_root" }
/-- 10 circlenumbers.roots_order -/
def f10 : FDef := { PG.circlenumbers_roots_order ι with nm := "roots_order" }
/-- 11 circlenumbers.root_order -/
def f11 : FDef := { PG.circlenumbers_root_order ι with nm := "root_order" }
/-- 12 circlenumbers.line_order -/
def f12 : FDef := { PG.circlenumbers_line_order ι with nm := "line_order" }
/-- 13 circlenumbers.number_floor -/
def f13 : FDef := { PG.circlenumbers_number_floor ι with nm := "number_floor" }
/-- 14 circlenumbers.is_root -/
def f14 : FDef := { PG.circlenumbers_is_root ι with nm := "is_root" }
/-- 15 circlenumbers.is_told_number -/
def f15 : FDef := { PG.circlenumbers_is_told_number ι with nm := "is_told_number" }
/-- 16 _law_source -/
def f16 : FDef := { nm := "_law_source", gl := true, np := 1, iso := false, lam := false, N := ["script", "mixed", "cell"], body := [
    .asg (.nm 1) (.lit (.int 11)),
    .forr (.nm 2) .seq [.var 0] [.asg (.nm 1) (.bin .mod (.bi .int [.bin .add (.bin .add (.bin .mul (.var 1) (.lit (.int 69069))) (.bin .mul (.var 2) (.lit (.int 31)))) (.lit (.int 5))]) (.lit (.int 2147483629)))],
    .ret (.dic true [.lit (.str "cells"), .rev true (.lc false (.bi .abs [.var 2]) (.nm 2) .seq [.var 0] [] [2]), .lit (.str "left"), .lit (.int 1), .lit (.str "mixed"), .var 1, .lit (.str "turn"), .lit (.int 0)])] }
/-- 17 _law_pick -/
def f17 : FDef := { nm := "_law_pick", gl := true, np := 2, iso := false, lam := false, N := ["source", "many", "left", "mixed"], body := [
    .whl (.and (.cmp .gt (.var 1) (.lit (.int 1))) (.and (.cmp .lt (.dix (.var 0) (.lit (.str "left"))) (.lit (.int 2))) (.cmp .gt (.bi .len [.dix (.var 0) (.lit (.str "cells"))]) (.lit (.int 0))))) [.asg (.sub (.var 0) (.lit (.str "left"))) (.meth .pop (.dix (.var 0) (.lit (.str "cells"))) [])],
    .asg (.nm 2) (.dix (.var 0) (.lit (.str "left"))),
    .ife (.or (.cmp .lt (.var 1) (.lit (.int 2))) (.cmp .gt (.var 2) (.lit (.int 1)))) [.asg (.sub (.var 0) (.lit (.str "left"))) (.bin .fdiv (.var 2) (.bi .max [.lit (.int 1), .var 1])), .ret (.bin .mod (.bi .int [.var 2]) (.bi .max [.lit (.int 1), .var 1]))] [],
    .asg (.sub (.var 0) (.lit (.str "turn"))) (.bin .add (.dix (.var 0) (.lit (.str "turn"))) (.lit (.int 1))),
    .asg (.nm 3) (.bin .mod (.bi .int [.bin .add (.dix (.var 0) (.lit (.str "mixed"))) (.bin .mul (.dix (.var 0) (.lit (.str "turn"))) (.lit (.int 104729)))]) (.lit (.int 998244353))),
    .asg (.nm 3) (.bin .mod (.bi .int [.bin .add (.bin .mul (.var 3) (.var 3)) (.bin .mul (.dix (.var 0) (.lit (.str "turn"))) (.lit (.int 17)))]) (.lit (.int 2147483647))),
    .asg (.sub (.var 0) (.lit (.str "mixed"))) (.var 3),
    .ret (.bin .mod (.bi .int [.bin .fdiv (.var 3) (.lit (.int 16))]) (.var 1))] }
/-- 18 _law_of -/
def f18 : FDef := { nm := "_law_of", gl := true, np := 2, iso := false, lam := false, N := ["source", "some"], body := [
    .ret (.ix (.var 1) (.call 17 [.var 0, .bi .len [.var 1]]))] }
/-- 19 _law_part -/
def f19 : FDef := { nm := "_law_part", gl := true, np := 2, iso := true, lam := false, N := ["one", "other"], body := [
    .par [0, 1] [.bi .abs [.var 0], .bi .abs [.var 1]],
    .whl (.cmp .gt (.var 1) (.lit (.int 0))) [.par [0, 1] [.var 1, .bin .mod (.bi .int [.var 0]) (.var 1)]],
    .ret (.var 0)] }
/-- 20 _law_power -/
def f20 : FDef := { nm := "_law_power", gl := true, np := 2, iso := false, lam := false, N := ["number", "many", "found", "lap"], body := [
    .asg (.nm 2) (.lit (.int 1)),
    .forr (.nm 3) .rng [.var 1] [.asg (.nm 2) (.bin .mul (.var 2) (.var 0))],
    .ret (.var 2)] }
/-- 21 _law_is_square -/
def f21 : FDef := { nm := "_law_is_square", gl := true, np := 1, iso := false, lam := false, N := ["number", "step", "found"], body := [
    .asg (.tp [.nm 1, .nm 2]) (.tup [.lit (.int 1), .lit (.int 0)]),
    .whl (.cmp .le (.bin .mul (.var 1) (.var 1)) (.var 0)) [.asg (.nm 1) (.bin .mul (.var 1) (.lit (.int 2)))],
    .whl (.cmp .gt (.var 1) (.lit (.int 0))) [.ife (.cmp .le (.bin .mul (.bin .add (.var 2) (.var 1)) (.bin .add (.var 2) (.var 1))) (.var 0)) [.asg (.nm 2) (.bin .add (.var 2) (.var 1))] [], .asg (.nm 1) (.bin .fdiv (.var 1) (.lit (.int 2)))],
    .ret (.cmp .eq (.bin .mul (.var 2) (.var 2)) (.var 0))] }
/-- 22 _law_table -/
def f22 : FDef := { nm := "_law_table", gl := true, np := 2, iso := false, lam := false, N := ["source", "most", "lap", "c", "square", "a", "b", "part"], body := [
    .forr (.nm 2) .rng [.lit (.int 9)] [.par [5, 6] [.bin .add (.lit (.int 1)) (.call 17 [.var 0, .var 1]), .bin .sub (.call 17 [.var 0, .bin .add (.bin .mul (.lit (.int 2)) (.var 1)) (.lit (.int 1))]) (.var 1)], .asg (.nm 3) (.bin .sub (.call 17 [.var 0, .bin .add (.bin .mul (.lit (.int 2)) (.var 1)) (.lit (.int 1))]) (.var 1)), .asg (.nm 4) (.bin .sub (.bin .mul (.var 6) (.var 6)) (.bin .mul (.bin .mul (.lit (.int 4)) (.var 5)) (.var 3))), .ife (.and (.cmp .gt (.var 4) (.lit (.int 0))) (.not (.tv (.call 21 [.var 4])))) [.asg (.nm 7) (.call 19 [.call 19 [.var 5, .var 6], .var 3]), .ret (.tup [.bin .fdiv (.var 5) (.var 7), .bin .fdiv (.var 6) (.var 7), .bin .fdiv (.var 3) (.var 7)])] []],
    .ret (.tup [.lit (.int 1), .neg (.lit (.int 1)), .neg (.lit (.int 1))])] }
/-- 23 _law_is_below -/
def f23 : FDef := { nm := "_law_is_below", gl := true, np := 3, iso := false, lam := false, N := ["root", "top", "bottom", "value", "a", "b", "c", "is_more"], body := [
    .asg (.tp [.nm 4, .nm 5, .nm 6, .nm 7]) (.var 0),
    .asg (.nm 3) (.bin .add (.bin .add (.bin .mul (.bin .mul (.var 4) (.var 1)) (.var 1)) (.bin .mul (.bin .mul (.var 5) (.var 1)) (.var 2))) (.bin .mul (.bin .mul (.var 6) (.var 2)) (.var 2))),
    .ret (.ife (.cmp .lt (.var 3) (.lit (.int 0))) (.var 7) (.cmp .lt (.bin .add (.bin .mul (.bin .mul (.lit (.int 2)) (.var 4)) (.var 1)) (.bin .mul (.var 5) (.var 2))) (.lit (.int 0))))] }
/-- 24 _law_floor -/
def f24 : FDef := { nm := "_law_floor", gl := true, np := 2, iso := false, lam := false, N := ["root", "far", "low", "high", "middle"], body := [
    .asg (.nm 2) (.bin .sub (.lit (.int 0)) (.bin .mul (.bin .add (.bin .add (.lit (.int 2)) (.bi .abs [.ix (.var 0) (.lit (.int 1))])) (.bi .abs [.ix (.var 0) (.lit (.int 2))])) (.var 1))),
    .asg (.nm 3) (.bin .sub (.lit (.int 0)) (.var 2)),
    .whl (.cmp .gt (.bin .sub (.var 3) (.var 2)) (.lit (.int 1))) [.asg (.nm 4) (.bin .fdiv (.bin .add (.var 2) (.var 3)) (.lit (.int 2))), .ife (.tv (.call 23 [.var 0, .var 4, .var 1])) [.asg (.nm 2) (.var 4)] [.asg (.nm 3) (.var 4)]],
    .ret (.var 2)] }
/-- 25 _law_root_right -/
def f25 : FDef := { nm := "_law_root_right", gl := true, np := 3, iso := false, lam := false, N := ["source", "root", "by", "far", "n", "moved", "mates", "a", "b", "c", "is_more", "low", "pair", "one"], body := [
    .asg (.tp [.nm 7, .nm 8, .nm 9, .nm 10]) (.var 1),
    .ife (.or (.cmp .ne (.bi .repr [.call 7 [.bin .mul (.var 2) (.var 7), .bin .mul (.var 2) (.var 8), .bin .mul (.var 2) (.var 9), .var 10]]) (.bi .repr [.var 1])) (.cmp .isnb (.call 15 [.var 1]) (.lit (.bl true)))) [.ret (.lit (.bl false))] [],
    .ife (.cmp .ne (.bi .repr [.call 13 [.var 1]]) (.bi .repr [.call 24 [.var 1, .lit (.int 1)]])) [.ret (.lit (.bl false))] [],
    .forr (.nm 3) .seq [.tup [.lit (.int 1), .bin .add (.lit (.int 2)) (.call 17 [.var 0, .lit (.int 97)]), .call 20 [.lit (.int 10), .lit (.int 30)]]] [.asg (.nm 11) (.call 24 [.var 1, .var 3]), .slc 12 (.lc false (.call 6 [.var 13, .var 3]) (.nm 13) .seq [.tup [.var 11, .bin .add (.var 11) (.lit (.int 1)), .bin .sub (.var 11) (.var 3), .bin .add (.bin .add (.var 11) (.var 3)) (.lit (.int 1))]] [] [13]), .ife (.cmp .ne (.bi .repr [.lc false (.call 12 [.var 1, .var 13]) (.nm 13) .seq [.var 12] [] [13]]) (.bi .repr [.lst false [.lit (.int 1), .neg (.lit (.int 1)), .lit (.int 1), .neg (.lit (.int 1))]])) [.ret (.lit (.bl false))] [], .ife (.cmp .ne (.bi .repr [.lc false (.call 12 [.var 13, .var 1]) (.nm 13) .seq [.var 12] [] [13]]) (.bi .repr [.lst false [.neg (.lit (.int 1)), .lit (.int 1), .neg (.lit (.int 1)), .lit (.int 1)]])) [.ret (.lit (.bl false))] []],
    .asg (.nm 4) (.call 20 [.lit (.int 10), .bin .add (.lit (.int 1)) (.call 17 [.var 0, .lit (.int 40)])]),
    .asg (.nm 5) (.call 7 [.bin .mul (.bin .mul (.var 7) (.var 4)) (.var 4), .bin .sub (.bin .mul (.bin .mul (.var 8) (.var 4)) (.var 4)) (.bin .mul (.bin .mul (.lit (.int 2)) (.var 7)) (.var 4)), .bin .add (.bin .sub (.var 7) (.bin .mul (.var 8) (.var 4))) (.bin .mul (.bin .mul (.var 9) (.var 4)) (.var 4)), .var 10]),
    .ife (.cmp .ne (.bi .repr [.lst false [.call 12 [.var 1, .var 5], .call 12 [.var 5, .var 1], .call 12 [.var 1, .var 1]]]) (.bi .repr [.lst false [.neg (.lit (.int 1)), .lit (.int 1), .lit (.int 0)]])) [.ret (.lit (.bl false))] [],
    .asg (.nm 6) (.lst false [.tup [.var 7, .var 8, .var 9, .lit (.bl false)], .tup [.var 7, .var 8, .var 9, .lit (.bl true)]]),
    .ret (.and (.cmp .eq (.bi .repr [.call 12 [.ix (.var 6) (.lit (.int 0)), .ix (.var 6) (.lit (.int 1))]]) (.bi .repr [.neg (.lit (.int 1))])) (.cmp .eq (.bi .repr [.call 12 [.ix (.var 6) (.lit (.int 1)), .ix (.var 6) (.lit (.int 0))]]) (.bi .repr [.lit (.int 1)])))] }
/-- 26 _law_parted_right -/
def f26 : FDef := { nm := "_law_parted_right", gl := true, np := 1, iso := false, lam := false, N := ["source", "due", "wrong", "right", "dues", "p", "r", "q", "s", "by", "table", "is_less", "one", "other", "a", "b", "c", "value", "is_more"], body := [
    .par [5, 6] [.bin .sub (.call 17 [.var 0, .lit (.int 61)]) (.lit (.int 30)), .bin .sub (.call 17 [.var 0, .lit (.int 61)]) (.lit (.int 30))],
    .par [7, 8, 9] [.bin .add (.lit (.int 1)) (.call 17 [.var 0, .lit (.int 12)]), .bin .add (.lit (.int 1)) (.call 17 [.var 0, .lit (.int 12)]), .call 18 [.var 0, .lst false [.lit (.int 1), .neg (.lit (.int 1)), .lit (.int 6), .neg (.lit (.int 5))]]],
    .asg (.tp [.nm 10, .nm 11]) (.tup [.tup [.bin .mul (.bin .mul (.var 9) (.var 7)) (.var 8), .bin .mul (.var 9) (.bin .sub (.bin .sub (.lit (.int 0)) (.bin .mul (.var 7) (.var 6))) (.bin .mul (.var 5) (.var 8))), .bin .mul (.bin .mul (.var 9) (.var 5)) (.var 6)], .cmp .lt (.bin .mul (.var 5) (.var 8)) (.bin .mul (.var 6) (.var 7))]),
    .par [12, 13] [.tup [.bin .fdiv (.var 5) (.call 19 [.var 5, .var 7]), .bin .fdiv (.var 7) (.call 19 [.var 5, .var 7])], .tup [.bin .fdiv (.var 6) (.call 19 [.var 6, .var 8]), .bin .fdiv (.var 8) (.call 19 [.var 6, .var 8])]],
    .asg (.nm 1) (.ife (.tv (.var 11)) (.lst false [.var 12, .var 13]) (.lst false [.var 13, .var 12])),
    .ife (.cmp .ne (.bi .repr [.lc false (.call 7 [.ix (.var 10) (.lit (.int 0)), .ix (.var 10) (.lit (.int 1)), .ix (.var 10) (.lit (.int 2)), .var 18]) (.nm 18) .seq [.tup [.lit (.bl false), .lit (.bl true)]] [] [18]]) (.bi .repr [.var 1])) [.ret (.lit (.bl false))] [],
    .ife (.cmp .ne (.bi .repr [.call 12 [.var 12, .var 13]]) (.bi .repr [.ife (.cmp .eq (.var 12) (.var 13)) (.lit (.int 0)) (.ife (.tv (.var 11)) (.neg (.lit (.int 1))) (.lit (.int 1)))])) [.ret (.lit (.bl false))] [],
    .ife (.cmp .ne (.bi .repr [.lst false [.call 6 [.bin .mul (.var 9) (.var 5), .bin .mul (.var 9) (.var 7)], .call 13 [.var 12]]]) (.bi .repr [.lst false [.var 12, .bin .fdiv (.var 5) (.var 7)]])) [.ret (.lit (.bl false))] [],
    .asg (.tp [.nm 14, .nm 15, .nm 16]) (.call 22 [.var 0, .lit (.int 9)]),
    .asg (.nm 2) (.lst false [.tup [.var 14, .var 15, .var 16], .tup [.var 14, .var 15, .var 16, .lit (.int 1)], .tup [.bin .sub (.lit (.int 0)) (.var 14), .bin .sub (.lit (.int 0)) (.var 15), .bin .sub (.lit (.int 0)) (.var 16), .lit (.bl true)], .tup [.bin .mul (.lit (.int 2)) (.var 14), .bin .mul (.lit (.int 2)) (.var 15), .bin .mul (.lit (.int 2)) (.var 16), .lit (.bl true)], .lst false [.var 14, .var 15, .var 16, .lit (.bl true)]]),
    .asg (.nm 2) (.bin .add (.var 2) (.lst false [.tup [.bin .mul (.var 7) (.var 8), .bin .sub (.bin .sub (.lit (.int 0)) (.bin .mul (.var 7) (.var 6))) (.bin .mul (.var 5) (.var 8)), .bin .mul (.var 5) (.var 6), .lit (.bl true)], .tup [.lit (.int 1), .lit (.int 0), .bin .mul (.var 15) (.var 15), .lit (.bl false)], .tup [.lit (.int 0), .var 15, .var 16, .lit (.bl true)], .tup [.bin .mul (.lit (.int 2)) (.var 5), .bin .mul (.lit (.int 2)) (.var 7)]])),
    .asg (.nm 2) (.bin .add (.var 2) (.lst false [.tup [.var 5, .bin .sub (.lit (.int 0)) (.var 7)], .tup [.var 5, .lit (.int 0)], .tup [.neg (.lit (.int 1)), .lit (.int 0)], .tup [.lit (.int 0), .lit (.int 5)], .tup [.lit (.bl true), .lit (.int 1)], .lit (.non), .tup [.lit (.int 1), .lit (.int 0), .neg (.lit (.int 2)), .lit (.non)], .tup [.lit (.int 1), .lit (.int 0), .lit (.bl false), .lit (.bl true)]])),
    .asg (.nm 3) (.lst false [.tup [.var 14, .var 15, .var 16, .lit (.bl false)], .var 12, .tup [.lit (.int 1), .lit (.int 0)], .tup [.lit (.int 0), .lit (.int 1)]]),
    .slc 4 (.lc false (.cmp .eq (.var 17) (.tup [.lit (.int 1), .lit (.int 0)])) (.nm 17) .seq [.var 2] [] [17]),
    .ife (.cmp .ne (.bi .repr [.lc false (.call 15 [.var 17]) (.nm 17) .seq [.var 2] [] [17]]) (.bi .repr [.var 4])) [.ret (.lit (.bl false))] [],
    .ret (.cmp .eq (.bi .repr [.lc false (.call 15 [.var 17]) (.nm 17) .seq [.var 3] [] [17]]) (.bi .repr [.bin .mul (.lst false [.lit (.bl true)]) (.lit (.int 4))]))] }
/-- 27 law -/
def f27 : FDef := { nm := "law", gl := true, np := 1, iso := false, lam := true, N := ["script", "source", "some", "most", "far", "rows", "k", "due", "root", "one", "wide", "sign", "a", "b", "c", "other", "late"], body := [
    .asg (.nm 1) (.call 16 [.var 0]),
    .asg (.nm 2) (.lst true []),
    .forr (.nm 3) .seq [.tup [.lit (.int 6), .lit (.int 40), .bin .pow (.lit (.int 10)) (.lit (.int 9))]] [.asg (.tp [.nm 12, .nm 13, .nm 14]) (.call 22 [.var 1, .var 3]), .asg (.nm 8) (.tup [.var 12, .var 13, .var 14, .cmp .eq (.call 17 [.var 1, .lit (.int 2)]) (.lit (.int 0))]), .ife (.not (.tv (.call 25 [.var 1, .var 8, .call 18 [.var 1, .lst false [.lit (.int 1), .neg (.lit (.int 1)), .lit (.int 2), .neg (.lit (.int 7)), .bin .pow (.lit (.int 10)) (.lit (.int 12))]]]))) [.ret (.lit (.bl false))] [], .expr (.meth .append (.var 2) [.var 8])],
    .asg (.nm 4) (.call 20 [.lit (.int 10), .lit (.int 90)]),
    .slc 5 (.lcv false (.tup [.call 24 [.var 8, .var 4], .var 8]) (.nm 8) false (.var 2) [] [8]),
    .forr (.tp [.nm 9, .nm 8]) .seq [.var 5] [.forr (.tp [.nm 15, .nm 16]) .seq [.var 5] [.asg (.nm 7) (.ife (.cmp .eq (.var 8) (.var 16)) (.lit (.int 0)) (.ife (.cmp .lt (.var 9) (.var 15)) (.neg (.lit (.int 1))) (.lit (.int 1)))), .ife (.cmp .ne (.bi .repr [.call 12 [.var 8, .var 16]]) (.bi .repr [.var 7])) [.ret (.lit (.bl false))] []]],
    .ife (.not (.tv (.call 26 [.var 1]))) [.ret (.lit (.bl false))] [],
    .asg (.nm 6) (.bin .add (.lit (.int 297)) (.call 17 [.var 1, .lit (.int 5)])),
    .asg (.tp [.nm 10, .nm 11]) (.tup [.bin .add (.call 20 [.lit (.int 10), .var 6]) (.lit (.int 1)), .call 18 [.var 1, .lst false [.lit (.int 1), .neg (.lit (.int 1))]]]),
    .asg (.nm 7) (.ife (.cmp .gt (.var 6) (.lit (.int 299))) (.tup [.lit (.str "great"), .lit (.int 4)]) (.tup [.lit (.str "told"), .tup [.bin .mul (.var 11) (.var 10), .lit (.int 10)]])),
    .ife (.cmp .ne (.bi .repr [.told 0 (.call 6 [.bin .mul (.var 11) (.var 10), .lit (.int 10)])]) (.bi .repr [.var 7])) [.ret (.lit (.bl false))] [],
    .asg (.nm 7) (.ife (.cmp .gt (.var 6) (.lit (.int 299))) (.tup [.lit (.str "great"), .lit (.int 4)]) (.tup [.lit (.str "told"), .tup [.lit (.int 1), .bin .mul (.var 11) (.var 10), .neg (.lit (.int 1)), .lit (.bl true)]])),
    .ret (.cmp .eq (.bi .repr [.told 0 (.call 7 [.lit (.int 1), .bin .mul (.var 11) (.var 10), .neg (.lit (.int 1)), .lit (.bl true)])]) (.bi .repr [.var 7]))] }
def Pg : Nat → Option FDef := fun i => [f0, f1, f2, f3, f4, f5, f6, f7, f8, f9, f10, f11, f12, f13, f14, f15, f16, f17, f18, f19, f20, f21, f22, f23, f24, f25, f26, f27][i]?
theorem has : Hs Pg ι [110, 23, 28, 34, 25, 35, 22, 31, 32, 36, 33, 30, 27, 29, 24, 26] := by
  intro k hk
  simp only [List.mem_cons, List.not_mem_nil, or_false] at hk
  rcases hk with rfl | rfl | rfl | rfl | rfl | rfl | rfl | rfl | rfl | rfl | rfl | rfl | rfl | rfl | rfl | rfl <;> exact ⟨_, rfl⟩
end K08

set_option Elab.async false
set_option linter.all false
set_option maxRecDepth 100000
namespace K08
open PySem L2 MP
def cn : Nat → Option (Str × D) := fun i => ([("MOST_FIGURES", .int 300), ("SURE_BITS", .int 997), ("LONG_NUMBER", .int 4), ("TOP", .tup [.int 1, .int 0])] : List (Str × D))[i]?
def sg : Sg := { xf := fun i => (([(0, ["number"])] : List (Nat × List Str)).lookup i).getD [], Pg := Pg, cn := cn, xn := fun i => ([(0, "TooGreat")] : List (Nat × Str)).lookup i, tn := fun i => (["_law_great"] : List Str)[i]?, gc := true, iq := true }
def top (i : Nat) : Stmt := PySem.Challenge.pw_waylots_k08_roots_against_bounds.main.body.getD i (.Pass ⟨0, 0, 0, 0⟩)
theorem c0 : cSs sg f0.N f0.lam (defScope (top 5)) f0.body (defBody (top 5)) = true := by decide +kernel
theorem c1 : cSs sg f1.N f1.lam (defScope (top 11)) f1.body (defBody (top 11)) = true := by decide +kernel
theorem c2 : cSs sg f2.N f2.lam (defScope (top 12)) f2.body (defBody (top 12)) = true := by decide +kernel
theorem c3 : cSs sg f3.N f3.lam (defScope (top 13)) f3.body (defBody (top 13)) = true := by decide +kernel
theorem c4 : cSs sg f4.N f4.lam (defScope (top 14)) f4.body (defBody (top 14)) = true := by decide +kernel
theorem c5 : cSs sg f5.N f5.lam (defScope (top 15)) f5.body (defBody (top 15)) = true := by decide +kernel
theorem c6 : cSs sg f6.N f6.lam (defScope (top 16)) f6.body (defBody (top 16)) = true := by decide +kernel
theorem c7 : cSs sg f7.N f7.lam (defScope (top 17)) f7.body (defBody (top 17)) = true := by decide +kernel
theorem c8 : cSs sg f8.N f8.lam (defScope (top 18)) f8.body (defBody (top 18)) = true := by decide +kernel
theorem c9 : cSs sg f9.N f9.lam (defScope (top 19)) f9.body (defBody (top 19)) = true := by decide +kernel
theorem c10 : cSs sg f10.N f10.lam (defScope (top 20)) f10.body (defBody (top 20)) = true := by decide +kernel
theorem c11 : cSs sg f11.N f11.lam (defScope (top 21)) f11.body (defBody (top 21)) = true := by decide +kernel
theorem c12 : cSs sg f12.N f12.lam (defScope (top 22)) f12.body (defBody (top 22)) = true := by decide +kernel
theorem c13 : cSs sg f13.N f13.lam (defScope (top 23)) f13.body (defBody (top 23)) = true := by decide +kernel
theorem c14 : cSs sg f14.N f14.lam (defScope (top 24)) f14.body (defBody (top 24)) = true := by decide +kernel
theorem c15 : cSs sg f15.N f15.lam (defScope (top 25)) f15.body (defBody (top 25)) = true := by decide +kernel
theorem c16 : cSs sg f16.N f16.lam (defScope (top 27)) f16.body (defBody (top 27)) = true := by decide +kernel
theorem c17 : cSs sg f17.N f17.lam (defScope (top 28)) f17.body (defBody (top 28)) = true := by decide +kernel
theorem c18 : cSs sg f18.N f18.lam (defScope (top 29)) f18.body (defBody (top 29)) = true := by decide +kernel
theorem c19 : cSs sg f19.N f19.lam (defScope (top 30)) f19.body (defBody (top 30)) = true := by decide +kernel
theorem c20 : cSs sg f20.N f20.lam (defScope (top 31)) f20.body (defBody (top 31)) = true := by decide +kernel
theorem c21 : cSs sg f21.N f21.lam (defScope (top 32)) f21.body (defBody (top 32)) = true := by decide +kernel
theorem c22 : cSs sg f22.N f22.lam (defScope (top 33)) f22.body (defBody (top 33)) = true := by decide +kernel
theorem c23 : cSs sg f23.N f23.lam (defScope (top 34)) f23.body (defBody (top 34)) = true := by decide +kernel
theorem c24 : cSs sg f24.N f24.lam (defScope (top 35)) f24.body (defBody (top 35)) = true := by decide +kernel
theorem c25 : cSs sg f25.N f25.lam (defScope (top 37)) f25.body (defBody (top 37)) = true := by decide +kernel
theorem c26 : cSs sg f26.N f26.lam (defScope (top 38)) f26.body (defBody (top 38)) = true := by decide +kernel
theorem c27 : cSs sg f27.N f27.lam (defScope (top 39)) f27.body (defBody (top 39)) = true := by decide +kernel
end K08

set_option Elab.async false
set_option linter.all false
set_option maxRecDepth 100000
set_option maxHeartbeats 4000000
namespace MP
open PySem PySem.Spec PyProof.Rows L2 PySem.W
/-! ### the end: small words -/
section
variable {K : PySem.W.Frag}
theorem wrT_mk {a : Addr} {xs : List V} {od : Option Addr} {its : Array Value} {n : Nat} {sl : Array (Option Value)} (l : K.lookup a = some ⟨.type "tuple", od, .seq its n, sl⟩) (hs : its.size ≤ sizeLine) (r : Vals xs its.toList) : WrT K a xs := ⟨_, _, _, l, rfl, rfl, hs, r⟩
/-- a constant as the top has written it -/
structure ConOk (K : PySem.W.Frag) (mg : Str → Option Value) (x : Str) (d : D) (v : V) : Prop where
  at' : ∃ u, mg x = some u ∧ RelV v u
  re : ∀ F μ H, Rel K F μ H d v
theorem exm_own {S : Addr} (h1 : PySem.W.subIn K (.ref S) (.type "BaseException") = some true) (h2 : PySem.W.isClsIn K S = true) (h3 : PySem.W.typeIn K (.ref S) = some (.type "type")) (h4 : PySem.W.subIn K (.ref S) (.ref S) = some true) : PySem.W.exmOne K (.ref S) (.ref S) = some true := by
  have h2' : (PySem.W.clsIn K S).isSome = true := h2
  unfold PySem.W.exmOne
  rw [h1, if_pos (by rfl)]
  unfold PySem.W.kitCls
  simp only [h2', h3, h4]
  rfl
end
end MP

set_option Elab.async false
set_option linter.all false
set_option maxRecDepth 100000
set_option maxHeartbeats 8000000
namespace K08
open PySem L2 MP PySem.W LamX
/-- the defs' scopes -/
theorem s0 : FnScope f0.N ["value"] (defScope (top 5)) := ⟨rfl, rfl, rfl, by decide +kernel, rfl, by decide +kernel, by decide +kernel⟩
theorem s1 : FnScope f1.N ["number"] (defScope (top 11)) := ⟨rfl, rfl, rfl, by decide +kernel, rfl, by decide +kernel, by decide +kernel⟩
theorem s2 : FnScope f2.N ["numbers"] (defScope (top 12)) := ⟨rfl, rfl, rfl, by decide +kernel, rfl, by decide +kernel, by decide +kernel⟩
theorem s3 : FnScope f3.N ["number"] (defScope (top 13)) := ⟨rfl, rfl, rfl, by decide +kernel, rfl, by decide +kernel, by decide +kernel⟩
theorem s4 : FnScope f4.N ["number"] (defScope (top 14)) := ⟨rfl, rfl, rfl, by decide +kernel, rfl, by decide +kernel, by decide +kernel⟩
theorem s5 : FnScope f5.N ["root"] (defScope (top 15)) := ⟨rfl, rfl, rfl, by decide +kernel, rfl, by decide +kernel, by decide +kernel⟩
theorem s6 : FnScope f6.N ["top", "bottom"] (defScope (top 16)) := ⟨rfl, rfl, rfl, by decide +kernel, rfl, by decide +kernel, by decide +kernel⟩
theorem s7 : FnScope f7.N ["first", "second", "third", "is_more"] (defScope (top 17)) := ⟨rfl, rfl, rfl, by decide +kernel, rfl, by decide +kernel, by decide +kernel⟩
theorem s8 : FnScope f8.N ["plain", "times", "square"] (defScope (top 18)) := ⟨rfl, rfl, rfl, by decide +kernel, rfl, by decide +kernel, by decide +kernel⟩
theorem s9 : FnScope f9.N ["root"] (defScope (top 19)) := ⟨rfl, rfl, rfl, by decide +kernel, rfl, by decide +kernel, by decide +kernel⟩
theorem s10 : FnScope f10.N ["one", "other"] (defScope (top 20)) := ⟨rfl, rfl, rfl, by decide +kernel, rfl, by decide +kernel, by decide +kernel⟩
theorem s11 : FnScope f11.N ["root", "fraction"] (defScope (top 21)) := ⟨rfl, rfl, rfl, by decide +kernel, rfl, by decide +kernel, by decide +kernel⟩
theorem s12 : FnScope f12.N ["one", "other"] (defScope (top 22)) := ⟨rfl, rfl, rfl, by decide +kernel, rfl, by decide +kernel, by decide +kernel⟩
theorem s13 : FnScope f13.N ["number"] (defScope (top 23)) := ⟨rfl, rfl, rfl, by decide +kernel, rfl, by decide +kernel, by decide +kernel⟩
theorem s14 : FnScope f14.N ["value"] (defScope (top 24)) := ⟨rfl, rfl, rfl, by decide +kernel, rfl, by decide +kernel, by decide +kernel⟩
theorem s15 : FnScope f15.N ["value"] (defScope (top 25)) := ⟨rfl, rfl, rfl, by decide +kernel, rfl, by decide +kernel, by decide +kernel⟩
theorem s16 : FnScope f16.N ["script"] (defScope (top 27)) := ⟨rfl, rfl, rfl, by decide +kernel, rfl, by decide +kernel, by decide +kernel⟩
theorem s17 : FnScope f17.N ["source", "many"] (defScope (top 28)) := ⟨rfl, rfl, rfl, by decide +kernel, rfl, by decide +kernel, by decide +kernel⟩
theorem s18 : FnScope f18.N ["source", "some"] (defScope (top 29)) := ⟨rfl, rfl, rfl, by decide +kernel, rfl, by decide +kernel, by decide +kernel⟩
theorem s19 : FnScope f19.N ["one", "other"] (defScope (top 30)) := ⟨rfl, rfl, rfl, by decide +kernel, rfl, by decide +kernel, by decide +kernel⟩
theorem s20 : FnScope f20.N ["number", "many"] (defScope (top 31)) := ⟨rfl, rfl, rfl, by decide +kernel, rfl, by decide +kernel, by decide +kernel⟩
theorem s21 : FnScope f21.N ["number"] (defScope (top 32)) := ⟨rfl, rfl, rfl, by decide +kernel, rfl, by decide +kernel, by decide +kernel⟩
theorem s22 : FnScope f22.N ["source", "most"] (defScope (top 33)) := ⟨rfl, rfl, rfl, by decide +kernel, rfl, by decide +kernel, by decide +kernel⟩
theorem s23 : FnScope f23.N ["root", "top", "bottom"] (defScope (top 34)) := ⟨rfl, rfl, rfl, by decide +kernel, rfl, by decide +kernel, by decide +kernel⟩
theorem s24 : FnScope f24.N ["root", "far"] (defScope (top 35)) := ⟨rfl, rfl, rfl, by decide +kernel, rfl, by decide +kernel, by decide +kernel⟩
theorem s25 : FnScope f25.N ["source", "root", "by"] (defScope (top 37)) := ⟨rfl, rfl, rfl, by decide +kernel, rfl, by decide +kernel, by decide +kernel⟩
theorem s26 : FnScope f26.N ["source"] (defScope (top 38)) := ⟨rfl, rfl, rfl, by decide +kernel, rfl, by decide +kernel, by decide +kernel⟩
theorem s27 : FnScope f27.N ["script"] (defScope (top 39)) := ⟨rfl, rfl, rfl, by decide +kernel, rfl, by decide +kernel, by decide +kernel⟩
abbrev LawFacts (l : PySem.W.OpenLaw) (w : World) (K : PySem.W.Frag) (mg : Str → Option Value) (fa : Addr) (h : Heap) : Prop := LawG l w K 45 63 "script" mg fa h
abbrev Plain : Prop := ∀ ns : List Int, ns.length ≤ 63 → (∀ z ∈ ns, Builtin.Int.intBits z ≤ 1048576) → ∃ st', callN Pg 14 27 [.scr (ns.map D.int)] [] = .ok (.bl true) st'
theorem all_mk {l : PySem.W.OpenLaw} {w : World} {K : PySem.W.Frag} {h : Heap} {mg : Str → Option Value} {fa : Addr} {PT : Addr} (hTab : h.get? PT = some { cls := .none, data := .fields #[] }) (plain : Plain) (X : K.In h) (G : h.Ns mainGlobals mg) (hfa : mg "law" = some (.ref fa))
    {g0 : Addr} {od0 an0 : Option Addr} {sl0 : Array (Option Value)} {oc0 kV0 dc0 pm0 cd0 ct0 : Value}
    {g1 : Addr} {od1 an1 : Option Addr} {sl1 : Array (Option Value)} {oc1 kV1 dc1 pm1 cd1 ct1 : Value}
    {g2 : Addr} {od2 an2 : Option Addr} {sl2 : Array (Option Value)} {oc2 kV2 dc2 pm2 cd2 ct2 : Value}
    {g3 : Addr} {od3 an3 : Option Addr} {sl3 : Array (Option Value)} {oc3 kV3 dc3 pm3 cd3 ct3 : Value}
    {g4 : Addr} {od4 an4 : Option Addr} {sl4 : Array (Option Value)} {oc4 kV4 dc4 pm4 cd4 ct4 : Value}
    {g5 : Addr} {od5 an5 : Option Addr} {sl5 : Array (Option Value)} {oc5 kV5 dc5 pm5 cd5 ct5 : Value}
    {g6 : Addr} {od6 an6 : Option Addr} {sl6 : Array (Option Value)} {oc6 kV6 dc6 pm6 cd6 ct6 : Value}
    {g7 : Addr} {od7 an7 : Option Addr} {sl7 : Array (Option Value)} {oc7 kV7 dc7 pm7 cd7 ct7 : Value}
    {g8 : Addr} {od8 an8 : Option Addr} {sl8 : Array (Option Value)} {oc8 kV8 dc8 pm8 cd8 ct8 : Value}
    {g9 : Addr} {od9 an9 : Option Addr} {sl9 : Array (Option Value)} {oc9 kV9 dc9 pm9 cd9 ct9 : Value}
    {g10 : Addr} {od10 an10 : Option Addr} {sl10 : Array (Option Value)} {oc10 kV10 dc10 pm10 cd10 ct10 : Value}
    {g11 : Addr} {od11 an11 : Option Addr} {sl11 : Array (Option Value)} {oc11 kV11 dc11 pm11 cd11 ct11 : Value}
    {g12 : Addr} {od12 an12 : Option Addr} {sl12 : Array (Option Value)} {oc12 kV12 dc12 pm12 cd12 ct12 : Value}
    {g13 : Addr} {od13 an13 : Option Addr} {sl13 : Array (Option Value)} {oc13 kV13 dc13 pm13 cd13 ct13 : Value}
    {g14 : Addr} {od14 an14 : Option Addr} {sl14 : Array (Option Value)} {oc14 kV14 dc14 pm14 cd14 ct14 : Value}
    {g15 : Addr} {od15 an15 : Option Addr} {sl15 : Array (Option Value)} {oc15 kV15 dc15 pm15 cd15 ct15 : Value}
    {g16 : Addr} {od16 an16 : Option Addr} {sl16 : Array (Option Value)} {oc16 kV16 dc16 pm16 cd16 ct16 : Value}
    {g17 : Addr} {od17 an17 : Option Addr} {sl17 : Array (Option Value)} {oc17 kV17 dc17 pm17 cd17 ct17 : Value}
    {g18 : Addr} {od18 an18 : Option Addr} {sl18 : Array (Option Value)} {oc18 kV18 dc18 pm18 cd18 ct18 : Value}
    {g19 : Addr} {od19 an19 : Option Addr} {sl19 : Array (Option Value)} {oc19 kV19 dc19 pm19 cd19 ct19 : Value}
    {g20 : Addr} {od20 an20 : Option Addr} {sl20 : Array (Option Value)} {oc20 kV20 dc20 pm20 cd20 ct20 : Value}
    {g21 : Addr} {od21 an21 : Option Addr} {sl21 : Array (Option Value)} {oc21 kV21 dc21 pm21 cd21 ct21 : Value}
    {g22 : Addr} {od22 an22 : Option Addr} {sl22 : Array (Option Value)} {oc22 kV22 dc22 pm22 cd22 ct22 : Value}
    {g23 : Addr} {od23 an23 : Option Addr} {sl23 : Array (Option Value)} {oc23 kV23 dc23 pm23 cd23 ct23 : Value}
    {g24 : Addr} {od24 an24 : Option Addr} {sl24 : Array (Option Value)} {oc24 kV24 dc24 pm24 cd24 ct24 : Value}
    {g25 : Addr} {od25 an25 : Option Addr} {sl25 : Array (Option Value)} {oc25 kV25 dc25 pm25 cd25 ct25 : Value}
    {g26 : Addr} {od26 an26 : Option Addr} {sl26 : Array (Option Value)} {oc26 kV26 dc26 pm26 cd26 ct26 : Value}
    {g27 : Addr} {od27 an27 : Option Addr} {sl27 : Array (Option Value)} {oc27 kV27 dc27 pm27 ct27 : Value}
    {cdL : Addr}
    {t0 : Tok}
    {t1 : Tok}
    {t2 : Tok}
    {q3 : Addr} {md3 : Option Addr} {mn3 : Nat} {ms3 : Array (Option Value)} {t3_0 t3_1 : Tok}
    {C : Addr} {xnm xq : Str} {NC : Addr} {bsC bmC : List Value} {snC : List Str} {subC : List Value} {abC : Bool} {colC : Option Bool} {ddC : Option Addr} {m0 m1 m2 m3 m5 : Option Value}
    {fI cdI ccI : Addr} {ocI kVI dcI pmI ctI cclI clI : Value} {odI anI cddI cldI : Option Addr} {slI ccsI cslI : Array (Option Value)} {vsI : Array Value} {fileI : Str} {tfI : Tok} {cdD : ClassData}
    {gT : Addr} {odT anT : Option Addr} {slT : Array (Option Value)} {ocT kVT dcT pmT cdT ctT : Value}
    (a0 : PySem.W.nsIn K mainGlobals "is_whole" = some (some (.ref g0)))
    (l0 : K.lookup g0 = some ⟨oc0, od0, .func (PySem.W.fnOf "is_whole" "is_whole" (defArgs (top 5)) (defBody (top 5)) (defScope (top 5)) .none kV0 dc0 pm0 an0 cd0 ct0), sl0⟩)
    (c0_ : PySem.W.codeIn K cd0 "is_whole" = true)
    (k0 : PySem.W.keepIn K (.ref g0) = true)
    (a1 : PySem.W.nsIn K mainGlobals "is_long" = some (some (.ref g1)))
    (l1 : K.lookup g1 = some ⟨oc1, od1, .func (PySem.W.fnOf "is_long" "is_long" (defArgs (top 11)) (defBody (top 11)) (defScope (top 11)) .none kV1 dc1 pm1 an1 cd1 ct1), sl1⟩)
    (c1_ : PySem.W.codeIn K cd1 "is_long" = true)
    (k1 : PySem.W.keepIn K (.ref g1) = true)
    (a2 : PySem.W.nsIn K mainGlobals "not_long" = some (some (.ref g2)))
    (l2 : K.lookup g2 = some ⟨oc2, od2, .func (PySem.W.fnOf "not_long" "not_long" (defArgs (top 12)) (defBody (top 12)) (defScope (top 12)) .none kV2 dc2 pm2 an2 cd2 ct2), sl2⟩)
    (c2_ : PySem.W.codeIn K cd2 "not_long" = true)
    (k2 : PySem.W.keepIn K (.ref g2) = true)
    (a3 : PySem.W.nsIn K mainGlobals "sign_of" = some (some (.ref g3)))
    (l3 : K.lookup g3 = some ⟨oc3, od3, .func (PySem.W.fnOf "sign_of" "sign_of" (defArgs (top 13)) (defBody (top 13)) (defScope (top 13)) .none kV3 dc3 pm3 an3 cd3 ct3), sl3⟩)
    (c3_ : PySem.W.codeIn K cd3 "sign_of" = true)
    (k3 : PySem.W.keepIn K (.ref g3) = true)
    (a4 : PySem.W.nsIn K mainGlobals "is_squared" = some (some (.ref g4)))
    (l4 : K.lookup g4 = some ⟨oc4, od4, .func (PySem.W.fnOf "is_squared" "is_squared" (defArgs (top 14)) (defBody (top 14)) (defScope (top 14)) .none kV4 dc4 pm4 an4 cd4 ct4), sl4⟩)
    (c4_ : PySem.W.codeIn K cd4 "is_squared" = true)
    (k4 : PySem.W.keepIn K (.ref g4) = true)
    (a5 : PySem.W.nsIn K mainGlobals "square_of" = some (some (.ref g5)))
    (l5 : K.lookup g5 = some ⟨oc5, od5, .func (PySem.W.fnOf "square_of" "square_of" (defArgs (top 15)) (defBody (top 15)) (defScope (top 15)) .none kV5 dc5 pm5 an5 cd5 ct5), sl5⟩)
    (c5_ : PySem.W.codeIn K cd5 "square_of" = true)
    (k5 : PySem.W.keepIn K (.ref g5) = true)
    (a6 : PySem.W.nsIn K mainGlobals "fraction_told" = some (some (.ref g6)))
    (l6 : K.lookup g6 = some ⟨oc6, od6, .func (PySem.W.fnOf "fraction_told" "fraction_told" (defArgs (top 16)) (defBody (top 16)) (defScope (top 16)) .none kV6 dc6 pm6 an6 cd6 ct6), sl6⟩)
    (c6_ : PySem.W.codeIn K cd6 "fraction_told" = true)
    (k6 : PySem.W.keepIn K (.ref g6) = true)
    (a7 : PySem.W.nsIn K mainGlobals "root_told" = some (some (.ref g7)))
    (l7 : K.lookup g7 = some ⟨oc7, od7, .func (PySem.W.fnOf "root_told" "root_told" (defArgs (top 17)) (defBody (top 17)) (defScope (top 17)) .none kV7 dc7 pm7 an7 cd7 ct7), sl7⟩)
    (c7_ : PySem.W.codeIn K cd7 "root_told" = true)
    (k7 : PySem.W.keepIn K (.ref g7) = true)
    (a8 : PySem.W.nsIn K mainGlobals "rooted_sign" = some (some (.ref g8)))
    (l8 : K.lookup g8 = some ⟨oc8, od8, .func (PySem.W.fnOf "rooted_sign" "rooted_sign" (defArgs (top 18)) (defBody (top 18)) (defScope (top 18)) .none kV8 dc8 pm8 an8 cd8 ct8), sl8⟩)
    (c8_ : PySem.W.codeIn K cd8 "rooted_sign" = true)
    (k8 : PySem.W.keepIn K (.ref g8) = true)
    (a9 : PySem.W.nsIn K mainGlobals "times_root" = some (some (.ref g9)))
    (l9 : K.lookup g9 = some ⟨oc9, od9, .func (PySem.W.fnOf "times_root" "times_root" (defArgs (top 19)) (defBody (top 19)) (defScope (top 19)) .none kV9 dc9 pm9 an9 cd9 ct9), sl9⟩)
    (c9_ : PySem.W.codeIn K cd9 "times_root" = true)
    (k9 : PySem.W.keepIn K (.ref g9) = true)
    (a10 : PySem.W.nsIn K mainGlobals "roots_order" = some (some (.ref g10)))
    (l10 : K.lookup g10 = some ⟨oc10, od10, .func (PySem.W.fnOf "roots_order" "roots_order" (defArgs (top 20)) (defBody (top 20)) (defScope (top 20)) .none kV10 dc10 pm10 an10 cd10 ct10), sl10⟩)
    (c10_ : PySem.W.codeIn K cd10 "roots_order" = true)
    (k10 : PySem.W.keepIn K (.ref g10) = true)
    (a11 : PySem.W.nsIn K mainGlobals "root_order" = some (some (.ref g11)))
    (l11 : K.lookup g11 = some ⟨oc11, od11, .func (PySem.W.fnOf "root_order" "root_order" (defArgs (top 21)) (defBody (top 21)) (defScope (top 21)) .none kV11 dc11 pm11 an11 cd11 ct11), sl11⟩)
    (c11_ : PySem.W.codeIn K cd11 "root_order" = true)
    (k11 : PySem.W.keepIn K (.ref g11) = true)
    (a12 : PySem.W.nsIn K mainGlobals "line_order" = some (some (.ref g12)))
    (l12 : K.lookup g12 = some ⟨oc12, od12, .func (PySem.W.fnOf "line_order" "line_order" (defArgs (top 22)) (defBody (top 22)) (defScope (top 22)) .none kV12 dc12 pm12 an12 cd12 ct12), sl12⟩)
    (c12_ : PySem.W.codeIn K cd12 "line_order" = true)
    (k12 : PySem.W.keepIn K (.ref g12) = true)
    (a13 : PySem.W.nsIn K mainGlobals "number_floor" = some (some (.ref g13)))
    (l13 : K.lookup g13 = some ⟨oc13, od13, .func (PySem.W.fnOf "number_floor" "number_floor" (defArgs (top 23)) (defBody (top 23)) (defScope (top 23)) .none kV13 dc13 pm13 an13 cd13 ct13), sl13⟩)
    (c13_ : PySem.W.codeIn K cd13 "number_floor" = true)
    (k13 : PySem.W.keepIn K (.ref g13) = true)
    (a14 : PySem.W.nsIn K mainGlobals "is_root" = some (some (.ref g14)))
    (l14 : K.lookup g14 = some ⟨oc14, od14, .func (PySem.W.fnOf "is_root" "is_root" (defArgs (top 24)) (defBody (top 24)) (defScope (top 24)) .none kV14 dc14 pm14 an14 cd14 ct14), sl14⟩)
    (c14_ : PySem.W.codeIn K cd14 "is_root" = true)
    (k14 : PySem.W.keepIn K (.ref g14) = true)
    (a15 : PySem.W.nsIn K mainGlobals "is_told_number" = some (some (.ref g15)))
    (l15 : K.lookup g15 = some ⟨oc15, od15, .func (PySem.W.fnOf "is_told_number" "is_told_number" (defArgs (top 25)) (defBody (top 25)) (defScope (top 25)) .none kV15 dc15 pm15 an15 cd15 ct15), sl15⟩)
    (c15_ : PySem.W.codeIn K cd15 "is_told_number" = true)
    (k15 : PySem.W.keepIn K (.ref g15) = true)
    (a16 : PySem.W.nsIn K mainGlobals "_law_source" = some (some (.ref g16)))
    (l16 : K.lookup g16 = some ⟨oc16, od16, .func (PySem.W.fnOf "_law_source" "_law_source" (defArgs (top 27)) (defBody (top 27)) (defScope (top 27)) .none kV16 dc16 pm16 an16 cd16 ct16), sl16⟩)
    (c16_ : PySem.W.codeIn K cd16 "_law_source" = true)
    (k16 : PySem.W.keepIn K (.ref g16) = true)
    (a17 : PySem.W.nsIn K mainGlobals "_law_pick" = some (some (.ref g17)))
    (l17 : K.lookup g17 = some ⟨oc17, od17, .func (PySem.W.fnOf "_law_pick" "_law_pick" (defArgs (top 28)) (defBody (top 28)) (defScope (top 28)) .none kV17 dc17 pm17 an17 cd17 ct17), sl17⟩)
    (c17_ : PySem.W.codeIn K cd17 "_law_pick" = true)
    (k17 : PySem.W.keepIn K (.ref g17) = true)
    (a18 : PySem.W.nsIn K mainGlobals "_law_of" = some (some (.ref g18)))
    (l18 : K.lookup g18 = some ⟨oc18, od18, .func (PySem.W.fnOf "_law_of" "_law_of" (defArgs (top 29)) (defBody (top 29)) (defScope (top 29)) .none kV18 dc18 pm18 an18 cd18 ct18), sl18⟩)
    (c18_ : PySem.W.codeIn K cd18 "_law_of" = true)
    (k18 : PySem.W.keepIn K (.ref g18) = true)
    (a19 : PySem.W.nsIn K mainGlobals "_law_part" = some (some (.ref g19)))
    (l19 : K.lookup g19 = some ⟨oc19, od19, .func (PySem.W.fnOf "_law_part" "_law_part" (defArgs (top 30)) (defBody (top 30)) (defScope (top 30)) .none kV19 dc19 pm19 an19 cd19 ct19), sl19⟩)
    (c19_ : PySem.W.codeIn K cd19 "_law_part" = true)
    (k19 : PySem.W.keepIn K (.ref g19) = true)
    (a20 : PySem.W.nsIn K mainGlobals "_law_power" = some (some (.ref g20)))
    (l20 : K.lookup g20 = some ⟨oc20, od20, .func (PySem.W.fnOf "_law_power" "_law_power" (defArgs (top 31)) (defBody (top 31)) (defScope (top 31)) .none kV20 dc20 pm20 an20 cd20 ct20), sl20⟩)
    (c20_ : PySem.W.codeIn K cd20 "_law_power" = true)
    (k20 : PySem.W.keepIn K (.ref g20) = true)
    (a21 : PySem.W.nsIn K mainGlobals "_law_is_square" = some (some (.ref g21)))
    (l21 : K.lookup g21 = some ⟨oc21, od21, .func (PySem.W.fnOf "_law_is_square" "_law_is_square" (defArgs (top 32)) (defBody (top 32)) (defScope (top 32)) .none kV21 dc21 pm21 an21 cd21 ct21), sl21⟩)
    (c21_ : PySem.W.codeIn K cd21 "_law_is_square" = true)
    (k21 : PySem.W.keepIn K (.ref g21) = true)
    (a22 : PySem.W.nsIn K mainGlobals "_law_table" = some (some (.ref g22)))
    (l22 : K.lookup g22 = some ⟨oc22, od22, .func (PySem.W.fnOf "_law_table" "_law_table" (defArgs (top 33)) (defBody (top 33)) (defScope (top 33)) .none kV22 dc22 pm22 an22 cd22 ct22), sl22⟩)
    (c22_ : PySem.W.codeIn K cd22 "_law_table" = true)
    (k22 : PySem.W.keepIn K (.ref g22) = true)
    (a23 : PySem.W.nsIn K mainGlobals "_law_is_below" = some (some (.ref g23)))
    (l23 : K.lookup g23 = some ⟨oc23, od23, .func (PySem.W.fnOf "_law_is_below" "_law_is_below" (defArgs (top 34)) (defBody (top 34)) (defScope (top 34)) .none kV23 dc23 pm23 an23 cd23 ct23), sl23⟩)
    (c23_ : PySem.W.codeIn K cd23 "_law_is_below" = true)
    (k23 : PySem.W.keepIn K (.ref g23) = true)
    (a24 : PySem.W.nsIn K mainGlobals "_law_floor" = some (some (.ref g24)))
    (l24 : K.lookup g24 = some ⟨oc24, od24, .func (PySem.W.fnOf "_law_floor" "_law_floor" (defArgs (top 35)) (defBody (top 35)) (defScope (top 35)) .none kV24 dc24 pm24 an24 cd24 ct24), sl24⟩)
    (c24_ : PySem.W.codeIn K cd24 "_law_floor" = true)
    (k24 : PySem.W.keepIn K (.ref g24) = true)
    (a25 : PySem.W.nsIn K mainGlobals "_law_root_right" = some (some (.ref g25)))
    (l25 : K.lookup g25 = some ⟨oc25, od25, .func (PySem.W.fnOf "_law_root_right" "_law_root_right" (defArgs (top 37)) (defBody (top 37)) (defScope (top 37)) .none kV25 dc25 pm25 an25 cd25 ct25), sl25⟩)
    (c25_ : PySem.W.codeIn K cd25 "_law_root_right" = true)
    (k25 : PySem.W.keepIn K (.ref g25) = true)
    (a26 : PySem.W.nsIn K mainGlobals "_law_parted_right" = some (some (.ref g26)))
    (l26 : K.lookup g26 = some ⟨oc26, od26, .func (PySem.W.fnOf "_law_parted_right" "_law_parted_right" (defArgs (top 38)) (defBody (top 38)) (defScope (top 38)) .none kV26 dc26 pm26 an26 cd26 ct26), sl26⟩)
    (c26_ : PySem.W.codeIn K cd26 "_law_parted_right" = true)
    (k26 : PySem.W.keepIn K (.ref g26) = true)
    (a27 : PySem.W.nsIn K mainGlobals "law" = some (some (.ref g27)))
    (l27 : K.lookup g27 = some ⟨oc27, od27, .func (PySem.W.fnOf "law" "law" (defArgs (top 39)) (defBody (top 39)) (defScope (top 39)) .none kV27 dc27 pm27 an27 (.ref cdL) ct27), sl27⟩)
    (c27_ : PySem.W.codeIn K (.ref cdL) "law" = true)
    (k27 : PySem.W.keepIn K (.ref g27) = true)
    (hd : PySem.W.codeHdIn K cdL PT = true)
    (tk : K.lookup PT = none)
    (n0 : PySem.W.nsIn K mainGlobals "MOST_FIGURES" = some (some (.int (300) t0)))
    (n1 : PySem.W.nsIn K mainGlobals "SURE_BITS" = some (some (.int (997) t1)))
    (n2 : PySem.W.nsIn K mainGlobals "LONG_NUMBER" = some (some (.int (4) t2)))
    (n3 : PySem.W.nsIn K mainGlobals "TOP" = some (some (.ref q3)))
    (mk3 : K.lookup q3 = some ⟨.type "tuple", md3, .seq #[.int (1) t3_0, .int (0) t3_1] mn3, ms3⟩)
    (b_abs : PySem.W.nsIn K mainGlobals "abs" = some none)
    (b_len : PySem.W.nsIn K mainGlobals "len" = some none)
    (b_max : PySem.W.nsIn K mainGlobals "max" = some none)
    (b_min : PySem.W.nsIn K mainGlobals "min" = some none)
    (b_int : PySem.W.nsIn K mainGlobals "int" = some none)
    (b_str : PySem.W.nsIn K mainGlobals "str" = some none)
    (b_repr : PySem.W.nsIn K mainGlobals "repr" = some none)
    (b_tuple : PySem.W.nsIn K mainGlobals "tuple" = some none)
    (b_all : PySem.W.nsIn K mainGlobals "all" = some none)
    (b_any : PySem.W.nsIn K mainGlobals "any" = some none)
    (b_sum : PySem.W.nsIn K mainGlobals "sum" = some none)
    (b_range : PySem.W.nsIn K mainGlobals "range" = some none)
    (b_list : PySem.W.nsIn K mainGlobals "list" = some none)
    (b_dict : PySem.W.nsIn K mainGlobals "dict" = some none)
    (b_enumerate : PySem.W.nsIn K mainGlobals "enumerate" = some none)
    (b_zip : PySem.W.nsIn K mainGlobals "zip" = some none)
    (b_isinstance : PySem.W.nsIn K mainGlobals "isinstance" = some none)
    (b_bool : PySem.W.nsIn K mainGlobals "bool" = some none)
    (b_sorted : PySem.W.nsIn K mainGlobals "sorted" = some none)
    (gcd_ : PySem.W.nsIn K mainGlobals "gcd" = some (some (.builtin "math.gcd")))
    (isqrt_ : PySem.W.nsIn K mainGlobals "isqrt" = some (some (.builtin "math.isqrt")))
    (aC : PySem.W.nsIn K mainGlobals "TooGreat" = some (some (.ref C)))
    (xC : K.lookup C = some (excClassObj xnm xq C NC bsC bmC true snC subC abC colC ddC m0 m1 m2 m3 m5 "ValueError.__new__"))
    (rC : PySem.HandSPX.refsVE bmC = true)
    (saC : PySem.W.findIn K (.ref C) "__setattr__" = some (some (.builtin "object.__setattr__")))
    (exC : PySem.W.subIn K (.ref C) (.type "BaseException") = some true)
    (tyC : PySem.W.typeIn K (.ref C) = some (.type "type"))
    (kC : PySem.W.keepIn K (.ref C) = true)
    (iC : PySem.W.isClsIn K C = true)
    (sC : PySem.W.subIn K (.ref C) (.ref C) = some true)
    (gaC : PySem.W.findIn K (.ref C) "__getattribute__" = some (some (.builtin "BaseException.__getattribute__")))
    (ggC : PySem.W.findIn K (.ref C) "__getattr__" = some none)
    (hdC : PySem.W.hasDictIn K C = true)
    (nfC : PySem.W.findIn K (.ref C) "number" = some none)
    (inC : PySem.W.findIn K (.ref C) "__init__" = some (some (.ref fI)))
    (tyI : PySem.W.typeIn K (.ref fI) = some (.type "function"))
    (lI : K.lookup fI = some ⟨ocI, odI, .func (ksFn "__init__" "TooGreat.__init__" (defArgs (inClass (top 3) 0)) (defBody (inClass (top 3) 0)) (defScope (inClass (top 3) 0)) .none kVI dcI pmI anI (.ref cdI) ctI ccI), slI⟩)
    (cI : PySem.W.codeIn K (.ref cdI) "TooGreat.__init__" = true)
    (kcI : K.lookup cdI = some ⟨cclI, cddI, .fields vsI, ccsI⟩)
    (v2I : vsI[2]? = some (.str fileI tfI))
    (flI : ((l.prog.main.file : Str) == fileI) = true)
    (ccl : K.lookup ccI = some ⟨clI, cldI, .cell (some (.ref C)), cslI⟩)
    (clC : PySem.W.clsIn K C = some cdD)
    (mrC : PySem.W.mroIn K C (.ref C) = some true)
    (supG : PySem.W.nsIn K mainGlobals "super" = some none)
    (thr : PySem.W.nsIn K cStatics "thirdparty.any" = some none)
    (alo : PySem.W.ks_superIn K C C "__init__" = some (some (.builtin "ValueError.__init__")))
    (sbV : PySem.W.subIn K (.ref C) (.type "ValueError") = some true)
    (topS : (l.prog.main.scope.names.lookup ("super" : Str)).isSome = false)
    (aT : PySem.W.nsIn K mainGlobals "_law_great" = some (some (.ref gT)))
    (lT : K.lookup gT = some ⟨ocT, odT, .func (PySem.W.fnOf "_law_great" "_law_great" (defArgs (top 36)) (defBody (top 36)) (defScope (top 36)) .none kVT dcT pmT anT cdT ctT), slT⟩)
    (cT : PySem.W.codeIn K cdT "_law_great" = true)
    (kT : PySem.W.keepIn K (.ref gT) = true)
    : LawFacts l w K mg fa h := by
  have e := hfa.symm.trans (mg_of X G a27)
  cases e
  have F0 := fun_mk (st := top 5) l0 c0_ k0
  have B0 := F0.binds (ps := ["value"]) fun _ _ _ _ _ _ us hl => match us, hl with | [_], _ => rfl
  have F1 := fun_mk (st := top 11) l1 c1_ k1
  have B1 := F1.binds (ps := ["number"]) fun _ _ _ _ _ _ us hl => match us, hl with | [_], _ => rfl
  have F2 := fun_mk (st := top 12) l2 c2_ k2
  have B2 := F2.binds (ps := ["numbers"]) fun _ _ _ _ _ _ us hl => match us, hl with | [_], _ => rfl
  have F3 := fun_mk (st := top 13) l3 c3_ k3
  have B3 := F3.binds (ps := ["number"]) fun _ _ _ _ _ _ us hl => match us, hl with | [_], _ => rfl
  have F4 := fun_mk (st := top 14) l4 c4_ k4
  have B4 := F4.binds (ps := ["number"]) fun _ _ _ _ _ _ us hl => match us, hl with | [_], _ => rfl
  have F5 := fun_mk (st := top 15) l5 c5_ k5
  have B5 := F5.binds (ps := ["root"]) fun _ _ _ _ _ _ us hl => match us, hl with | [_], _ => rfl
  have F6 := fun_mk (st := top 16) l6 c6_ k6
  have B6 := F6.binds (ps := ["top", "bottom"]) fun _ _ _ _ _ _ us hl => match us, hl with | [_, _], _ => rfl
  have F7 := fun_mk (st := top 17) l7 c7_ k7
  have B7 := F7.binds (ps := ["first", "second", "third", "is_more"]) fun _ _ _ _ _ _ us hl => match us, hl with | [_, _, _, _], _ => rfl
  have F8 := fun_mk (st := top 18) l8 c8_ k8
  have B8 := F8.binds (ps := ["plain", "times", "square"]) fun _ _ _ _ _ _ us hl => match us, hl with | [_, _, _], _ => rfl
  have F9 := fun_mk (st := top 19) l9 c9_ k9
  have B9 := F9.binds (ps := ["root"]) fun _ _ _ _ _ _ us hl => match us, hl with | [_], _ => rfl
  have F10 := fun_mk (st := top 20) l10 c10_ k10
  have B10 := F10.binds (ps := ["one", "other"]) fun _ _ _ _ _ _ us hl => match us, hl with | [_, _], _ => rfl
  have F11 := fun_mk (st := top 21) l11 c11_ k11
  have B11 := F11.binds (ps := ["root", "fraction"]) fun _ _ _ _ _ _ us hl => match us, hl with | [_, _], _ => rfl
  have F12 := fun_mk (st := top 22) l12 c12_ k12
  have B12 := F12.binds (ps := ["one", "other"]) fun _ _ _ _ _ _ us hl => match us, hl with | [_, _], _ => rfl
  have F13 := fun_mk (st := top 23) l13 c13_ k13
  have B13 := F13.binds (ps := ["number"]) fun _ _ _ _ _ _ us hl => match us, hl with | [_], _ => rfl
  have F14 := fun_mk (st := top 24) l14 c14_ k14
  have B14 := F14.binds (ps := ["value"]) fun _ _ _ _ _ _ us hl => match us, hl with | [_], _ => rfl
  have F15 := fun_mk (st := top 25) l15 c15_ k15
  have B15 := F15.binds (ps := ["value"]) fun _ _ _ _ _ _ us hl => match us, hl with | [_], _ => rfl
  have F16 := fun_mk (st := top 27) l16 c16_ k16
  have B16 := F16.binds (ps := ["script"]) fun _ _ _ _ _ _ us hl => match us, hl with | [_], _ => rfl
  have F17 := fun_mk (st := top 28) l17 c17_ k17
  have B17 := F17.binds (ps := ["source", "many"]) fun _ _ _ _ _ _ us hl => match us, hl with | [_, _], _ => rfl
  have F18 := fun_mk (st := top 29) l18 c18_ k18
  have B18 := F18.binds (ps := ["source", "some"]) fun _ _ _ _ _ _ us hl => match us, hl with | [_, _], _ => rfl
  have F19 := fun_mk (st := top 30) l19 c19_ k19
  have B19 := F19.binds (ps := ["one", "other"]) fun _ _ _ _ _ _ us hl => match us, hl with | [_, _], _ => rfl
  have F20 := fun_mk (st := top 31) l20 c20_ k20
  have B20 := F20.binds (ps := ["number", "many"]) fun _ _ _ _ _ _ us hl => match us, hl with | [_, _], _ => rfl
  have F21 := fun_mk (st := top 32) l21 c21_ k21
  have B21 := F21.binds (ps := ["number"]) fun _ _ _ _ _ _ us hl => match us, hl with | [_], _ => rfl
  have F22 := fun_mk (st := top 33) l22 c22_ k22
  have B22 := F22.binds (ps := ["source", "most"]) fun _ _ _ _ _ _ us hl => match us, hl with | [_, _], _ => rfl
  have F23 := fun_mk (st := top 34) l23 c23_ k23
  have B23 := F23.binds (ps := ["root", "top", "bottom"]) fun _ _ _ _ _ _ us hl => match us, hl with | [_, _, _], _ => rfl
  have F24 := fun_mk (st := top 35) l24 c24_ k24
  have B24 := F24.binds (ps := ["root", "far"]) fun _ _ _ _ _ _ us hl => match us, hl with | [_, _], _ => rfl
  have F25 := fun_mk (st := top 37) l25 c25_ k25
  have B25 := F25.binds (ps := ["source", "root", "by"]) fun _ _ _ _ _ _ us hl => match us, hl with | [_, _, _], _ => rfl
  have F26 := fun_mk (st := top 38) l26 c26_ k26
  have B26 := F26.binds (ps := ["source"]) fun _ _ _ _ _ _ us hl => match us, hl with | [_], _ => rfl
  have F27 := fun_mk (st := top 39) l27 c27_ k27
  have B27 := F27.binds (ps := ["script"]) fun _ _ _ _ _ _ us hl => match us, hl with | [_], _ => rfl
  let U : Wd := { sg with cls := ⟨fun _ => C, [(PT, "law.<locals>.<lambda>")]⟩, fa := fun i => ([g0, g1, g2, g3, g4, g5, g6, g7, g8, g9, g10, g11, g12, g13, g14, g15, g16, g17, g18, g19, g20, g21, g22, g23, g24, g25, g26, fa] : List Addr).getD i 0, fdat := fun i => ([PySem.W.fnOf "is_whole" "is_whole" (defArgs (top 5)) (defBody (top 5)) (defScope (top 5)) .none kV0 dc0 pm0 an0 cd0 ct0, PySem.W.fnOf "is_long" "is_long" (defArgs (top 11)) (defBody (top 11)) (defScope (top 11)) .none kV1 dc1 pm1 an1 cd1 ct1, PySem.W.fnOf "not_long" "not_long" (defArgs (top 12)) (defBody (top 12)) (defScope (top 12)) .none kV2 dc2 pm2 an2 cd2 ct2, PySem.W.fnOf "sign_of" "sign_of" (defArgs (top 13)) (defBody (top 13)) (defScope (top 13)) .none kV3 dc3 pm3 an3 cd3 ct3, PySem.W.fnOf "is_squared" "is_squared" (defArgs (top 14)) (defBody (top 14)) (defScope (top 14)) .none kV4 dc4 pm4 an4 cd4 ct4, PySem.W.fnOf "square_of" "square_of" (defArgs (top 15)) (defBody (top 15)) (defScope (top 15)) .none kV5 dc5 pm5 an5 cd5 ct5, PySem.W.fnOf "fraction_told" "fraction_told" (defArgs (top 16)) (defBody (top 16)) (defScope (top 16)) .none kV6 dc6 pm6 an6 cd6 ct6, PySem.W.fnOf "root_told" "root_told" (defArgs (top 17)) (defBody (top 17)) (defScope (top 17)) .none kV7 dc7 pm7 an7 cd7 ct7, PySem.W.fnOf "rooted_sign" "rooted_sign" (defArgs (top 18)) (defBody (top 18)) (defScope (top 18)) .none kV8 dc8 pm8 an8 cd8 ct8, PySem.W.fnOf "times_root" "times_root" (defArgs (top 19)) (defBody (top 19)) (defScope (top 19)) .none kV9 dc9 pm9 an9 cd9 ct9, PySem.W.fnOf "roots_order" "roots_order" (defArgs (top 20)) (defBody (top 20)) (defScope (top 20)) .none kV10 dc10 pm10 an10 cd10 ct10, PySem.W.fnOf "root_order" "root_order" (defArgs (top 21)) (defBody (top 21)) (defScope (top 21)) .none kV11 dc11 pm11 an11 cd11 ct11, PySem.W.fnOf "line_order" "line_order" (defArgs (top 22)) (defBody (top 22)) (defScope (top 22)) .none kV12 dc12 pm12 an12 cd12 ct12, PySem.W.fnOf "number_floor" "number_floor" (defArgs (top 23)) (defBody (top 23)) (defScope (top 23)) .none kV13 dc13 pm13 an13 cd13 ct13, PySem.W.fnOf "is_root" "is_root" (defArgs (top 24)) (defBody (top 24)) (defScope (top 24)) .none kV14 dc14 pm14 an14 cd14 ct14, PySem.W.fnOf "is_told_number" "is_told_number" (defArgs (top 25)) (defBody (top 25)) (defScope (top 25)) .none kV15 dc15 pm15 an15 cd15 ct15, PySem.W.fnOf "_law_source" "_law_source" (defArgs (top 27)) (defBody (top 27)) (defScope (top 27)) .none kV16 dc16 pm16 an16 cd16 ct16, PySem.W.fnOf "_law_pick" "_law_pick" (defArgs (top 28)) (defBody (top 28)) (defScope (top 28)) .none kV17 dc17 pm17 an17 cd17 ct17, PySem.W.fnOf "_law_of" "_law_of" (defArgs (top 29)) (defBody (top 29)) (defScope (top 29)) .none kV18 dc18 pm18 an18 cd18 ct18, PySem.W.fnOf "_law_part" "_law_part" (defArgs (top 30)) (defBody (top 30)) (defScope (top 30)) .none kV19 dc19 pm19 an19 cd19 ct19, PySem.W.fnOf "_law_power" "_law_power" (defArgs (top 31)) (defBody (top 31)) (defScope (top 31)) .none kV20 dc20 pm20 an20 cd20 ct20, PySem.W.fnOf "_law_is_square" "_law_is_square" (defArgs (top 32)) (defBody (top 32)) (defScope (top 32)) .none kV21 dc21 pm21 an21 cd21 ct21, PySem.W.fnOf "_law_table" "_law_table" (defArgs (top 33)) (defBody (top 33)) (defScope (top 33)) .none kV22 dc22 pm22 an22 cd22 ct22, PySem.W.fnOf "_law_is_below" "_law_is_below" (defArgs (top 34)) (defBody (top 34)) (defScope (top 34)) .none kV23 dc23 pm23 an23 cd23 ct23, PySem.W.fnOf "_law_floor" "_law_floor" (defArgs (top 35)) (defBody (top 35)) (defScope (top 35)) .none kV24 dc24 pm24 an24 cd24 ct24, PySem.W.fnOf "_law_root_right" "_law_root_right" (defArgs (top 37)) (defBody (top 37)) (defScope (top 37)) .none kV25 dc25 pm25 an25 cd25 ct25, PySem.W.fnOf "_law_parted_right" "_law_parted_right" (defArgs (top 38)) (defBody (top 38)) (defScope (top 38)) .none kV26 dc26 pm26 an26 cd26 ct26, PySem.W.fnOf "law" "law" (defArgs (top 39)) (defBody (top 39)) (defScope (top 39)) .none kV27 dc27 pm27 an27 (.ref cdL) ct27] : List FuncData).getD i (PySem.W.fnOf "is_whole" "is_whole" (defArgs (top 5)) (defBody (top 5)) (defScope (top 5)) .none kV0 dc0 pm0 an0 cd0 ct0), ps := fun i => ([(["value"] : List Str), (["number"] : List Str), (["numbers"] : List Str), (["number"] : List Str), (["number"] : List Str), (["root"] : List Str), (["top", "bottom"] : List Str), (["first", "second", "third", "is_more"] : List Str), (["plain", "times", "square"] : List Str), (["root"] : List Str), (["one", "other"] : List Str), (["root", "fraction"] : List Str), (["one", "other"] : List Str), (["number"] : List Str), (["value"] : List Str), (["value"] : List Str), (["script"] : List Str), (["source", "many"] : List Str), (["source", "some"] : List Str), (["one", "other"] : List Str), (["number", "many"] : List Str), (["number"] : List Str), (["source", "most"] : List Str), (["root", "top", "bottom"] : List Str), (["root", "far"] : List Str), (["source", "root", "by"] : List Str), (["source"] : List Str), (["script"] : List Str)] : List (List Str)).getD i [], cd := fun i => ([.int (300), .int (997), .int (4), .ref q3] : List V).getD i .non }
  have gls : Gls U K mg := by
    refine ⟨fun f fd hf _ => ?_, fun f fd hf => ?_, fun k x d hk => ?_, fun x hx => ?_, fun hg => ?_, fun hg => ?_⟩
    · match f, hf with
      | 0, hf => obtain rfl : f0 = fd := Option.some.inj hf; exact ⟨mg_of X G a0, k0⟩
      | 1, hf => obtain rfl : f1 = fd := Option.some.inj hf; exact ⟨mg_of X G a1, k1⟩
      | 2, hf => obtain rfl : f2 = fd := Option.some.inj hf; exact ⟨mg_of X G a2, k2⟩
      | 3, hf => obtain rfl : f3 = fd := Option.some.inj hf; exact ⟨mg_of X G a3, k3⟩
      | 4, hf => obtain rfl : f4 = fd := Option.some.inj hf; exact ⟨mg_of X G a4, k4⟩
      | 5, hf => obtain rfl : f5 = fd := Option.some.inj hf; exact ⟨mg_of X G a5, k5⟩
      | 6, hf => obtain rfl : f6 = fd := Option.some.inj hf; exact ⟨mg_of X G a6, k6⟩
      | 7, hf => obtain rfl : f7 = fd := Option.some.inj hf; exact ⟨mg_of X G a7, k7⟩
      | 8, hf => obtain rfl : f8 = fd := Option.some.inj hf; exact ⟨mg_of X G a8, k8⟩
      | 9, hf => obtain rfl : f9 = fd := Option.some.inj hf; exact ⟨mg_of X G a9, k9⟩
      | 10, hf => obtain rfl : f10 = fd := Option.some.inj hf; exact ⟨mg_of X G a10, k10⟩
      | 11, hf => obtain rfl : f11 = fd := Option.some.inj hf; exact ⟨mg_of X G a11, k11⟩
      | 12, hf => obtain rfl : f12 = fd := Option.some.inj hf; exact ⟨mg_of X G a12, k12⟩
      | 13, hf => obtain rfl : f13 = fd := Option.some.inj hf; exact ⟨mg_of X G a13, k13⟩
      | 14, hf => obtain rfl : f14 = fd := Option.some.inj hf; exact ⟨mg_of X G a14, k14⟩
      | 15, hf => obtain rfl : f15 = fd := Option.some.inj hf; exact ⟨mg_of X G a15, k15⟩
      | 16, hf => obtain rfl : f16 = fd := Option.some.inj hf; exact ⟨mg_of X G a16, k16⟩
      | 17, hf => obtain rfl : f17 = fd := Option.some.inj hf; exact ⟨mg_of X G a17, k17⟩
      | 18, hf => obtain rfl : f18 = fd := Option.some.inj hf; exact ⟨mg_of X G a18, k18⟩
      | 19, hf => obtain rfl : f19 = fd := Option.some.inj hf; exact ⟨mg_of X G a19, k19⟩
      | 20, hf => obtain rfl : f20 = fd := Option.some.inj hf; exact ⟨mg_of X G a20, k20⟩
      | 21, hf => obtain rfl : f21 = fd := Option.some.inj hf; exact ⟨mg_of X G a21, k21⟩
      | 22, hf => obtain rfl : f22 = fd := Option.some.inj hf; exact ⟨mg_of X G a22, k22⟩
      | 23, hf => obtain rfl : f23 = fd := Option.some.inj hf; exact ⟨mg_of X G a23, k23⟩
      | 24, hf => obtain rfl : f24 = fd := Option.some.inj hf; exact ⟨mg_of X G a24, k24⟩
      | 25, hf => obtain rfl : f25 = fd := Option.some.inj hf; exact ⟨mg_of X G a25, k25⟩
      | 26, hf => obtain rfl : f26 = fd := Option.some.inj hf; exact ⟨mg_of X G a26, k26⟩
      | 27, hf => obtain rfl : f27 = fd := Option.some.inj hf; exact ⟨mg_of X G a27, k27⟩
      | _ + 28, hf => cases hf
    · match f, hf with
      | 0, hf => obtain rfl : f0 = fd := Option.some.inj hf; rfl
      | 1, hf => obtain rfl : f1 = fd := Option.some.inj hf; rfl
      | 2, hf => obtain rfl : f2 = fd := Option.some.inj hf; rfl
      | 3, hf => obtain rfl : f3 = fd := Option.some.inj hf; rfl
      | 4, hf => obtain rfl : f4 = fd := Option.some.inj hf; rfl
      | 5, hf => obtain rfl : f5 = fd := Option.some.inj hf; rfl
      | 6, hf => obtain rfl : f6 = fd := Option.some.inj hf; rfl
      | 7, hf => obtain rfl : f7 = fd := Option.some.inj hf; rfl
      | 8, hf => obtain rfl : f8 = fd := Option.some.inj hf; rfl
      | 9, hf => obtain rfl : f9 = fd := Option.some.inj hf; rfl
      | 10, hf => obtain rfl : f10 = fd := Option.some.inj hf; rfl
      | 11, hf => obtain rfl : f11 = fd := Option.some.inj hf; rfl
      | 12, hf => obtain rfl : f12 = fd := Option.some.inj hf; rfl
      | 13, hf => obtain rfl : f13 = fd := Option.some.inj hf; rfl
      | 14, hf => obtain rfl : f14 = fd := Option.some.inj hf; rfl
      | 15, hf => obtain rfl : f15 = fd := Option.some.inj hf; rfl
      | 16, hf => obtain rfl : f16 = fd := Option.some.inj hf; rfl
      | 17, hf => obtain rfl : f17 = fd := Option.some.inj hf; rfl
      | 18, hf => obtain rfl : f18 = fd := Option.some.inj hf; rfl
      | 19, hf => obtain rfl : f19 = fd := Option.some.inj hf; rfl
      | 20, hf => obtain rfl : f20 = fd := Option.some.inj hf; rfl
      | 21, hf => obtain rfl : f21 = fd := Option.some.inj hf; rfl
      | 22, hf => obtain rfl : f22 = fd := Option.some.inj hf; rfl
      | 23, hf => obtain rfl : f23 = fd := Option.some.inj hf; rfl
      | 24, hf => obtain rfl : f24 = fd := Option.some.inj hf; rfl
      | 25, hf => obtain rfl : f25 = fd := Option.some.inj hf; rfl
      | 26, hf => obtain rfl : f26 = fd := Option.some.inj hf; rfl
      | 27, hf => obtain rfl : f27 = fd := Option.some.inj hf; rfl
      | _ + 28, hf => cases hf
    · match k, hk with
      | 0, hk => obtain ⟨rfl, rfl⟩ := Prod.mk.inj (Option.some.inj hk); exact ⟨⟨_, mg_of X G n0, ⟨_, rfl⟩⟩, fun _ _ _ => .int _⟩
      | 1, hk => obtain ⟨rfl, rfl⟩ := Prod.mk.inj (Option.some.inj hk); exact ⟨⟨_, mg_of X G n1, ⟨_, rfl⟩⟩, fun _ _ _ => .int _⟩
      | 2, hk => obtain ⟨rfl, rfl⟩ := Prod.mk.inj (Option.some.inj hk); exact ⟨⟨_, mg_of X G n2, ⟨_, rfl⟩⟩, fun _ _ _ => .int _⟩
      | 3, hk => obtain ⟨rfl, rfl⟩ := Prod.mk.inj (Option.some.inj hk); exact ⟨⟨_, mg_of X G n3, rfl⟩, fun _ _ _ => .tupK (wrT_mk (xs := [.int (1), .int (0)]) mk3 (by show _ ≤ sizeLine; exact (by decide : 2 ≤ sizeLine)) (.cons ⟨_, rfl⟩ (.cons ⟨_, rfl⟩ (.nil)))) (.cons (.int _) (.cons (.int _) (.nil)))⟩
      | _ + 4, hk => cases hk
    · rcases hx with rfl | rfl | rfl | rfl | rfl | rfl | rfl | rfl | rfl | rfl | rfl | rfl | rfl | rfl | rfl | rfl | rfl | rfl | rfl <;> first | exact mg_none_of X G b_abs | exact mg_none_of X G b_len | exact mg_none_of X G b_max | exact mg_none_of X G b_min | exact mg_none_of X G b_int | exact mg_none_of X G b_str | exact mg_none_of X G b_repr | exact mg_none_of X G b_tuple | exact mg_none_of X G b_all | exact mg_none_of X G b_any | exact mg_none_of X G b_sum | exact mg_none_of X G b_range | exact mg_none_of X G b_list | exact mg_none_of X G b_dict | exact mg_none_of X G b_enumerate | exact mg_none_of X G b_zip | exact mg_none_of X G b_isinstance | exact mg_none_of X G b_bool | exact mg_none_of X G b_sorted
    · exact mg_of X G gcd_
    · exact mg_of X G isqrt_
  have oex : OexC K C := ⟨⟨_, _, _, _, _, _, _, _, _, _, _, _, _, _, _, xC, rC⟩, saC, exC, tyC, kC⟩
  have xin : XInit l.prog K mg C fI "TooGreat" "TooGreat.__init__" "number" "number" (inClass (top 3) 0) (ksFn "__init__" "TooGreat.__init__" (defArgs (inClass (top 3) 0)) (defBody (inClass (top 3) 0)) (defScope (inClass (top 3) 0)) .none kVI dcI pmI anI (.ref cdI) ctI ccI) := {
    oex := oex, init := inC, ty := tyI, mgC := mg_of X G aC, fdEx := ⟨_, _, _, _, _, _, _, _, _, _, _, _, _, _, _, _, _, _, _, _, _, rfl, lI, cI, kcI, v2I, flI, ccl, clC⟩,
    sub := mrC, sup := supG, third := thr, along := alo, subV := sbV, fldC := nfC, top := topS, body := by refine ⟨_, _, _, _, _, _, _, _, _, _, ?_, rfl⟩; rfl,
    head := by rfl, sc := ⟨rfl, rfl, rfl, by decide +kernel, rfl, by decide +kernel, by decide +kernel, by decide +kernel, by decide +kernel⟩, ks := by rfl, okA := by decide +kernel,
    bd := Binds.all (fun us hl => match us, hl with | [_, _], _ => rfl), kp := kC }
  have mkx : ∀ (base : Heap) (n : Nat), MkX U n l.prog w K mg base := fun base n => mkx_of fun c nm hc => by
    match c, hc with
    | 0, hc => obtain rfl := Option.some.inj hc; exact ⟨fI, _, _, _, _, _, xin, rfl, by decide +kernel⟩
    | _ + 1, hc => cases hc
  have told : ToldX K mg C "number" "_law_great" gT "call" "TooGreat" "error" (defArgs (top 36)) (defBody (top 36)) (defScope (top 36)) .none kVT dcT pmT cdT ctT anT := {
    mgx := mg_of X G aT, kx := kT, lk := ⟨_, _, _, lT⟩, cd := cT, bd := Binds.all (fun us hl => match us, hl with | [_], _ => rfl),
    sc := ⟨rfl, rfl, rfl, by decide +kernel, rfl, by decide +kernel, by decide +kernel⟩, va := .inl rfl, ln := rfl, ge := rfl, mge := mg_of X G aC, oka := by decide +kernel, oke := by decide +kernel, okn := by decide +kernel, okx := by decide +kernel,
    xf := ⟨gaC, ggC, exC, hdC⟩, nofld := nfC, exm := exm_own exC iC tyC sC, body := ⟨_, _, _, _, _, _, _, _, _, _, _, _, _, _, _, _, _, rfl⟩ }
  refine ⟨PySem.W.fnOf "law" "law" (defArgs (top 39)) (defBody (top 39)) (defScope (top 39)) .none kV27 dc27 pm27 an27 (.ref cdL) ct27, [(cdL, PT)], prom K U (callN U.Pg 14) 27, ?_, ?_, ?_, fun s u => .of_eq rfl, ?_, ?_⟩
  · intro p hp; obtain rfl := List.mem_singleton.mp hp; exact hTab
  · intro p hp; obtain rfl := List.mem_singleton.mp hp; exact tk
  · intro p hp; obtain rfl := List.mem_singleton.mp hp; exact codeHd_of_K X hd
  · intro H a ns hl hb hT hS; exact law_prom (cs := []) rfl (fun p hp => by obtain rfl := List.mem_singleton.mp hp; exact hT _ (List.mem_singleton.mpr rfl)) hS (plain ns hl hb)
  · intro base kb gb tb
    refine ((defs_all (U := U) gls (mkx base) (fun f fd hf => ?_) 14).ok 27 f27 rfl).2
    match f, hf with
    | 0, hf => obtain rfl : f0 = fd := Option.some.inj hf; exact ⟨_, _, _, ⟨F0, s0, c0, rfl, B0⟩, fun n cdv A out s H E X _ _ _ z => by cases z⟩
    | 1, hf => obtain rfl : f1 = fd := Option.some.inj hf; exact ⟨_, _, _, ⟨F1, s1, c1, rfl, B1⟩, fun n cdv A out s H E X _ _ _ z => by cases z⟩
    | 2, hf => obtain rfl : f2 = fd := Option.some.inj hf; exact ⟨_, _, _, ⟨F2, s2, c2, rfl, B2⟩, fun n cdv A out s H E X _ _ _ z => by cases z⟩
    | 3, hf => obtain rfl : f3 = fd := Option.some.inj hf; exact ⟨_, _, _, ⟨F3, s3, c3, rfl, B3⟩, fun n cdv A out s H E X _ _ _ z => by cases z⟩
    | 4, hf => obtain rfl : f4 = fd := Option.some.inj hf; exact ⟨_, _, _, ⟨F4, s4, c4, rfl, B4⟩, fun n cdv A out s H E X _ _ _ z => by cases z⟩
    | 5, hf => obtain rfl : f5 = fd := Option.some.inj hf; exact ⟨_, _, _, ⟨F5, s5, c5, rfl, B5⟩, fun n cdv A out s H E X _ _ _ z => by cases z⟩
    | 6, hf => obtain rfl : f6 = fd := Option.some.inj hf; exact ⟨_, _, _, ⟨F6, s6, c6, rfl, B6⟩, fun n cdv A out s H E X _ _ _ z => by cases z⟩
    | 7, hf => obtain rfl : f7 = fd := Option.some.inj hf; exact ⟨_, _, _, ⟨F7, s7, c7, rfl, B7⟩, fun n cdv A out s H E X _ _ _ z => by cases z⟩
    | 8, hf => obtain rfl : f8 = fd := Option.some.inj hf; exact ⟨_, _, _, ⟨F8, s8, c8, rfl, B8⟩, fun n cdv A out s H E X _ _ _ z => by cases z⟩
    | 9, hf => obtain rfl : f9 = fd := Option.some.inj hf; exact ⟨_, _, _, ⟨F9, s9, c9, rfl, B9⟩, fun n cdv A out s H E X _ _ _ z => by cases z⟩
    | 10, hf => obtain rfl : f10 = fd := Option.some.inj hf; exact ⟨_, _, _, ⟨F10, s10, c10, rfl, B10⟩, fun n cdv A out s H E X _ _ _ z => by cases z⟩
    | 11, hf => obtain rfl : f11 = fd := Option.some.inj hf; exact ⟨_, _, _, ⟨F11, s11, c11, rfl, B11⟩, fun n cdv A out s H E X _ _ _ z => by cases z⟩
    | 12, hf => obtain rfl : f12 = fd := Option.some.inj hf; exact ⟨_, _, _, ⟨F12, s12, c12, rfl, B12⟩, fun n cdv A out s H E X _ _ _ z => by cases z⟩
    | 13, hf => obtain rfl : f13 = fd := Option.some.inj hf; exact ⟨_, _, _, ⟨F13, s13, c13, rfl, B13⟩, fun n cdv A out s H E X _ _ _ z => by cases z⟩
    | 14, hf => obtain rfl : f14 = fd := Option.some.inj hf; exact ⟨_, _, _, ⟨F14, s14, c14, rfl, B14⟩, fun n cdv A out s H E X _ _ _ z => by cases z⟩
    | 15, hf => obtain rfl : f15 = fd := Option.some.inj hf; exact ⟨_, _, _, ⟨F15, s15, c15, rfl, B15⟩, fun n cdv A out s H E X _ _ _ z => by cases z⟩
    | 16, hf => obtain rfl : f16 = fd := Option.some.inj hf; exact ⟨_, _, _, ⟨F16, s16, c16, rfl, B16⟩, fun n cdv A out s H E X _ _ _ z => by cases z⟩
    | 17, hf => obtain rfl : f17 = fd := Option.some.inj hf; exact ⟨_, _, _, ⟨F17, s17, c17, rfl, B17⟩, fun n cdv A out s H E X _ _ _ z => by cases z⟩
    | 18, hf => obtain rfl : f18 = fd := Option.some.inj hf; exact ⟨_, _, _, ⟨F18, s18, c18, rfl, B18⟩, fun n cdv A out s H E X _ _ _ z => by cases z⟩
    | 19, hf => obtain rfl : f19 = fd := Option.some.inj hf; exact ⟨_, _, _, ⟨F19, s19, c19, rfl, B19⟩, fun n cdv A out s H E X _ _ _ z => by cases z⟩
    | 20, hf => obtain rfl : f20 = fd := Option.some.inj hf; exact ⟨_, _, _, ⟨F20, s20, c20, rfl, B20⟩, fun n cdv A out s H E X _ _ _ z => by cases z⟩
    | 21, hf => obtain rfl : f21 = fd := Option.some.inj hf; exact ⟨_, _, _, ⟨F21, s21, c21, rfl, B21⟩, fun n cdv A out s H E X _ _ _ z => by cases z⟩
    | 22, hf => obtain rfl : f22 = fd := Option.some.inj hf; exact ⟨_, _, _, ⟨F22, s22, c22, rfl, B22⟩, fun n cdv A out s H E X _ _ _ z => by cases z⟩
    | 23, hf => obtain rfl : f23 = fd := Option.some.inj hf; exact ⟨_, _, _, ⟨F23, s23, c23, rfl, B23⟩, fun n cdv A out s H E X _ _ _ z => by cases z⟩
    | 24, hf => obtain rfl : f24 = fd := Option.some.inj hf; exact ⟨_, _, _, ⟨F24, s24, c24, rfl, B24⟩, fun n cdv A out s H E X _ _ _ z => by cases z⟩
    | 25, hf => obtain rfl : f25 = fd := Option.some.inj hf; exact ⟨_, _, _, ⟨F25, s25, c25, rfl, B25⟩, fun n cdv A out s H E X _ _ _ z => by cases z⟩
    | 26, hf => obtain rfl : f26 = fd := Option.some.inj hf; exact ⟨_, _, _, ⟨F26, s26, c26, rfl, B26⟩, fun n cdv A out s H E X _ _ _ z => by cases z⟩
    | 27, hf =>
      obtain rfl : f27 = fd := Option.some.inj hf
      refine ⟨_, _, _, ⟨F27, s27, c27, rfl, B27⟩, fun n cdv A out s H E X hX hc hr _ => ?_⟩
      subst hX
      refine ⟨⟨hr, cdL, PT, tb _ (List.mem_singleton.mpr rfl), ?_, List.mem_singleton.mpr rfl, fun p hp _ => by obtain rfl := List.mem_singleton.mp hp; rfl⟩, fun f nm hf => ?_⟩
      · exact hc.symm
      · match f, hf with
        | 0, hf => obtain rfl := Option.some.inj hf; exact ⟨_, _, _, _, _, _, _, _, _, _, _, _, _, _, _, told, rfl⟩
        | _ + 1, hf => cases hf
    | _ + 28, hf => cases hf
end K08

set_option Elab.async false
set_option linter.all false
set_option maxRecDepth 100000
namespace MP
open PySem L2
section
variable {P : Nat → Option FDef} {ι : Ix} {l : List Nat}
theorem h0 (h : Hs P ι l) (m : l.contains 0 = true) : ∃ x, P (ι.f 0) = some { PG.___wall ι with nm := x } := h 0 (by simpa using m)
theorem h1 (h : Hs P ι l) (m : l.contains 1 = true) : ∃ x, P (ι.f 1) = some { PG.answertexts_answer_text ι with nm := x } := h 1 (by simpa using m)
theorem h2 (h : Hs P ι l) (m : l.contains 2 = true) : ∃ x, P (ι.f 2) = some { PG.answertexts_blanks ι with nm := x } := h 2 (by simpa using m)
theorem h3 (h : Hs P ι l) (m : l.contains 3 = true) : ∃ x, P (ι.f 3) = some { PG.answertexts_commas ι with nm := x } := h 3 (by simpa using m)
theorem h4 (h : Hs P ι l) (m : l.contains 4 = true) : ∃ x, P (ι.f 4) = some { PG.answertexts_heard_text ι with nm := x } := h 4 (by simpa using m)
theorem h5 (h : Hs P ι l) (m : l.contains 5 = true) : ∃ x, P (ι.f 5) = some { PG.answertexts_limit_text ι with nm := x } := h 5 (by simpa using m)
theorem h6 (h : Hs P ι l) (m : l.contains 6 = true) : ∃ x, P (ι.f 6) = some { PG.answertexts_lot_text ι with nm := x } := h 6 (by simpa using m)
theorem h7 (h : Hs P ι l) (m : l.contains 7 = true) : ∃ x, P (ι.f 7) = some { PG.answertexts_one_text ι with nm := x } := h 7 (by simpa using m)
theorem h8 (h : Hs P ι l) (m : l.contains 8 = true) : ∃ x, P (ι.f 8) = some { PG.answertexts_semicolons ι with nm := x } := h 8 (by simpa using m)
theorem h9 (h : Hs P ι l) (m : l.contains 9 = true) : ∃ x, P (ι.f 9) = some { PG.answertexts_some_text ι with nm := x } := h 9 (by simpa using m)
theorem h10 (h : Hs P ι l) (m : l.contains 10 = true) : ∃ x, P (ι.f 10) = some { PG.answertexts_told_text ι with nm := x } := h 10 (by simpa using m)
theorem h12 (h : Hs P ι l) (m : l.contains 12 = true) : ∃ x, P (ι.f 12) = some { PG.askuses_is_told_least ι with nm := x } := h 12 (by simpa using m)
theorem h13 (h : Hs P ι l) (m : l.contains 13 = true) : ∃ x, P (ι.f 13) = some { PG.askuses_lacking ι with nm := x } := h 13 (by simpa using m)
theorem h17 (h : Hs P ι l) (m : l.contains 17 = true) : ∃ x, P (ι.f 17) = some { PG.askuses_wrong_item ι with nm := x } := h 17 (by simpa using m)
theorem h18 (h : Hs P ι l) (m : l.contains 18 = true) : ∃ x, P (ι.f 18) = some { PG.askuses_wrong_lot ι with nm := x } := h 18 (by simpa using m)
theorem h21 (h : Hs P ι l) (m : l.contains 21 = true) : ∃ x, P (ι.f 21) = some { PG.askuses_wrong_value ι with nm := x } := h 21 (by simpa using m)
theorem h22 (h : Hs P ι l) (m : l.contains 22 = true) : ∃ x, P (ι.f 22) = some { PG.circlenumbers_fraction_told ι with nm := x } := h 22 (by simpa using m)
theorem h23 (h : Hs P ι l) (m : l.contains 23 = true) : ∃ x, P (ι.f 23) = some { PG.circlenumbers_is_long ι with nm := x } := h 23 (by simpa using m)
theorem h24 (h : Hs P ι l) (m : l.contains 24 = true) : ∃ x, P (ι.f 24) = some { PG.circlenumbers_is_root ι with nm := x } := h 24 (by simpa using m)
theorem h25 (h : Hs P ι l) (m : l.contains 25 = true) : ∃ x, P (ι.f 25) = some { PG.circlenumbers_is_squared ι with nm := x } := h 25 (by simpa using m)
theorem h26 (h : Hs P ι l) (m : l.contains 26 = true) : ∃ x, P (ι.f 26) = some { PG.circlenumbers_is_told_number ι with nm := x } := h 26 (by simpa using m)
theorem h27 (h : Hs P ι l) (m : l.contains 27 = true) : ∃ x, P (ι.f 27) = some { PG.circlenumbers_line_order ι with nm := x } := h 27 (by simpa using m)
theorem h28 (h : Hs P ι l) (m : l.contains 28 = true) : ∃ x, P (ι.f 28) = some { PG.circlenumbers_not_long ι with nm := x } := h 28 (by simpa using m)
theorem h29 (h : Hs P ι l) (m : l.contains 29 = true) : ∃ x, P (ι.f 29) = some { PG.circlenumbers_number_floor ι with nm := x } := h 29 (by simpa using m)
theorem h30 (h : Hs P ι l) (m : l.contains 30 = true) : ∃ x, P (ι.f 30) = some { PG.circlenumbers_root_order ι with nm := x } := h 30 (by simpa using m)
theorem h31 (h : Hs P ι l) (m : l.contains 31 = true) : ∃ x, P (ι.f 31) = some { PG.circlenumbers_root_told ι with nm := x } := h 31 (by simpa using m)
theorem h32 (h : Hs P ι l) (m : l.contains 32 = true) : ∃ x, P (ι.f 32) = some { PG.circlenumbers_rooted_sign ι with nm := x } := h 32 (by simpa using m)
theorem h33 (h : Hs P ι l) (m : l.contains 33 = true) : ∃ x, P (ι.f 33) = some { PG.circlenumbers_roots_order ι with nm := x } := h 33 (by simpa using m)
theorem h34 (h : Hs P ι l) (m : l.contains 34 = true) : ∃ x, P (ι.f 34) = some { PG.circlenumbers_sign_of ι with nm := x } := h 34 (by simpa using m)
theorem h35 (h : Hs P ι l) (m : l.contains 35 = true) : ∃ x, P (ι.f 35) = some { PG.circlenumbers_square_of ι with nm := x } := h 35 (by simpa using m)
theorem h36 (h : Hs P ι l) (m : l.contains 36 = true) : ∃ x, P (ι.f 36) = some { PG.circlenumbers_times_root ι with nm := x } := h 36 (by simpa using m)
theorem h37 (h : Hs P ι l) (m : l.contains 37 = true) : ∃ x, P (ι.f 37) = some { PG.consoles_lexemes_alone ι with nm := x } := h 37 (by simpa using m)
theorem h38 (h : Hs P ι l) (m : l.contains 38 = true) : ∃ x, P (ι.f 38) = some { PG.cosets_keepers_told ι with nm := x } := h 38 (by simpa using m)
theorem h39 (h : Hs P ι l) (m : l.contains 39 = true) : ∃ x, P (ι.f 39) = some { PG.cosets_size_tables ι with nm := x } := h 39 (by simpa using m)
theorem h40 (h : Hs P ι l) (m : l.contains 40 = true) : ∃ x, P (ι.f 40) = some { PG.countrules_does_obey ι with nm := x } := h 40 (by simpa using m)
theorem h41 (h : Hs P ι l) (m : l.contains 41 = true) : ∃ x, P (ι.f 41) = some { PG.countrules_eliminated ι with nm := x } := h 41 (by simpa using m)
theorem h43 (h : Hs P ι l) (m : l.contains 43 = true) : ∃ x, P (ι.f 43) = some { PG.countrules_row_small ι with nm := x } := h 43 (by simpa using m)
theorem h44 (h : Hs P ι l) (m : l.contains 44 = true) : ∃ x, P (ι.f 44) = some { PG.countrules_rule_told ι with nm := x } := h 44 (by simpa using m)
theorem h46 (h : Hs P ι l) (m : l.contains 46 = true) : ∃ x, P (ι.f 46) = some { PG.counts_count_told ι with nm := x } := h 46 (by simpa using m)
theorem h47 (h : Hs P ι l) (m : l.contains 47 = true) : ∃ x, P (ι.f 47) = some { PG.counts_counts_row ι with nm := x } := h 47 (by simpa using m)
theorem h48 (h : Hs P ι l) (m : l.contains 48 = true) : ∃ x, P (ι.f 48) = some { PG.edges_classes_alike ι with nm := x } := h 48 (by simpa using m)
theorem h49 (h : Hs P ι l) (m : l.contains 49 = true) : ∃ x, P (ι.f 49) = some { PG.edges_edge_runs ι with nm := x } := h 49 (by simpa using m)
theorem h50 (h : Hs P ι l) (m : l.contains 50 = true) : ∃ x, P (ι.f 50) = some { PG.edges_map_behind ι with nm := x } := h 50 (by simpa using m)
theorem h51 (h : Hs P ι l) (m : l.contains 51 = true) : ∃ x, P (ι.f 51) = some { PG.edges_upward_runs ι with nm := x } := h 51 (by simpa using m)
theorem h53 (h : Hs P ι l) (m : l.contains 53 = true) : ∃ x, P (ι.f 53) = some { PG.ends_end_heaped ι with nm := x } := h 53 (by simpa using m)
theorem h55 (h : Hs P ι l) (m : l.contains 55 = true) : ∃ x, P (ι.f 55) = some { PG.ends_gap_told ι with nm := x } := h 55 (by simpa using m)
theorem h57 (h : Hs P ι l) (m : l.contains 57 = true) : ∃ x, P (ι.f 57) = some { PG.ends_halves ι with nm := x } := h 57 (by simpa using m)
theorem h58 (h : Hs P ι l) (m : l.contains 58 = true) : ∃ x, P (ι.f 58) = some { PG.ends_last_told ι with nm := x } := h 58 (by simpa using m)
theorem h59 (h : Hs P ι l) (m : l.contains 59 = true) : ∃ x, P (ι.f 59) = some { PG.ends_least_told ι with nm := x } := h 59 (by simpa using m)
theorem h60 (h : Hs P ι l) (m : l.contains 60 = true) : ∃ x, P (ι.f 60) = some { PG.ends_middle_taken ι with nm := x } := h 60 (by simpa using m)
theorem h61 (h : Hs P ι l) (m : l.contains 61 = true) : ∃ x, P (ι.f 61) = some { PG.ends_most_told ι with nm := x } := h 61 (by simpa using m)
theorem h62 (h : Hs P ι l) (m : l.contains 62 = true) : ∃ x, P (ι.f 62) = some { PG.ends_next_told ι with nm := x } := h 62 (by simpa using m)
theorem h64 (h : Hs P ι l) (m : l.contains 64 = true) : ∃ x, P (ι.f 64) = some { PG.ends_round_heaped ι with nm := x } := h 64 (by simpa using m)
theorem h66 (h : Hs P ι l) (m : l.contains 66 = true) : ∃ x, P (ι.f 66) = some { PG.firsts_are_alike ι with nm := x } := h 66 (by simpa using m)
theorem h70 (h : Hs P ι l) (m : l.contains 70 = true) : ∃ x, P (ι.f 70) = some { PG.firsts_middle_of ι with nm := x } := h 70 (by simpa using m)
theorem h73 (h : Hs P ι l) (m : l.contains 73 = true) : ∃ x, P (ι.f 73) = some { PG.groups_group_told ι with nm := x } := h 73 (by simpa using m)
theorem h75 (h : Hs P ι l) (m : l.contains 75 = true) : ∃ x, P (ι.f 75) = some { PG.grownnames_plain_session ι with nm := x } := h 75 (by simpa using m)
theorem h76 (h : Hs P ι l) (m : l.contains 76 = true) : ∃ x, P (ι.f 76) = some { PG.heaps_are_live ι with nm := x } := h 76 (by simpa using m)
theorem h77 (h : Hs P ι l) (m : l.contains 77 = true) : ∃ x, P (ι.f 77) = some { PG.heaps_heaps_told ι with nm := x } := h 77 (by simpa using m)
theorem h78 (h : Hs P ι l) (m : l.contains 78 = true) : ∃ x, P (ι.f 78) = some { PG.heaps_passed_by ι with nm := x } := h 78 (by simpa using m)
theorem h80 (h : Hs P ι l) (m : l.contains 80 = true) : ∃ x, P (ι.f 80) = some { PG.heaps_run_views ι with nm := x } := h 80 (by simpa using m)
theorem h81 (h : Hs P ι l) (m : l.contains 81 = true) : ∃ x, P (ι.f 81) = some { PG.heaps_top_sides ι with nm := x } := h 81 (by simpa using m)
theorem h82 (h : Hs P ι l) (m : l.contains 82 = true) : ∃ x, P (ι.f 82) = some { PG.heaps_view_sides ι with nm := x } := h 82 (by simpa using m)
theorem h83 (h : Hs P ι l) (m : l.contains 83 = true) : ∃ x, P (ι.f 83) = some { PG.heaps_zero_sides ι with nm := x } := h 83 (by simpa using m)
theorem h86 (h : Hs P ι l) (m : l.contains 86 = true) : ∃ x, P (ι.f 86) = some { PG.kins_common_last ι with nm := x } := h 86 (by simpa using m)
theorem h87 (h : Hs P ι l) (m : l.contains 87 = true) : ∃ x, P (ι.f 87) = some { PG.kins_edge_at ι with nm := x } := h 87 (by simpa using m)
theorem h88 (h : Hs P ι l) (m : l.contains 88 = true) : ∃ x, P (ι.f 88) = some { PG.kins_edges_map ι with nm := x } := h 88 (by simpa using m)
theorem h90 (h : Hs P ι l) (m : l.contains 90 = true) : ∃ x, P (ι.f 90) = some { PG.kins_runs_first ι with nm := x } := h 90 (by simpa using m)
theorem h91 (h : Hs P ι l) (m : l.contains 91 = true) : ∃ x, P (ι.f 91) = some { PG.kins_runs_left ι with nm := x } := h 91 (by simpa using m)
theorem h92 (h : Hs P ι l) (m : l.contains 92 = true) : ∃ x, P (ι.f 92) = some { PG.kins_steps_many ι with nm := x } := h 92 (by simpa using m)
theorem h94 (h : Hs P ι l) (m : l.contains 94 = true) : ∃ x, P (ι.f 94) = some { PG.kins_turned_by ι with nm := x } := h 94 (by simpa using m)
theorem h95 (h : Hs P ι l) (m : l.contains 95 = true) : ∃ x, P (ι.f 95) = some { PG.ledlots_behind_left ι with nm := x } := h 95 (by simpa using m)
theorem h96 (h : Hs P ι l) (m : l.contains 96 = true) : ∃ x, P (ι.f 96) = some { PG.ledlots_behind_right ι with nm := x } := h 96 (by simpa using m)
theorem h97 (h : Hs P ι l) (m : l.contains 97 = true) : ∃ x, P (ι.f 97) = some { PG.ledlots_first_above ι with nm := x } := h 97 (by simpa using m)
theorem h98 (h : Hs P ι l) (m : l.contains 98 = true) : ∃ x, P (ι.f 98) = some { PG.ledlots_is_settled ι with nm := x } := h 98 (by simpa using m)
theorem h99 (h : Hs P ι l) (m : l.contains 99 = true) : ∃ x, P (ι.f 99) = some { PG.ledlots_led_on ι with nm := x } := h 99 (by simpa using m)
theorem h101 (h : Hs P ι l) (m : l.contains 101 = true) : ∃ x, P (ι.f 101) = some { PG.ledlots_middle_in ι with nm := x } := h 101 (by simpa using m)
theorem h102 (h : Hs P ι l) (m : l.contains 102 = true) : ∃ x, P (ι.f 102) = some { PG.ledlots_state_of ι with nm := x } := h 102 (by simpa using m)
theorem h103 (h : Hs P ι l) (m : l.contains 103 = true) : ∃ x, P (ι.f 103) = some { PG.ledlots_state_view ι with nm := x } := h 103 (by simpa using m)
theorem h104 (h : Hs P ι l) (m : l.contains 104 = true) : ∃ x, P (ι.f 104) = some { PG.ledlots_turn_of ι with nm := x } := h 104 (by simpa using m)
theorem h105 (h : Hs P ι l) (m : l.contains 105 = true) : ∃ x, P (ι.f 105) = some { PG.lexemes_are_steps ι with nm := x } := h 105 (by simpa using m)
theorem h106 (h : Hs P ι l) (m : l.contains 106 = true) : ∃ x, P (ι.f 106) = some { PG.lexemes_is_count ι with nm := x } := h 106 (by simpa using m)
theorem h107 (h : Hs P ι l) (m : l.contains 107 = true) : ∃ x, P (ι.f 107) = some { PG.lexemes_is_name ι with nm := x } := h 107 (by simpa using m)
theorem h108 (h : Hs P ι l) (m : l.contains 108 = true) : ∃ x, P (ι.f 108) = some { PG.lexemes_is_number ι with nm := x } := h 108 (by simpa using m)
theorem h109 (h : Hs P ι l) (m : l.contains 109 = true) : ∃ x, P (ι.f 109) = some { PG.lexemes_is_step ι with nm := x } := h 109 (by simpa using m)
theorem h110 (h : Hs P ι l) (m : l.contains 110 = true) : ∃ x, P (ι.f 110) = some { PG.lexemes_is_whole ι with nm := x } := h 110 (by simpa using m)
theorem h111 (h : Hs P ι l) (m : l.contains 111 = true) : ∃ x, P (ι.f 111) = some { PG.lexemes_lexeme_from ι with nm := x } := h 111 (by simpa using m)
theorem h112 (h : Hs P ι l) (m : l.contains 112 = true) : ∃ x, P (ι.f 112) = some { PG.lexemes_lexemes ι with nm := x } := h 112 (by simpa using m)
theorem h113 (h : Hs P ι l) (m : l.contains 113 = true) : ∃ x, P (ι.f 113) = some { PG.lexemes_number_of ι with nm := x } := h 113 (by simpa using m)
theorem h114 (h : Hs P ι l) (m : l.contains 114 = true) : ∃ x, P (ι.f 114) = some { PG.lexemes_run_behind ι with nm := x } := h 114 (by simpa using m)
theorem h115 (h : Hs P ι l) (m : l.contains 115 = true) : ∃ x, P (ι.f 115) = some { PG.lots_has_fraction ι with nm := x } := h 115 (by simpa using m)
theorem h116 (h : Hs P ι l) (m : l.contains 116 = true) : ∃ x, P (ι.f 116) = some { PG.lots_live_views ι with nm := x } := h 116 (by simpa using m)
theorem h118 (h : Hs P ι l) (m : l.contains 118 = true) : ∃ x, P (ι.f 118) = some { PG.lots_lot_size ι with nm := x } := h 118 (by simpa using m)
theorem h120 (h : Hs P ι l) (m : l.contains 120 = true) : ∃ x, P (ι.f 120) = some { PG.lots_view_has ι with nm := x } := h 120 (by simpa using m)
theorem h121 (h : Hs P ι l) (m : l.contains 121 = true) : ∃ x, P (ι.f 121) = some { PG.lottexts_are_modes ι with nm := x } := h 121 (by simpa using m)
theorem h122 (h : Hs P ι l) (m : l.contains 122 = true) : ∃ x, P (ι.f 122) = some { PG.lottexts_is_head ι with nm := x } := h 122 (by simpa using m)
theorem h123 (h : Hs P ι l) (m : l.contains 123 = true) : ∃ x, P (ι.f 123) = some { PG.lottexts_is_joined ι with nm := x } := h 123 (by simpa using m)
theorem h124 (h : Hs P ι l) (m : l.contains 124 = true) : ∃ x, P (ι.f 124) = some { PG.lottexts_is_mode ι with nm := x } := h 124 (by simpa using m)
theorem h125 (h : Hs P ι l) (m : l.contains 125 = true) : ∃ x, P (ι.f 125) = some { PG.lottexts_is_promised ι with nm := x } := h 125 (by simpa using m)
theorem h127 (h : Hs P ι l) (m : l.contains 127 = true) : ∃ x, P (ι.f 127) = some { PG.lottexts_program_text ι with nm := x } := h 127 (by simpa using m)
theorem h128 (h : Hs P ι l) (m : l.contains 128 = true) : ∃ x, P (ι.f 128) = some { PG.lottexts_promised_text ι with nm := x } := h 128 (by simpa using m)
theorem h135 (h : Hs P ι l) (m : l.contains 135 = true) : ∃ x, P (ι.f 135) = some { PG.lottexts_yes_text ι with nm := x } := h 135 (by simpa using m)
theorem h136 (h : Hs P ι l) (m : l.contains 136 = true) : ∃ x, P (ι.f 136) = some { PG.maps_common_part ι with nm := x } := h 136 (by simpa using m)
theorem h137 (h : Hs P ι l) (m : l.contains 137 = true) : ∃ x, P (ι.f 137) = some { PG.maps_is_told_map ι with nm := x } := h 137 (by simpa using m)
theorem h138 (h : Hs P ι l) (m : l.contains 138 = true) : ∃ x, P (ι.f 138) = some { PG.maps_map_fixed ι with nm := x } := h 138 (by simpa using m)
theorem h139 (h : Hs P ι l) (m : l.contains 139 = true) : ∃ x, P (ι.f 139) = some { PG.maps_map_led ι with nm := x } := h 139 (by simpa using m)
theorem h140 (h : Hs P ι l) (m : l.contains 140 = true) : ∃ x, P (ι.f 140) = some { PG.maps_map_size ι with nm := x } := h 140 (by simpa using m)
theorem h141 (h : Hs P ι l) (m : l.contains 141 = true) : ∃ x, P (ι.f 141) = some { PG.maps_map_then ι with nm := x } := h 141 (by simpa using m)
theorem h142 (h : Hs P ι l) (m : l.contains 142 = true) : ∃ x, P (ι.f 142) = some { PG.maps_map_told ι with nm := x } := h 142 (by simpa using m)
theorem h143 (h : Hs P ι l) (m : l.contains 143 = true) : ∃ x, P (ι.f 143) = some { PG.maps_map_undone ι with nm := x } := h 143 (by simpa using m)
theorem h144 (h : Hs P ι l) (m : l.contains 144 = true) : ∃ x, P (ι.f 144) = some { PG.maps_root_led ι with nm := x } := h 144 (by simpa using m)
theorem h146 (h : Hs P ι l) (m : l.contains 146 = true) : ∃ x, P (ι.f 146) = some { PG.namedthings_lot_named ι with nm := x } := h 146 (by simpa using m)
theorem h147 (h : Hs P ι l) (m : l.contains 147 = true) : ∃ x, P (ι.f 147) = some { PG.namedthings_made_named ι with nm := x } := h 147 (by simpa using m)
theorem h148 (h : Hs P ι l) (m : l.contains 148 = true) : ∃ x, P (ι.f 148) = some { PG.namedthings_map_named ι with nm := x } := h 148 (by simpa using m)
theorem h149 (h : Hs P ι l) (m : l.contains 149 = true) : ∃ x, P (ι.f 149) = some { PG.namedthings_number_named ι with nm := x } := h 149 (by simpa using m)
theorem h150 (h : Hs P ι l) (m : l.contains 150 = true) : ∃ x, P (ι.f 150) = some { PG.namedthings_piece_made ι with nm := x } := h 150 (by simpa using m)
theorem h152 (h : Hs P ι l) (m : l.contains 152 = true) : ∃ x, P (ι.f 152) = some { PG.namedthings_stand_named ι with nm := x } := h 152 (by simpa using m)
theorem h155 (h : Hs P ι l) (m : l.contains 155 = true) : ∃ x, P (ι.f 155) = some { PG.nearlots_near_views ι with nm := x } := h 155 (by simpa using m)
theorem h156 (h : Hs P ι l) (m : l.contains 156 = true) : ∃ x, P (ι.f 156) = some { PG.numbertexts_is_told_number ι with nm := x } := h 156 (by simpa using m)
theorem h157 (h : Hs P ι l) (m : l.contains 157 = true) : ∃ x, P (ι.f 157) = some { PG.numbertexts_is_told_table ι with nm := x } := h 157 (by simpa using m)
theorem h158 (h : Hs P ι l) (m : l.contains 158 = true) : ∃ x, P (ι.f 158) = some { PG.numbertexts_number_text ι with nm := x } := h 158 (by simpa using m)
theorem h161 (h : Hs P ι l) (m : l.contains 161 = true) : ∃ x, P (ι.f 161) = some { PG.numbertexts_table_text ι with nm := x } := h 161 (by simpa using m)
theorem h162 (h : Hs P ι l) (m : l.contains 162 = true) : ∃ x, P (ι.f 162) = some { PG.pipes_lot_not ι with nm := x } := h 162 (by simpa using m)
theorem h164 (h : Hs P ι l) (m : l.contains 164 = true) : ∃ x, P (ι.f 164) = some { PG.pipes_lots_both ι with nm := x } := h 164 (by simpa using m)
theorem h166 (h : Hs P ι l) (m : l.contains 166 = true) : ∃ x, P (ι.f 166) = some { PG.ranks_going_on ι with nm := x } := h 166 (by simpa using m)
theorem h167 (h : Hs P ι l) (m : l.contains 167 = true) : ∃ x, P (ι.f 167) = some { PG.ranks_parting ι with nm := x } := h 167 (by simpa using m)
theorem h168 (h : Hs P ι l) (m : l.contains 168 = true) : ∃ x, P (ι.f 168) = some { PG.ranks_rank_told ι with nm := x } := h 168 (by simpa using m)
theorem h169 (h : Hs P ι l) (m : l.contains 169 = true) : ∃ x, P (ι.f 169) = some { PG.reportjudges_are_short ι with nm := x } := h 169 (by simpa using m)
theorem h171 (h : Hs P ι l) (m : l.contains 171 = true) : ∃ x, P (ι.f 171) = some { PG.reportjudges_due_fault ι with nm := x } := h 171 (by simpa using m)
theorem h172 (h : Hs P ι l) (m : l.contains 172 = true) : ∃ x, P (ι.f 172) = some { PG.reportjudges_entry_fault ι with nm := x } := h 172 (by simpa using m)
theorem h173 (h : Hs P ι l) (m : l.contains 173 = true) : ∃ x, P (ι.f 173) = some { PG.reportjudges_is_entry ι with nm := x } := h 173 (by simpa using m)
theorem h174 (h : Hs P ι l) (m : l.contains 174 = true) : ∃ x, P (ι.f 174) = some { PG.reportjudges_is_great ι with nm := x } := h 174 (by simpa using m)
theorem h175 (h : Hs P ι l) (m : l.contains 175 = true) : ∃ x, P (ι.f 175) = some { PG.reportjudges_judge_report ι with nm := x } := h 175 (by simpa using m)
theorem h177 (h : Hs P ι l) (m : l.contains 177 = true) : ∃ x, P (ι.f 177) = some { PG.reportjudges_parting_fault ι with nm := x } := h 177 (by simpa using m)
theorem h180 (h : Hs P ι l) (m : l.contains 180 = true) : ∃ x, P (ι.f 180) = some { PG.seens_lot_seen ι with nm := x } := h 180 (by simpa using m)
theorem h181 (h : Hs P ι l) (m : l.contains 181 = true) : ∃ x, P (ι.f 181) = some { PG.sessionanswers_entered_items ι with nm := x } := h 181 (by simpa using m)
theorem h182 (h : Hs P ι l) (m : l.contains 182 = true) : ∃ x, P (ι.f 182) = some { PG.sessionanswers_heard_answer ι with nm := x } := h 182 (by simpa using m)
theorem h183 (h : Hs P ι l) (m : l.contains 183 = true) : ∃ x, P (ι.f 183) = some { PG.sessionanswers_kept_answer ι with nm := x } := h 183 (by simpa using m)
theorem h185 (h : Hs P ι l) (m : l.contains 185 = true) : ∃ x, P (ι.f 185) = some { PG.sessionanswers_map_answer ι with nm := x } := h 185 (by simpa using m)
theorem h187 (h : Hs P ι l) (m : l.contains 187 = true) : ∃ x, P (ι.f 187) = some { PG.sessionanswers_same_answer ι with nm := x } := h 187 (by simpa using m)
theorem h189 (h : Hs P ι l) (m : l.contains 189 = true) : ∃ x, P (ι.f 189) = some { PG.sessionanswers_told_entry ι with nm := x } := h 189 (by simpa using m)
theorem h190 (h : Hs P ι l) (m : l.contains 190 = true) : ∃ x, P (ι.f 190) = some { PG.sessiontexts_is_item ι with nm := x } := h 190 (by simpa using m)
theorem h192 (h : Hs P ι l) (m : l.contains 192 = true) : ∃ x, P (ι.f 192) = some { PG.sessiontexts_is_session ι with nm := x } := h 192 (by simpa using m)
theorem h193 (h : Hs P ι l) (m : l.contains 193 = true) : ∃ x, P (ι.f 193) = some { PG.sessiontexts_item_text ι with nm := x } := h 193 (by simpa using m)
theorem h200 (h : Hs P ι l) (m : l.contains 200 = true) : ∃ x, P (ι.f 200) = some { PG.sessiontexts_session_text ι with nm := x } := h 200 (by simpa using m)
theorem h201 (h : Hs P ι l) (m : l.contains 201 = true) : ∃ x, P (ι.f 201) = some { PG.sessionuses_kind_of ι with nm := x } := h 201 (by simpa using m)
theorem h202 (h : Hs P ι l) (m : l.contains 202 = true) : ∃ x, P (ι.f 202) = some { PG.sessionuses_made_kinds ι with nm := x } := h 202 (by simpa using m)
theorem h203 (h : Hs P ι l) (m : l.contains 203 = true) : ∃ x, P (ι.f 203) = some { PG.sessionuses_parts_of ι with nm := x } := h 203 (by simpa using m)
theorem h204 (h : Hs P ι l) (m : l.contains 204 = true) : ∃ x, P (ι.f 204) = some { PG.sessionuses_pieces ι with nm := x } := h 204 (by simpa using m)
theorem h206 (h : Hs P ι l) (m : l.contains 206 = true) : ∃ x, P (ι.f 206) = some { PG.sessionuses_things_ahead ι with nm := x } := h 206 (by simpa using m)
theorem h207 (h : Hs P ι l) (m : l.contains 207 = true) : ∃ x, P (ι.f 207) = some { PG.sessionuses_told_items ι with nm := x } := h 207 (by simpa using m)
theorem h208 (h : Hs P ι l) (m : l.contains 208 = true) : ∃ x, P (ι.f 208) = some { PG.sessionuses_told_numbers ι with nm := x } := h 208 (by simpa using m)
theorem h209 (h : Hs P ι l) (m : l.contains 209 = true) : ∃ x, P (ι.f 209) = some { PG.sessionuses_told_promises ι with nm := x } := h 209 (by simpa using m)
theorem h210 (h : Hs P ι l) (m : l.contains 210 = true) : ∃ x, P (ι.f 210) = some { PG.sides_letters_of ι with nm := x } := h 210 (by simpa using m)
theorem h211 (h : Hs P ι l) (m : l.contains 211 = true) : ∃ x, P (ι.f 211) = some { PG.sides_lot_above ι with nm := x } := h 211 (by simpa using m)
theorem h212 (h : Hs P ι l) (m : l.contains 212 = true) : ∃ x, P (ι.f 212) = some { PG.sides_lot_below ι with nm := x } := h 212 (by simpa using m)
theorem h215 (h : Hs P ι l) (m : l.contains 215 = true) : ∃ x, P (ι.f 215) = some { PG.simplests_less_by ι with nm := x } := h 215 (by simpa using m)
theorem h216 (h : Hs P ι l) (m : l.contains 216 = true) : ∃ x, P (ι.f 216) = some { PG.simplests_one_by ι with nm := x } := h 216 (by simpa using m)
theorem h217 (h : Hs P ι l) (m : l.contains 217 = true) : ∃ x, P (ι.f 217) = some { PG.simplests_simplest_above ι with nm := x } := h 217 (by simpa using m)
theorem h218 (h : Hs P ι l) (m : l.contains 218 = true) : ∃ x, P (ι.f 218) = some { PG.simplests_simplest_between ι with nm := x } := h 218 (by simpa using m)
theorem h219 (h : Hs P ι l) (m : l.contains 219 = true) : ∃ x, P (ι.f 219) = some { PG.stands_edge_table ι with nm := x } := h 219 (by simpa using m)
theorem h220 (h : Hs P ι l) (m : l.contains 220 = true) : ∃ x, P (ι.f 220) = some { PG.stands_edge_told ι with nm := x } := h 220 (by simpa using m)
theorem h221 (h : Hs P ι l) (m : l.contains 221 = true) : ∃ x, P (ι.f 221) = some { PG.stands_heard_told ι with nm := x } := h 221 (by simpa using m)
theorem h222 (h : Hs P ι l) (m : l.contains 222 = true) : ∃ x, P (ι.f 222) = some { PG.tellback_back_item ι with nm := x } := h 222 (by simpa using m)
theorem h223 (h : Hs P ι l) (m : l.contains 223 = true) : ∃ x, P (ι.f 223) = some { PG.tellback_view_name ι with nm := x } := h 223 (by simpa using m)
theorem h224 (h : Hs P ι l) (m : l.contains 224 = true) : ∃ x, P (ι.f 224) = some { PG.views_classes_of ι with nm := x } := h 224 (by simpa using m)
theorem h227 (h : Hs P ι l) (m : l.contains 227 = true) : ∃ x, P (ι.f 227) = some { PG.views_view_along ι with nm := x } := h 227 (by simpa using m)
theorem h228 (h : Hs P ι l) (m : l.contains 228 = true) : ∃ x, P (ι.f 228) = some { PG.views_view_behind ι with nm := x } := h 228 (by simpa using m)
theorem h229 (h : Hs P ι l) (m : l.contains 229 = true) : ∃ x, P (ι.f 229) = some { PG.ways_edge_behind ι with nm := x } := h 229 (by simpa using m)
theorem h230 (h : Hs P ι l) (m : l.contains 230 = true) : ∃ x, P (ι.f 230) = some { PG.ways_first_edge ι with nm := x } := h 230 (by simpa using m)
theorem h231 (h : Hs P ι l) (m : l.contains 231 = true) : ∃ x, P (ι.f 231) = some { PG.ways_fraction_runs ι with nm := x } := h 231 (by simpa using m)
theorem h232 (h : Hs P ι l) (m : l.contains 232 = true) : ∃ x, P (ι.f 232) = some { PG.ways_is_below ι with nm := x } := h 232 (by simpa using m)
theorem h233 (h : Hs P ι l) (m : l.contains 233 = true) : ∃ x, P (ι.f 233) = some { PG.ways_not_long ι with nm := x } := h 233 (by simpa using m)
theorem h234 (h : Hs P ι l) (m : l.contains 234 = true) : ∃ x, P (ι.f 234) = some { PG.ways_root_less ι with nm := x } := h 234 (by simpa using m)
theorem h235 (h : Hs P ι l) (m : l.contains 235 = true) : ∃ x, P (ι.f 235) = some { PG.ways_root_over ι with nm := x } := h 235 (by simpa using m)
theorem h236 (h : Hs P ι l) (m : l.contains 236 = true) : ∃ x, P (ι.f 236) = some { PG.ways_root_runs ι with nm := x } := h 236 (by simpa using m)
theorem h237 (h : Hs P ι l) (m : l.contains 237 = true) : ∃ x, P (ι.f 237) = some { PG.ways_run_from ι with nm := x } := h 237 (by simpa using m)
theorem h238 (h : Hs P ι l) (m : l.contains 238 = true) : ∃ x, P (ι.f 238) = some { PG.ways_way_number ι with nm := x } := h 238 (by simpa using m)
theorem h239 (h : Hs P ι l) (m : l.contains 239 = true) : ∃ x, P (ι.f 239) = some { PG.ways_way_told ι with nm := x } := h 239 (by simpa using m)
end
end MP

set_option Elab.async false
set_option linter.all false
namespace N1
/-! ### fractions told least, maps told least: plain arithmetic -/
/-- told least, or top -/
def Lst (p q : Int) : Prop := Int.gcd p q = 1 ∧ (0 < q ∨ q = 0 ∧ p = 1)
/-- the signed common part -/
def sg (t b : Int) : Int := if b < 0 ∨ (b = 0 ∧ t < 0) then -((Int.gcd t b : Nat) : Int) else ((Int.gcd t b : Nat) : Int)
theorem gcd_pos {t b : Int} (h : ¬ (t = 0 ∧ b = 0)) : 0 < Int.gcd t b := by
  refine Nat.pos_of_ne_zero fun z => h ?_
  exact Int.gcd_eq_zero_iff.mp z
theorem sg_ne {t b : Int} (h : ¬ (t = 0 ∧ b = 0)) : sg t b ≠ 0 := by
  have := gcd_pos h
  unfold sg
  split <;> omega
theorem sg_abs {t b : Int} : (sg t b).natAbs = Int.gcd t b := by
  unfold sg
  split <;> omega
theorem sg_dvd {t b : Int} : sg t b ∣ t ∧ sg t b ∣ b := by
  have h1 : ((Int.gcd t b : Nat) : Int) ∣ t := Int.gcd_dvd_left ..
  have h2 : ((Int.gcd t b : Nat) : Int) ∣ b := Int.gcd_dvd_right ..
  unfold sg
  split
  · exact ⟨Int.neg_dvd.mpr h1, Int.neg_dvd.mpr h2⟩
  · exact ⟨h1, h2⟩
theorem fdiv_of {p g : Int} (h : g ≠ 0) : (p * g).fdiv g = p := Int.mul_fdiv_cancel _ h
theorem told_ex {t b : Int} (h : ¬ (t = 0 ∧ b = 0)) : ∃ p q, t.fdiv (sg t b) = p ∧ b.fdiv (sg t b) = q ∧ t = p * sg t b ∧ b = q * sg t b ∧ Lst p q := by
  obtain ⟨⟨p, hp⟩, ⟨q, hq⟩⟩ := sg_dvd (t := t) (b := b)
  have hg := sg_ne h
  have e1 : t = p * sg t b := by rw [Int.mul_comm]; exact hp
  have e2 : b = q * sg t b := by rw [Int.mul_comm]; exact hq
  refine ⟨p, q, ?_, ?_, e1, e2, ?_, ?_⟩
  · conv => lhs; arg 1; rw [e1]
    exact fdiv_of hg
  · conv => lhs; arg 1; rw [e2]
    exact fdiv_of hg
  · have a : Int.gcd t b = Int.gcd p q * (sg t b).natAbs := by
      have z := Int.gcd_mul_right p (sg t b) q
      rwa [← e1, ← e2] at z
    rw [sg_abs] at a
    have pos := gcd_pos h
    have : Int.gcd t b * Int.gcd p q = Int.gcd t b * 1 := by rw [Nat.mul_one, Nat.mul_comm]; exact a.symm
    exact Nat.eq_of_mul_eq_mul_left pos this
  · have pos := gcd_pos h
    by_cases hb : b = 0
    · right
      have q0 : q = 0 := by
        rcases Int.mul_eq_zero.mp (e2.symm.trans hb) with z | z
        · exact z
        · exact absurd z hg
      refine ⟨q0, ?_⟩
      subst hb
      have e3 : ((Int.gcd t 0 : Nat) : Int) = t.natAbs := by simp
      unfold sg at e1 hg
      split at e1
      · have : t < 0 := by omega
        rw [e3] at e1
        have e4 : (t.natAbs : Int) = -t := by omega
        rw [e4] at e1
        have : t * 1 = t * p := by rw [Int.mul_one]; rw [Int.neg_neg, Int.mul_comm] at e1; exact e1
        exact (Int.eq_of_mul_eq_mul_left (by omega) this).symm
      · have : 0 < t := by
          have : ¬ t = 0 := fun z => h ⟨z, rfl⟩
          omega
        rw [e3] at e1
        have e4 : (t.natAbs : Int) = t := by omega
        rw [e4] at e1
        have : t * 1 = t * p := by rw [Int.mul_one, Int.mul_comm]; exact e1
        exact (Int.eq_of_mul_eq_mul_left (by omega) this).symm
    · left
      unfold sg at e2
      split at e2
      · have hb' : b < 0 := by omega
        refine Int.not_le.mp fun hq => ?_
        have := Int.mul_nonneg (a := -q) (b := ((Int.gcd t b : Nat) : Int)) (by omega) (by omega)
        rw [Int.neg_mul] at this
        rw [Int.mul_neg] at e2
        omega
      · have hb' : 0 < b := by omega
        refine Int.not_le.mp fun hq => ?_
        have := Int.mul_nonneg (a := -q) (b := ((Int.gcd t b : Nat) : Int)) (by omega) (by omega)
        rw [Int.neg_mul] at this
        omega
theorem Lst.ne {p q : Int} (h : Lst p q) : ¬ (p = 0 ∧ q = 0) := fun ⟨a, b⟩ => by
  rcases h.2 with z | z <;> omega
/-- coprime: what divides -/
theorem cop_dvd {p q r : Int} (h : Int.gcd p q = 1) (d : p ∣ q * r) : p ∣ r := by
  have d' := Int.natAbs_dvd_natAbs.mpr d
  rw [Int.natAbs_mul] at d'
  exact Int.natAbs_dvd_natAbs.mp (Nat.Coprime.dvd_of_dvd_mul_left h d')
theorem Lst.uniq {p q p' q' : Int} (h : Lst p q) (h' : Lst p' q') (e : p * q' = p' * q) : p = p' ∧ q = q' := by
  rcases h.2 with z | ⟨z, z1⟩
  · rcases h'.2 with z' | ⟨z', z1'⟩
    · have d1 : q ∣ q' := cop_dvd (p := q) (q := p) (r := q') (by rw [Int.gcd_comm]; exact h.1) ⟨p', by rw [e, Int.mul_comm]⟩
      have d2 : q' ∣ q := cop_dvd (p := q') (q := p') (r := q) (by rw [Int.gcd_comm]; exact h'.1) ⟨p, by rw [← e, Int.mul_comm]⟩
      have eq : q = q' := Int.dvd_antisymm (by omega) (by omega) d1 d2
      subst eq
      exact ⟨Int.eq_of_mul_eq_mul_right (by omega) e, rfl⟩
    · subst z' z1'
      rw [Int.mul_zero, Int.one_mul] at e
      omega
  · subst z z1
    rw [Int.mul_zero, Int.one_mul] at e
    rcases h'.2 with z' | ⟨z', z1'⟩
    · omega
    · exact ⟨z1'.symm, z'.symm⟩
theorem abs_le {p t g : Int} (e : t = p * g) (hg : g ≠ 0) : p.natAbs ≤ t.natAbs := by
  rw [e, Int.natAbs_mul]
  exact Nat.le_mul_of_pos_right _ (by omega)
end N1

set_option Elab.async false
set_option linter.all false
namespace N1
/-! ### rows told least -/
def gcdL (xs : List Int) : Nat := xs.foldl (fun a x => Nat.gcd a x.natAbs) 0
theorem gcd_fold {e : Int} : ∀ (xs : List Int) (a : Nat), (xs.map (· * e)).foldl (fun a x => Nat.gcd a x.natAbs) (a * e.natAbs) = xs.foldl (fun a x => Nat.gcd a x.natAbs) a * e.natAbs
  | [], a => rfl
  | x :: xs, a => by
    simp only [List.map_cons, List.foldl_cons]
    rw [Int.natAbs_mul, Nat.gcd_mul_right]
    exact gcd_fold xs _
theorem gcdL_scale {e : Int} (xs : List Int) : gcdL (xs.map (· * e)) = gcdL xs * e.natAbs := by
  have := gcd_fold (e := e) xs 0
  rw [Nat.zero_mul] at this
  exact this
theorem fold_dvd : ∀ (xs : List Int) (a : Nat), xs.foldl (fun a x => Nat.gcd a x.natAbs) a ∣ a ∧ ∀ x ∈ xs, xs.foldl (fun a x => Nat.gcd a x.natAbs) a ∣ x.natAbs
  | [], a => ⟨Nat.dvd_refl _, fun _ h => nomatch h⟩
  | x :: xs, a => by
    obtain ⟨h1, h2⟩ := fold_dvd xs (Nat.gcd a x.natAbs)
    refine ⟨Nat.dvd_trans h1 (Nat.gcd_dvd_left ..), fun y hy => ?_⟩
    rcases List.mem_cons.mp hy with z | z
    · rw [z]; exact Nat.dvd_trans h1 (Nat.gcd_dvd_right ..)
    · exact h2 y z
theorem gcdL_dvd {xs : List Int} {x : Int} (h : x ∈ xs) : ((gcdL xs : Nat) : Int) ∣ x := Int.natAbs_dvd_natAbs.mp (by rw [Int.natAbs_natCast]; exact (fold_dvd xs 0).2 x h)
def nz (xs : List Int) : List Int := xs.filter (fun x => !decide (x = 0))
theorem gcdL_pos {xs : List Int} {x : Int} (h : x ∈ xs) (h0 : x ≠ 0) : 0 < gcdL xs := by
  refine Nat.pos_of_ne_zero fun z => h0 ?_
  have := gcdL_dvd h
  rw [z] at this
  exact Int.zero_dvd.mp this
theorem nz_scale {e : Int} (he : e ≠ 0) : ∀ xs : List Int, nz (xs.map (· * e)) = (nz xs).map (· * e)
  | [] => rfl
  | x :: xs => by
    unfold nz
    simp only [List.map_cons, List.filter_cons]
    have ih := nz_scale he xs
    unfold nz at ih
    by_cases h : x = 0
    · subst h
      simp [ih]
    · have h2 : ¬ x * e = 0 := fun z => (Int.mul_eq_zero.mp z).elim h he
      simp [h, h2, he, ih]
def sgL (xs : List Int) : Int := match nz xs with | [] => 1 | y :: _ => if 0 < y then ((gcdL xs : Nat) : Int) else -((gcdL xs : Nat) : Int)
/-- a row told least: no common part, the first that isn't 0 above 0 -/
def ML (xs : List Int) : Prop := gcdL xs = 1 ∧ ∃ y r, nz xs = y :: r ∧ 0 < y
theorem nz_mem {xs : List Int} {y : Int} (h : y ∈ nz xs) : y ∈ xs ∧ y ≠ 0 := by
  unfold nz at h
  rw [List.mem_filter] at h
  exact ⟨h.1, by simpa using h.2⟩
theorem mtold_ex {gs : List Int} {y : Int} {r : List Int} (h : nz gs = y :: r) : sgL gs ≠ 0 ∧ (sgL gs = if 0 < y then ((gcdL gs : Nat) : Int) else -((gcdL gs : Nat) : Int)) ∧ ∃ xs, gs.map (fun x => x.fdiv (sgL gs)) = xs ∧ gs = xs.map (· * sgL gs) ∧ ML xs := by
  have hy := nz_mem (y := y) (by rw [h]; exact List.mem_cons_self ..)
  have pos := gcdL_pos hy.1 hy.2
  have e0 : sgL gs = if 0 < y then ((gcdL gs : Nat) : Int) else -((gcdL gs : Nat) : Int) := by unfold sgL; rw [h]
  have ne : sgL gs ≠ 0 := by rw [e0]; split <;> omega
  have dv : ∀ x ∈ gs, sgL gs ∣ x := fun x hx => by
    rw [e0]
    split
    · exact gcdL_dvd hx
    · exact Int.neg_dvd.mpr (gcdL_dvd hx)
  have ab : (sgL gs).natAbs = gcdL gs := by rw [e0]; split <;> omega
  refine ⟨ne, e0, gs.map (fun x => x.fdiv (sgL gs)), rfl, ?_, ?_, ?_⟩
  · rw [List.map_map]
    have : gs.map id = gs.map ((fun x => x * sgL gs) ∘ fun x => x.fdiv (sgL gs)) := List.map_congr_left fun x hx => by
      obtain ⟨k, hk⟩ := dv x hx
      show x = x.fdiv (sgL gs) * sgL gs
      have e : x = k * sgL gs := by rw [Int.mul_comm]; exact hk
      conv => rhs; rw [e, fdiv_of ne]
      exact e
    rw [List.map_id] at this
    exact this
  all_goals
    have key : gs = (gs.map (fun x => x.fdiv (sgL gs))).map (· * sgL gs) := by
      rw [List.map_map]
      have : gs.map id = gs.map ((fun x => x * sgL gs) ∘ fun x => x.fdiv (sgL gs)) := List.map_congr_left fun x hx => by
        obtain ⟨k, hk⟩ := dv x hx
        show x = x.fdiv (sgL gs) * sgL gs
        have e : x = k * sgL gs := by rw [Int.mul_comm]; exact hk
        conv => rhs; rw [e, fdiv_of ne]
        exact e
      rw [List.map_id] at this
      exact this
    generalize hX : gs.map (fun x => x.fdiv (sgL gs)) = xs at key
    generalize hE : sgL gs = e at *
  · have g := gcdL_scale (e := e) xs
    rw [← key, ab] at g
    have : gcdL gs * gcdL xs = gcdL gs * 1 := by rw [Nat.mul_one, Nat.mul_comm]; exact g.symm
    exact Nat.eq_of_mul_eq_mul_left pos this
  · have n := nz_scale ne xs
    rw [← key, h] at n
    cases hz : nz xs with
    | nil => rw [hz] at n; cases n
    | cons z t =>
      rw [hz] at n
      refine ⟨z, t, rfl, ?_⟩
      have n1 : y = z * e := (List.cons.inj n).1
      have z0 : z ≠ 0 := fun q => hy.2 (by rw [n1, q, Int.zero_mul])
      refine Int.not_le.mp fun hle => ?_
      have zn : z < 0 := by omega
      by_cases hp : 0 < y
      · rw [if_pos hp] at e0
        have := Int.mul_neg_of_neg_of_pos zn (by omega : 0 < e)
        omega
      · rw [if_neg hp] at e0
        have := Int.mul_pos_of_neg_of_neg zn (by omega : e < 0)
        omega
theorem map_scale_inj {e : Int} (he : e ≠ 0) : ∀ {xs ys : List Int}, xs.map (· * e) = ys.map (· * e) → xs = ys
  | [], [], _ => rfl
  | [], _ :: _, h => by cases h
  | _ :: _, [], h => by cases h
  | x :: xs, y :: ys, h => by
    obtain ⟨h1, h2⟩ := List.cons.inj h
    rw [Int.eq_of_mul_eq_mul_right he h1, map_scale_inj he h2]
theorem ML.uniq {xs ys : List Int} {e f : Int} (h : ML xs) (g : ML ys) (he : e ≠ 0) (hf : f ≠ 0) (q : xs.map (· * e) = ys.map (· * f)) : xs = ys := by
  have a := gcdL_scale (e := e) xs
  have b := gcdL_scale (e := f) ys
  rw [q, b, h.1, g.1, Nat.one_mul, Nat.one_mul] at a
  obtain ⟨x, r, hx, x0⟩ := h.2
  obtain ⟨y, t, hy, y0⟩ := g.2
  have n1 := nz_scale he xs
  have n2 := nz_scale hf ys
  rw [q, n2, hx, hy] at n1
  have e1 : y * f = x * e := (List.cons.inj n1).1
  have ef : e = f := by
    rcases Int.natAbs_eq_natAbs_iff.mp a with z | z
    · exact z.symm
    · rcases Int.lt_or_gt_of_ne hf with hn | hp
      · have p1 := Int.mul_neg_of_pos_of_neg y0 hn
        have p2 := Int.mul_pos x0 (by omega : 0 < e)
        omega
      · have p1 := Int.mul_pos y0 hp
        have p2 := Int.mul_neg_of_pos_of_neg x0 (by omega : e < 0)
        omega
  subst ef
  exact map_scale_inj he q
end N1

set_option Elab.async false
set_option linter.all false
namespace N1
/-! ### roots of a square polynomial with a square square -/
theorem fmod0 {a b : Int} (h : 0 < b) : a.fdiv b * b ≤ a ∧ a < (a.fdiv b + 1) * b := by
  have e : a.fdiv b = a / b := Int.fdiv_eq_ediv_of_nonneg _ (by omega)
  rw [e]
  have h1 := Int.ediv_mul_le a (b := b) (by omega)
  have h2 := Int.lt_ediv_add_one_mul_self a h
  exact ⟨h1, h2⟩
/-- a fraction told least that is led by a map to itself -/
theorem fixed_frac {a b c d s t u g : Int} (hs : s * s = (d - a) * (d - a) + 4 * b * c) (h1 : s - (d - a) = t * g) (h2 : 2 * c = u * g) (hg : g ≠ 0) : (a * t + b * u) * u = t * (c * t + d * u) := by
  -- c t t + (d - a) t u - b u u = 0, times 4 c and g g
  have k : (2 * c * (t * g) + (d - a) * (u * g)) = s * (u * g) := by
    rw [← h1, ← h2]; grind
  have m : g * g * ((a * t + b * u) * u - t * (c * t + d * u)) = 0 := by
    have : (4 * c) * (g * g * ((a * t + b * u) * u - t * (c * t + d * u))) = 0 := by
      grind
    by_cases hc : c = 0
    · subst hc
      have u0 : u = 0 := by
        have : u * g = 0 := by omega
        exact (Int.mul_eq_zero.mp this).resolve_right hg
      subst u0
      simp
    · exact (Int.mul_eq_zero.mp this).resolve_left (by omega)
  have gg : g * g ≠ 0 := Int.mul_ne_zero hg hg
  have := (Int.mul_eq_zero.mp m).resolve_left gg
  omega
end N1

set_option Elab.async false
set_option linter.all false
set_option maxRecDepth 100000
set_option maxHeartbeats 4000000
set_option exponentiation.threshold 9000
namespace S
open PySem L2 MP N1
/-! ### what the defs of circlenumbers and maps do -/
/-- a number of at most 300 figures -/
def Sm (i : Int) : Prop := i.natAbs < 10 ^ 300
/-- a number that may be multiplied -/
def Bd (i : Int) : Prop := i.natAbs < 2 ^ 8000
theorem Sm.bits {i : Int} (h : Sm i) : i.natAbs < 2 ^ 997 := Nat.lt_of_lt_of_le h (by decide +kernel)
theorem Sm.bd {i : Int} (h : Sm i) : Bd i := Nat.lt_of_lt_of_le h.bits (by decide +kernel)
theorem Sm.neg {i : Int} (h : Sm i) : Sm (-i) := by unfold Sm at *; rwa [Int.natAbs_neg]
theorem Bd.neg {i : Int} (h : Bd i) : Bd (-i) := by unfold Bd at *; rwa [Int.natAbs_neg]
theorem Sm.le {i j : Int} (h : Sm j) (l : i.natAbs ≤ j.natAbs) : Sm i := Nat.lt_of_le_of_lt l h
theorem Sm.of {i : Int} {k : Nat} (h : i.natAbs < 10 ^ k) (hk : k ≤ 300) : Sm i := Nat.lt_of_lt_of_le h (Nat.pow_le_pow_right (by decide) hk)
theorem Bd.of {i : Int} {k : Nat} (h : i.natAbs < 10 ^ k) (hk : k ≤ 2000) : Bd i := Nat.lt_of_lt_of_le h (Nat.le_trans (Nat.pow_le_pow_right (by decide) hk) (by decide +kernel))
theorem Bd.lit {i : Int} (h : i.natAbs < 1000) : Bd i := Nat.lt_of_lt_of_le h (by decide +kernel)
theorem Sm.lit {i : Int} (h : i.natAbs < 1000) : Sm i := Nat.lt_of_lt_of_le h (by decide +kernel)
theorem Sm.smI {i : Int} (h : Sm i)   : SmI i := MP.smI (Nat.lt_of_lt_of_le h (by decide +kernel))
theorem mulOk_B {i j : Int} (h1 : Bd i) (h2 : Bd j) : mulOk i j = true := mulOk_b (Nat.lt_of_lt_of_le h1 (Nat.pow_le_pow_right (by decide) (by decide))) (Nat.lt_of_lt_of_le h2 (Nat.pow_le_pow_right (by decide) (by decide)))
theorem divOk_B {i j : Int} (h2 : Bd j) (h0 : j ≠ 0) : divOk i j = true := divOk_r h2 h0
section
variable {st : DS}
theorem b_mulB {i j : Int} (h1 : Bd i) (h2 : Bd j) : binD .mul st (.int i) (.int j) = some (.int (i * j)) := b_mul (mulOk_B h1 h2)
theorem b_divB {i j : Int} (h2 : Bd j) (h0 : j ≠ 0) : binD .fdiv st (.int i) (.int j) = some (.int (i.fdiv j)) := b_div (divOk_B h2 h0)
end
section
variable {P : Nat → Option FDef} {ι : Ix} {n : Nat} {st : DS}
theorem is_long_eq (h : Hs P ι [23]) {i : Int} (s : Sm i) : callN P (n + 1) (ι.f 23) [.int i] st = .ok (.bl false) st := by
  obtain ⟨x, e⟩ := h23 h rfl
  rw [call_eq e rfl rfl (by show 1 ≤ 1; decide)]
  have hb := bits_le s.bits
  have hl : (((i.natAbs : Nat) : Int)).natAbs.log2 < 1920 := by
    by_cases z : i.natAbs = 0
    · rw [Int.natAbs_natCast, z]; decide
    · rw [Int.natAbs_natCast]; exact (Nat.log2_lt z).mpr (Nat.lt_of_lt_of_le s (by decide +kernel))
  have hq : ((i.natAbs : Nat) : Int) < (10 : Int) ^ 300 := by
    have : ((i.natAbs : Nat) : Int) < ((10 ^ 300 : Nat) : Int) := Int.ofNat_lt.mpr s
    rw [Int.natCast_pow] at this
    exact this
  have hs := str_len (k := 300) (i := ((i.natAbs : Nat) : Int)) (by decide) (by omega) hq
  have hs2 := bi_lenS (st := st) (Nat.le_trans hs (by decide))
  have d1 : ¬ ((997 : Int) < (Builtin.Int.intBits i : Nat)) := by omega
  have d2 : ¬ ((300 : Int) < ((PySem.Str.ofString (toString ((i.natAbs : Nat) : Int))).length : Nat)) := by omega
  simp only [PG.circlenumbers_is_long, List.map_cons, List.map_nil, List.length_cons, List.length_nil, List.replicate, List.append_nil, exs_c, exs_n, sbind_ret, ex_ret, ev_or, ev_cmp, ev_meth, ev_var, ev_con, ev_bi, eL_c, eL_n, getV_z, of_some, bind_ok, mt_bits, m_bits, if_true, c_gt, t_bl, bi_abs, bi_str hl, hs2, to_ok, end_ret, d1, d2, decide_false, Bool.false_eq_true, if_false, Nat.sub_self]
/-- rows of numbers -/
abbrev iL (xs : List Int) : List D := xs.map D.int
theorem bls_false : ∀ k : Nat, blsD (List.replicate k (.bl false)) = some (List.replicate k false)
  | 0 => rfl
  | k + 1 => by
    rw [List.replicate_succ, List.replicate_succ]
    show (blsD (List.replicate k (.bl false))).map (false :: ·) = _
    rw [bls_false k]
    rfl
theorem any_false : ∀ k : Nat, (List.replicate k false).any id = false
  | 0 => rfl
  | k + 1 => by rw [List.replicate_succ, List.any_cons, any_false k]; rfl
theorem map_const {α : Type} {d : D} : ∀ xs : List α, (xs.map fun _ => d) = List.replicate xs.length d
  | [] => rfl
  | x :: xs => by rw [List.map_cons, map_const xs]; rfl
theorem not_long_eq (h : Hs P ι [23, 28]) {xs : List Int} (hl : xs.length ≤ 1000) (s : ∀ x ∈ xs, Sm x) : callN P (n + 2) (ι.f 28) [.tup (iL xs)] st = .ok (.tup (iL xs)) st := by
  obtain ⟨x, e⟩ := h28 h rfl
  rw [call_eq e rfl rfl (by show 1 ≤ 2; decide)]
  have hl' : ([] : List D).length + xs.length ≤ sizeLine := by
    have e : sizeLine = 16777216 := by decide
    simp only [List.length_nil]; omega
  have e2 := lcL_map (f := lcW (callN P (n + 1)) (.call (ι.f 23) [.var 1]) (.nm 1) [] [1] [some (.tup (iL xs)), none]) (a := D.int) (g := fun _ => .bl false) (st := st) xs [] (fun y hy => by
    have := is_long_eq (n := n) (st := st) (h.mono (m := [23]) (by decide)) (s y hy)
    simp [lcW_eq, this]) hl'
  rw [List.nil_append, map_const] at e2
  simp [PG.circlenumbers_not_long, e2, bls_false, any_false]
theorem fr_ok (h : Hs P ι [22, 23, 28]) {t b : Int} (h0 : ¬ (t = 0 ∧ b = 0)) (s1 : Sm t) (s2 : Sm b) : ∃ p q, callN P (n + 3) (ι.f 22) [.int t, .int b] st = .ok (.tup [.int p, .int q]) st ∧ t = p * sg t b ∧ b = q * sg t b ∧ Lst p q := by
  obtain ⟨p, q, e1, e2, e3, e4, l⟩ := told_ex h0
  refine ⟨p, q, ?_, e3, e4, l⟩
  have ne := sg_ne h0
  have sp : Sm p := s1.le (abs_le e3 ne)
  have sq : Sm q := s2.le (abs_le e4 ne)
  obtain ⟨x, e⟩ := h22 h rfl
  rw [call_iso e rfl rfl (by show 2 ≤ 3; decide) (by simp)]
  have nl := not_long_eq (n := n) (st := []) (h.mono (m := [23, 28]) (by decide)) (xs := [p, q]) (by simp) (by simp [sp, sq])
  have bg : Bd (sg t b) := by
    have : (sg t b).natAbs ≤ max t.natAbs b.natAbs := by
      rw [sg_abs]
      by_cases ht : t = 0
      · have hb : b ≠ 0 := fun z => h0 ⟨ht, z⟩
        exact Nat.le_trans (Nat.le_of_dvd (by omega) (Nat.gcd_dvd_right ..)) (Nat.le_max_right ..)
      · exact Nat.le_trans (Nat.le_of_dvd (by omega) (Nat.gcd_dvd_left ..)) (Nat.le_max_left ..)
    unfold Bd
    have a := s1.bd
    have c := s2.bd
    unfold Bd at a c
    omega
  have key : eval (callN P (n + 2)) (.ife (.or (.cmp .lt (.var 1) (.lit (.int 0))) (.and (.cmp .eq (.var 1) (.lit (.int 0))) (.cmp .lt (.var 0) (.lit (.int 0))))) (.neg (.var 2)) (.var 2)) [some (.int t), some (.int b), some (.int ((Nat.gcd t.natAbs b.natAbs : Nat) : Int))] [] = .ok (.int (sg t b)) [] := by
    unfold sg Int.gcd
    by_cases hb : b < 0
    · simp [hb]
    · by_cases hb0 : b = 0
      · by_cases ht : t < 0
        · simp [hb0, ht]
        · simp [hb0, ht]
      · simp [hb, hb0]
  have d1 := b_divB (st := []) (i := t) bg ne
  have d2 := b_divB (st := []) (i := b) bg ne
  rw [e1] at d1
  rw [e2] at d2
  simp only [List.map_cons, List.map_nil] at nl
  simp only [PG.circlenumbers_fraction_told, List.map_cons, List.map_nil, List.length_cons, List.length_nil, List.replicate, List.cons_append, List.nil_append, exs_c, exs_n, ex_asg, ev_bi, eL_c, eL_n, ev_var, getV_s, getV_z, of_some, bind_ok, bi_gcd, to_ok, aT_nm, setV_s, setV_z, sbind_nx, key, ex_ret, ev_call, ev_tup, ev_bin, d1, d2, Nat.zero_add, Nat.reduceAdd, sz2, if_true, nl, sbind_ret, end_ret, isoR_ok, noRef_tup, noRefL_c, noRefL_n, noRef_int, Bool.and_true]
/-- .. of what is told least -/
theorem fr_eq (h : Hs P ι [22, 23, 28]) {t b p q : Int} (h0 : ¬ (t = 0 ∧ b = 0)) (s1 : Sm t) (s2 : Sm b) (l : Lst p q) (e : t * q = p * b) : callN P (n + 3) (ι.f 22) [.int t, .int b] st = .ok (.tup [.int p, .int q]) st := by
  obtain ⟨p', q', c, e1, e2, l'⟩ := fr_ok (n := n) (st := st) h h0 s1 s2
  have ne := sg_ne h0
  have : p' * q = p * q' := by
    generalize sg t b = g at e1 e2 ne
    rw [e1, e2] at e
    have z : g * (p' * q) = g * (p * q') := by grind
    exact Int.eq_of_mul_eq_mul_left ne z
  obtain ⟨rfl, rfl⟩ := l'.uniq l this
  exact c
end
end S

set_option Elab.async false
set_option linter.all false
set_option maxRecDepth 100000
set_option maxHeartbeats 4000000
set_option exponentiation.threshold 9000
namespace S
open PySem L2 MP N1
section
variable {P : Nat → Option FDef} {ι : Ix} {n : Nat} {st : DS}
theorem part_loop {C : Nat → List D → DS → R D} {u : Option D} : ∀ (xs : List Int) (a : Nat) (x : Option D), ∃ x', forL (forB C (.nm 2) [.asg (.nm 1) (.bi .gcd [.var 1, .var 2])]) (iL xs) [u, some (.int (a : Int)), x] st = .nx [u, some (.int ((xs.foldl (fun a x => Nat.gcd a x.natAbs) a : Nat) : Int)), x'] st
  | [], a, x => ⟨x, rfl⟩
  | y :: xs, a, x => by
    obtain ⟨x', e⟩ := part_loop xs (Nat.gcd a y.natAbs) (some (.int y))
    refine ⟨x', ?_⟩
    rw [List.foldl_cons, ← e]
    refine forL_c ?_
    simp
theorem part_ok (h : Hs P ι [136]) {xs : List Int} : callN P (n + 1) (ι.f 136) [.tup (iL xs)] st = .ok (.int ((gcdL xs : Nat) : Int)) st := by
  obtain ⟨x, e⟩ := h136 h rfl
  rw [call_eq e rfl rfl (by show 1 ≤ 3; decide)]
  obtain ⟨x', e2⟩ := part_loop (C := callN P n) (u := some (.tup (iL xs))) (st := st) xs 0 none
  have e2' : forL (forB (callN P n) (.nm 2) [.asg (.nm 1) (.bi .gcd [.var 1, .var 2])]) (iL xs) [some (.tup (iL xs)), some (.int 0), none] st = _ := e2
  simp only [PG.maps_common_part, List.map_cons, List.map_nil, List.length_cons, List.length_nil, List.replicate, List.cons_append, List.nil_append, exs_c, exs_n, ex_asg, ev_lit, to_ok, aT_nm, setV_s, setV_z, sbind_nx, ex_for, eL_c, eL_n, ev_var, getV_s, getV_z, of_some, bind_ok, itD_tup, e2', ex_ret, sbind_ret, end_ret]
  rfl
theorem Bd_sgL {gs : List Int} {y : Int} {r : List Int} (hz : nz gs = y :: r) (s : ∀ x ∈ gs, Sm x) : Bd (sgL gs) := by
  obtain ⟨ne, e0, _⟩ := mtold_ex hz
  have hy := nz_mem (y := y) (by rw [hz]; exact List.mem_cons_self ..)
  have d : gcdL gs ∣ y.natAbs := by
    have := Int.natAbs_dvd_natAbs.mpr (gcdL_dvd hy.1)
    rwa [Int.natAbs_natCast] at this
  have l := Nat.le_of_dvd (by have := hy.2; omega) d
  have b := (s y hy.1).bd
  have : (sgL gs).natAbs = gcdL gs := by rw [e0]; split <;> omega
  unfold Bd at *
  omega
/-- a map told of a table -/
theorem mt_ok (h : Hs P ι [142, 136, 23, 28]) {gs : List Int} {y : Int} {r : List Int} (hz : nz gs = y :: r) (hl : gs.length ≤ 1000) (s : ∀ x ∈ gs, Sm x) :
    ∃ xs, callN P (n + 3) (ι.f 142) [.tup (iL gs)] st = .ok (.tup (iL xs)) st ∧ gs = xs.map (· * sgL gs) ∧ ML xs := by
  obtain ⟨ne, e0, xs, e1, e2, ml⟩ := mtold_ex hz
  refine ⟨xs, ?_, e2, ml⟩
  obtain ⟨x, e⟩ := h142 h rfl
  have nr : ∀ xs : List Int, noRefL (iL xs) = true := fun xs => by
    induction xs with
    | nil => simp
    | cons a r ih => simpa using ih
  rw [call_iso e rfl rfl (by show 1 ≤ 4; decide) (by simp [nr])]
  have sz : sizeLine = 16777216 := by decide
  have sx : ∀ x ∈ xs, Sm x := fun x hx => by
    have hg : x * sgL gs ∈ gs := by
      have : x * sgL gs ∈ xs.map (· * sgL gs) := List.mem_map_of_mem (f := fun x => x * sgL gs) hx
      rw [← e2] at this
      exact this
    exact (s _ hg).le (abs_le rfl ne)
  have lx : xs.length = gs.length := by
    have := congrArg List.length e1
    simpa using this.symm
  have nl := not_long_eq (n := n) (st := []) (h.mono (m := [23, 28]) (by decide)) (xs := xs) (by omega) sx
  have bd := Bd_sgL hz s
  have l1 := lcL_flt (f := lcW (callN P (n + 2)) (.var 3) (.nm 3) [.cmp .ne (.var 3) (.lit (.int 0))] [3] [some (.tup (iL gs)), none, none, none]) (a := D.int) (g := D.int) (p := fun x => !decide (x = 0)) (st := []) gs [] (fun z _ => by
    by_cases q : z = 0 <;> simp [lcW_eq, q]) (by simp only [List.length_nil]; omega)
  have l1' : lcL (lcW (callN P (n + 2)) (.var 3) (.nm 3) [.cmp .ne (.var 3) (.lit (.int 0))] [3] [some (.tup (iL gs)), none, none, none]) (iL gs) [] [] = .ok (.int y :: iL r) [] := by
    rw [l1, List.nil_append]
    have : gs.filter (fun x => !decide (x = 0)) = y :: r := hz
    rw [this]
    rfl
  have cp := part_ok (n := n + 1) (st := []) (h.mono (m := [136]) (by decide)) (xs := gs)
  have key : eval (callN P (n + 2)) (.ife (.cmp .gt (.var 1) (.lit (.int 0))) (.call (ι.f 136) [.var 0]) (.neg (.call (ι.f 136) [.var 0]))) [some (.tup (iL gs)), some (.int y), none, none] [] = .ok (.int (sgL gs)) [] := by
    rw [e0]
    by_cases q : 0 < y <;> simp [q, cp]
  have l2 := lcL_map (f := lcW (callN P (n + 2)) (.bin .fdiv (.var 3) (.var 2)) (.nm 3) [] [3] [some (.tup (iL gs)), some (.int y), some (.int (sgL gs)), none]) (a := D.int) (g := fun x => D.int (x.fdiv (sgL gs))) (st := []) gs [] (fun z _ => by
    simp [lcW_eq, b_divB bd ne]) (by simp only [List.length_nil]; omega)
  have l2' : lcL (lcW (callN P (n + 2)) (.bin .fdiv (.var 3) (.var 2)) (.nm 3) [] [3] [some (.tup (iL gs)), some (.int y), some (.int (sgL gs)), none]) (iL gs) [] [] = .ok (iL xs) [] := by
    rw [l2, List.nil_append, ← e1]
    simp [iL]
  simp only [PG.maps_map_told, List.map_cons, List.map_nil, List.length_cons, List.length_nil, List.replicate, List.cons_append, List.nil_append, exs_c, exs_n, ex_asg, ev_ix, ev_lc, eL_c, eL_n, ev_var, ev_lit, getV_s, getV_z, of_some, bind_ok, itD_tup, l1', newL_f, ix0L, to_ok, aT_nm, setV_s, setV_z, sbind_nx, key, ex_ret, ev_call, ev_bi, l2', bi_tupL, nl, sbind_ret, end_ret, isoR_ok, noRef_tup, nr, if_true]
/-- .. of what is told least -/
theorem mt_eq (h : Hs P ι [142, 136, 23, 28]) {gs xs : List Int} {e : Int} (he : e ≠ 0) (hx : ML xs) (hg : gs = xs.map (· * e)) (hl : gs.length ≤ 1000) (s : ∀ x ∈ gs, Sm x) : callN P (n + 3) (ι.f 142) [.tup (iL gs)] st = .ok (.tup (iL xs)) st := by
  obtain ⟨z, t, hz, z0⟩ := hx.2
  have hn : nz gs = z * e :: t.map (· * e) := by rw [hg, nz_scale he, hz]; rfl
  obtain ⟨ys, c, e2, ml⟩ := mt_ok (n := n) (st := st) h hn hl s
  obtain ⟨ne, _⟩ := mtold_ex hn
  rw [c, hx.uniq ml he ne (hg.symm.trans e2)]
theorem size_eq (h : Hs P ι [140]) {a b c d : Int} (ha : Bd a) (hb : Bd b) (hc : Bd c) (hd : Bd d) : callN P (n + 1) (ι.f 140) [.tup [.int a, .int b, .int c, .int d]] st = .ok (.int (a * d - b * c)) st := by
  obtain ⟨x, e⟩ := h140 h rfl
  rw [call_eq e rfl rfl (by show 1 ≤ 1; decide)]
  simp [PG.maps_map_size, b_mulB ha hd, b_mulB hb hc]
theorem led_ok (h : Hs P ι [139, 22, 23, 28]) {a b c d t q : Int} (ha : Bd a) (hb : Bd b) (hc : Bd c) (hd : Bd d) (ht : Bd t) (hq : Bd q) :
    callN P (n + 4) (ι.f 139) [.tup [.int a, .int b, .int c, .int d], .tup [.int t, .int q]] st = callN P (n + 3) (ι.f 22) [.int (a * t + b * q), .int (c * t + d * q)] st := by
  obtain ⟨x, e⟩ := h139 h rfl
  rw [call_eq e rfl rfl (by show 2 ≤ 8; decide)]
  generalize hr : callN P (n + 3) (ι.f 22) [.int (a * t + b * q), .int (c * t + d * q)] st = r
  cases r <;> simp [PG.maps_map_led, b_mulB ha ht, b_mulB hb hq, b_mulB hc ht, b_mulB hd hq, hr]
theorem undone_eq (h : Hs P ι [143, 142, 136, 23, 28]) {a b c d : Int} : callN P (n + 4) (ι.f 143) [.tup [.int a, .int b, .int c, .int d]] st = callN P (n + 3) (ι.f 142) [.tup (iL [d, -b, -c, a])] st := by
  obtain ⟨x, e⟩ := h143 h rfl
  rw [call_eq e rfl rfl (by show 1 ≤ 5; decide)]
  generalize hr : callN P (n + 3) (ι.f 142) [.tup (iL [d, -b, -c, a])] st = r
  simp only [iL, List.map_cons, List.map_nil] at hr
  cases r <;> simp [PG.maps_map_undone, hr]
/-- one, then the other -/
theorem then_eq (h : Hs P ι [141, 142, 136, 23, 28]) {a b c d e f g k : Int} (ha : Bd a) (hb : Bd b) (hc : Bd c) (hd : Bd d) (he : Bd e) (hf : Bd f) (hg : Bd g) (hk : Bd k) {xs : List Int} (hr : callN P (n + 3) (ι.f 142) [.tup (iL [e * a + f * c, e * b + f * d, g * a + k * c, g * b + k * d])] [] = .ok (.tup (iL xs)) []) :
    callN P (n + 4) (ι.f 141) [.tup [.int a, .int b, .int c, .int d], .tup [.int e, .int f, .int g, .int k]] st = .ok (.tup (iL xs)) st := by
  obtain ⟨x, q⟩ := h141 h rfl
  have nr : ∀ xs : List Int, noRefL (iL xs) = true := fun xs => by
    induction xs with
    | nil => simp
    | cons a r ih => simpa using ih
  rw [call_iso q rfl rfl (by show 2 ≤ 11; decide) (by simp)]
  simp only [iL, List.map_cons, List.map_nil] at hr
  have nr' := nr xs
  simp only [iL] at nr'
  simp [PG.maps_map_then, b_mulB he ha, b_mulB hf hc, b_mulB he hb, b_mulB hf hd, b_mulB hg ha, b_mulB hk hc, b_mulB hg hb, b_mulB hk hd, hr, iL, nr']
end
end S

set_option Elab.async false
set_option linter.all false
set_option maxRecDepth 100000
set_option maxHeartbeats 4000000
set_option exponentiation.threshold 9000
namespace S
open PySem L2 MP N1
/-- the whole root -/
def isq (a : Int) : Int := ((Float64.isqrt a.toNat : Nat) : Int)
theorem isq_spec {a : Int} (h : 0 ≤ a) : 0 ≤ isq a ∧ isq a * isq a ≤ a ∧ a < (isq a + 1) * (isq a + 1) := by
  obtain ⟨h1, h2⟩ := Float64.isqrt_spec a.toNat
  unfold isq
  generalize Float64.isqrt a.toNat = r at *
  have e : ((a.toNat : Nat) : Int) = a := Int.toNat_of_nonneg h
  refine ⟨by omega, ?_, ?_⟩
  · have : ((r * r : Nat) : Int) ≤ ((a.toNat : Nat) : Int) := Int.ofNat_le.mpr h1
    rw [e] at this
    simpa using this
  · have : ((a.toNat : Nat) : Int) < (((r + 1) * (r + 1) : Nat) : Int) := Int.ofNat_lt.mpr h2
    rw [e] at this
    simpa using this
theorem isq_bd {a : Int} (h : Bd a) : Bd (isq a) := by
  by_cases h0 : 0 ≤ a
  · obtain ⟨h1, h2, _⟩ := isq_spec h0
    have : isq a ≤ a := by
      by_cases z : 1 ≤ isq a
      · have := Int.mul_le_mul_of_nonneg_left z h1
        omega
      · omega
    unfold Bd at *
    omega
  · have : isq a = 0 := by
      unfold isq
      have e : a.toNat = 0 := by omega
      rw [e]
      rfl
    rw [this]; exact Bd.lit (by decide)
theorem b_isq {st : DS} {a : Int} (h0 : 0 ≤ a) (h : Bd a) : biD .isqrt st [.int a] = some (.int (isq a)) := by
  show (if 0 ≤ a ∧ a.toNat.log2 < 13000 then some (D.int ((Float64.isqrt a.toNat : Nat) : Int)) else none) = _
  have l : a.toNat.log2 < 13000 := by
    by_cases z : a.toNat = 0
    · rw [z]; decide
    · refine (Nat.log2_lt z).mpr (Nat.lt_of_lt_of_le (?_ : a.toNat < 2 ^ 8000) (Nat.pow_le_pow_right (by decide) (by omega)))
      unfold Bd at h
      omega
  rw [if_pos ⟨h0, l⟩]
  rfl
section
variable {P : Nat → Option FDef} {ι : Ix} {n : Nat} {st : DS}
theorem sign_eq (h : Hs P ι [34]) {i : Int} : callN P (n + 1) (ι.f 34) [.int i] st = .ok (.int ((if 0 < i then 1 else 0) - (if i < 0 then 1 else 0))) st := by
  obtain ⟨x, e⟩ := h34 h rfl
  rw [call_eq e rfl rfl (by show 1 ≤ 1; decide)]
  simp [PG.circlenumbers_sign_of]
def sgn (i : Int) : Int := if 0 < i then 1 else if i < 0 then -1 else 0
theorem sign_eq' (h : Hs P ι [34]) {i : Int} : callN P (n + 1) (ι.f 34) [.int i] st = .ok (.int (sgn i)) st := by
  rw [sign_eq h]
  unfold sgn
  split
  · rename_i h1; rw [if_neg (by omega)]; rfl
  · rename_i h1
    split <;> rfl
theorem order_eq (h : Hs P ι [27, 34]) {a b c d : Int} (ha : Bd a) (hb : Bd b) (hc : Bd c) (hd : Bd d) : callN P (n + 2) (ι.f 27) [.tup [.int a, .int b], .tup [.int c, .int d]] st = .ok (.int (sgn (a * d - c * b))) st := by
  obtain ⟨x, e⟩ := h27 h rfl
  rw [call_eq e rfl rfl (by show 2 ≤ 2; decide)]
  have s := sign_eq' (n := n) (st := st) (h.mono (m := [34]) (by decide)) (i := a * d - c * b)
  simp [PG.circlenumbers_line_order, b_mulB ha hd, b_mulB hc hb, s]
theorem floor_eq (h : Hs P ι [29]) {t b : Int} (hb : Bd b) (h0 : b ≠ 0) : callN P (n + 1) (ι.f 29) [.tup [.int t, .int b]] st = .ok (.int (t.fdiv b)) st := by
  obtain ⟨x, e⟩ := h29 h rfl
  rw [call_eq e rfl rfl (by show 1 ≤ 2; decide)]
  simp [PG.circlenumbers_number_floor, b_divB hb h0]
theorem squared_eq (h : Hs P ι [25]) {i : Int} (h0 : 0 ≤ i) (hb : Bd i) : callN P (n + 1) (ι.f 25) [.int i] st = .ok (.bl (decide (isq i * isq i = i))) st := by
  obtain ⟨x, e⟩ := h25 h rfl
  rw [call_eq e rfl rfl (by show 1 ≤ 1; decide)]
  simp [PG.circlenumbers_is_squared, b_isq h0 hb, b_mulB (isq_bd hb) (isq_bd hb)]
theorem whole_int (h : Hs P ι [110]) {i : Int} : callN P (n + 1) (ι.f 110) [.int i] st = .ok (.bl true) st := by
  obtain ⟨x, e⟩ := h110 h rfl
  rw [call_eq e rfl rfl (by show 1 ≤ 1; decide)]
  simp [PG.lexemes_is_whole]
theorem whole_bl (h : Hs P ι [110]) {i : Bool} : callN P (n + 1) (ι.f 110) [.bl i] st = .ok (.bl false) st := by
  obtain ⟨x, e⟩ := h110 h rfl
  rw [call_eq e rfl rfl (by show 1 ≤ 1; decide)]
  simp [PG.lexemes_is_whole]
theorem whole_str (h : Hs P ι [110]) {i : Str} : callN P (n + 1) (ι.f 110) [.str i] st = .ok (.bl false) st := by
  obtain ⟨x, e⟩ := h110 h rfl
  rw [call_eq e rfl rfl (by show 1 ≤ 1; decide)]
  simp [PG.lexemes_is_whole]
theorem whole_non (h : Hs P ι [110]) : callN P (n + 1) (ι.f 110) [.non] st = .ok (.bl false) st := by
  obtain ⟨x, e⟩ := h110 h rfl
  rw [call_eq e rfl rfl (by show 1 ≤ 1; decide)]
  simp [PG.lexemes_is_whole]
/-- the row of a polynomial told least -/
theorem sgL3 {f s t : Int} (hf : f ≠ 0) : sgL [f, s, t] = if 0 < f then ((Nat.gcd (Nat.gcd f.natAbs s.natAbs) t.natAbs : Nat) : Int) else -((Nat.gcd (Nat.gcd f.natAbs s.natAbs) t.natAbs : Nat) : Int) := by
  have e : nz [f, s, t] = f :: nz [s, t] := by unfold nz; simp [hf]
  have g : gcdL [f, s, t] = Nat.gcd (Nat.gcd f.natAbs s.natAbs) t.natAbs := by unfold gcdL; simp
  unfold sgL
  rw [e, g]
theorem nz3 {f s t : Int} (hf : f ≠ 0) : nz [f, s, t] = f :: nz [s, t] := by unfold nz; simp [hf]
def rsign (m : Bool) (f : Int) : Int := if m = decide (0 < f) then 1 else -1
/-- a root told: of a polynomial whose square is a square -/
theorem root_frac (h : Hs P ι [31, 25, 22, 23, 28]) {f s t : Int} {m : Bool} (hf : Bd f) (hs : Bd s) (ht : Bd (4 * f)) (hu : Bd t) (hD : Bd (s * s - 4 * f * t)) (h0 : 0 ≤ s * s - 4 * f * t) (hq : isq (s * s - 4 * f * t) * isq (s * s - 4 * f * t) = s * s - 4 * f * t) :
    callN P (n + 4) (ι.f 31) [.int f, .int s, .int t, .bl m] st = callN P (n + 3) (ι.f 22) [.int (rsign m f * isq (s * s - 4 * f * t) - s), .int (2 * f)] st := by
  obtain ⟨x, e⟩ := h31 h rfl
  rw [call_eq e rfl rfl (by show 4 ≤ 7; decide)]
  have b1 := squared_eq (n := n + 2) (st := st) (h.mono (m := [25]) (by decide)) h0 hD
  rw [hq, decide_eq_true rfl] at b1
  generalize hr : callN P (n + 3) (ι.f 22) [.int (rsign m f * isq (s * s - 4 * f * t) - s), .int (2 * f)] st = r
  have b2 := b_isq (st := st) h0 hD
  have b3 : Bd (rsign m f) := by unfold rsign; split <;> exact Bd.lit (by decide)
  have key : eval (callN P (n + 3)) (.ife (.cmp .eq (.var 3) (.cmp .gt (.var 0) (.lit (.int 0)))) (.lit (.int 1)) (.neg (.lit (.int 1)))) [some (.int f), some (.int s), some (.int t), some (.bl m), some (.int (s * s - 4 * f * t)), none, none] st = .ok (.int (rsign m f)) st := by
    unfold rsign
    by_cases hm : m = decide (0 < f) <;> simp [hm]
  have c4 : binD .mul st (.int 4) (.int f) = some (.int (4 * f)) := b_mulB (Bd.lit (by decide)) hf
  have c2 : binD .mul st (.int 2) (.int f) = some (.int (2 * f)) := b_mulB (Bd.lit (by decide)) hf
  have c5 := b_mulB (st := st) ht hu
  have c6 := b_mulB (st := st) hs hs
  have c7 := b_mulB (st := st) b3 (isq_bd hD)
  cases r <;> simp only [PG.circlenumbers_root_told, List.map_cons, List.map_nil, List.length_cons, List.length_nil, List.replicate, List.cons_append, List.nil_append, exs_c, exs_n, ex_asg, ev_bin, ev_var, ev_lit, getV_s, getV_z, of_some, bind_ok, c6, c4, c5, b_sub, to_ok, aT_nm, setV_s, setV_z, sbind_nx, ex_ife, eT_tv, ev_call, eL_c, eL_n, b1, t_bl, if_true, key, ex_ret, ev_bi, b2, c7, c2, hr, sbind_ret, end_ret, to_exc, sbind_exc, end_exc, to_bad, sbind_bad, end_bad]
/-- .. of another one -/
theorem root_root (h : Hs P ι [31, 25, 22, 23, 28]) {f s t : Int} {m : Bool} (hf : Sm f) (hs : Sm s) (hu : Sm t) (f0 : f ≠ 0) (ht : Bd (4 * f)) (hD : Bd (s * s - 4 * f * t)) (h0 : 0 ≤ s * s - 4 * f * t) (hq : ¬ isq (s * s - 4 * f * t) * isq (s * s - 4 * f * t) = s * s - 4 * f * t) :
    ∃ a b c, callN P (n + 4) (ι.f 31) [.int f, .int s, .int t, .bl m] st = .ok (.tup [.int a, .int b, .int c, .bl m]) st ∧ [f, s, t] = [a, b, c].map (· * sgL [f, s, t]) ∧ ML [a, b, c] := by
  obtain ⟨x, e⟩ := h31 h rfl
  obtain ⟨ne, _, xs, e1, e2, ml⟩ := mtold_ex (nz3 (s := s) (t := t) f0)
  have bd := Bd_sgL (nz3 (s := s) (t := t) f0) (by simp [hf, hs, hu])
  refine ⟨f.fdiv (sgL [f, s, t]), s.fdiv (sgL [f, s, t]), t.fdiv (sgL [f, s, t]), ?_, by rw [← e1] at e2; exact e2, by rw [← e1] at ml; exact ml⟩
  have sx : ∀ y ∈ [f.fdiv (sgL [f, s, t]), s.fdiv (sgL [f, s, t]), t.fdiv (sgL [f, s, t])], Sm y := fun y hy => by
    have hy2 : y ∈ xs := by rw [← e1]; exact hy
    have hg : y * sgL [f, s, t] ∈ [f, s, t] := by
      have : y * sgL [f, s, t] ∈ xs.map (· * sgL [f, s, t]) := List.mem_map_of_mem (f := fun x => x * sgL [f, s, t]) hy2
      rw [← e2] at this
      exact this
    have hsm : Sm (y * sgL [f, s, t]) := by
      simp only [List.mem_cons, List.not_mem_nil, or_false] at hg
      rcases hg with z | z | z <;> (rw [z]; assumption)
    exact hsm.le (abs_le rfl ne)
  rw [call_eq e rfl rfl (by show 4 ≤ 7; decide)]
  have b1 := squared_eq (n := n + 2) (st := st) (h.mono (m := [25]) (by decide)) h0 hD
  rw [decide_eq_false hq] at b1
  have nl := not_long_eq (n := n + 1) (st := st) (h.mono (m := [23, 28]) (by decide)) (xs := [f.fdiv (sgL [f, s, t]), s.fdiv (sgL [f, s, t]), t.fdiv (sgL [f, s, t])]) (by simp) sx
  simp only [iL, List.map_cons, List.map_nil] at nl
  have c4 : binD .mul st (.int 4) (.int f) = some (.int (4 * f)) := b_mulB (Bd.lit (by decide)) hf.bd
  have c5 := b_mulB (st := st) ht hu.bd
  have c6 := b_mulB (st := st) hs.bd hs.bd
  have key : eval (callN P (n + 3)) (.ife (.cmp .gt (.var 0) (.lit (.int 0))) (.var 5) (.neg (.var 5))) [some (.int f), some (.int s), some (.int t), some (.bl m), some (.int (s * s - 4 * f * t)), some (.int ((Nat.gcd (Nat.gcd f.natAbs s.natAbs) t.natAbs : Nat) : Int)), none] st = .ok (.int (sgL [f, s, t])) st := by
    rw [sgL3 f0]
    by_cases q : 0 < f <;> simp [q]
  have d1 := b_divB (st := st) (i := f) bd ne
  have d2 := b_divB (st := st) (i := s) bd ne
  have d3 := b_divB (st := st) (i := t) bd ne
  simp only [PG.circlenumbers_root_told, List.map_cons, List.map_nil, List.length_cons, List.length_nil, List.replicate, List.cons_append, List.nil_append, exs_c, exs_n, ex_asg, ev_bin, ev_var, ev_lit, getV_s, getV_z, of_some, bind_ok, c6, c4, c5, b_sub, to_ok, aT_nm, setV_s, setV_z, sbind_nx, ex_ife, eT_tv, ev_call, eL_c, eL_n, b1, t_bl, if_false, Bool.false_eq_true, ev_bi, bi_gcd, Int.natAbs_natCast, key, ex_ret, ev_tupX, eX_t, eX_f, eX_n, ev_tup, d1, d2, d3, nl, seq_tup, Nat.zero_add, Nat.reduceAdd, sz3, sz4, if_true, sbind_ret, end_ret]
end
end S

set_option Elab.async false
set_option linter.all false
set_option maxRecDepth 100000
set_option maxHeartbeats 4000000
set_option exponentiation.threshold 20000
namespace S
open PySem L2 MP N1
theorem cut_take {xs : List D} (k : Nat) : cutD xs none (some (k : Int)) = xs.take k := by
  unfold cutD
  rw [HT.sIx_nat, HT.sIx_none, List.drop_zero, Nat.sub_zero]
  by_cases h : k ≤ xs.length
  · rw [Nat.min_eq_left h]
  · rw [Nat.min_eq_right (by omega), List.take_of_length_le (by omega), List.take_of_length_le (by omega)]
theorem sl_tup3 {xs : List D} {st : DS} : slD false (.tup xs) none (some 3) st = .ok (.tup (xs.take 3)) st := by
  show (if false then R.bad else R.ok (D.tup (cutD xs none (some ((3 : Nat) : Int)))) st) = _
  rw [cut_take]
  rfl
theorem nin24 {st : DS} {k : Int} : cmpD .nin st (.int k) (.tup [.int 2, .int 4]) = some (!(decide (2 = k) || decide (4 = k))) := by
  show (inD st (.int k) (.tup [.int 2, .int 4])).map (!·) = _
  have : inD st (.int k) (.tup [.int 2, .int 4]) = some (decide (2 = k) || decide (4 = k)) := by
    show inL st (.int k) [.int 2, .int 4] = _
    unfold inL
    simp [flatD, eqF]
    rfl
  rw [this]
  rfl
theorem blsT : blsD [.bl true, .bl true] = some [true, true] := rfl
theorem blsD_n : blsD [] = some [] := (rfl)
theorem blsD_c {b : Bool} {r : List D} : blsD (.bl b :: r) = (blsD r).map (b :: ·) := (rfl)
theorem nr_iL : ∀ xs : List Int, noRefL (iL xs) = true := fun xs => by
  induction xs with
  | nil => simp
  | cons a r ih => simpa using ih
theorem Sh2 {a b : Int} : Sh (.tup [.int a, .int b]) 64 := (Sh.tup (k := 0) (.cons .int (.cons .int .nil))).mono (by decide)
theorem Sh4 {a b c d : Int} : Sh (.tup [.int a, .int b, .int c, .int d]) 64 := (Sh.tup (k := 0) (.cons .int (.cons .int (.cons .int (.cons .int .nil))))).mono (by decide)
theorem eq2 {st : DS} {a b c d : Int} : cmpD .eq st (.tup [.int a, .int b]) (.tup [.int c, .int d]) = some (decide (a = c) && decide (b = d)) := by
  rw [c_eqG Sh2 Sh2]; simp
theorem ne2 {st : DS} {a b c d : Int} : cmpD .ne st (.tup [.int a, .int b]) (.tup [.int c, .int d]) = some (!(decide (a = c) && decide (b = d))) := by
  rw [c_neG Sh2 Sh2]; simp
theorem eq4 {st : DS} {a b c d e f g h : Int} : cmpD .eq st (.tup [.int a, .int b, .int c, .int d]) (.tup [.int e, .int f, .int g, .int h]) = some (decide (a = e) && (decide (b = f) && (decide (c = g) && decide (d = h)))) := by
  rw [c_eqG Sh4 Sh4]; simp
section
variable {P : Nat → Option FDef} {ι : Ix} {n : Nat} {st : DS}
abbrev LN : List Nat := [26, 110, 24, 25, 35]
/-- whether a pair is a number told least -/
theorem told_pair (h : Hs P ι [26, 110]) {p q : Int} : callN P (n + 2) (ι.f 26) [.tup [.int p, .int q]] st = .ok (.bl (decide (Int.gcd p q = 1) && (decide (0 < q) || (decide (p = 1) && decide (q = 0))))) st := by
  obtain ⟨x, e⟩ := h26 h rfl
  rw [call_eq e rfl rfl (by show 1 ≤ 2; decide)]
  have w : ∀ i : Int, callN P (n + 1) (ι.f 110) [.int i] st = .ok (.bl true) st := fun i => whole_int (h.mono (m := [110]) (by decide))
  have e1 : ∀ i : Int, lcW (callN P (n + 1)) (.call (ι.f 110) [.var 1]) (.nm 1) [] [1] [some (.tup [.int p, .int q]), none] (.int i) st = .ok (some (.bl true)) st := fun i => by simp [lcW_eq, w]
  have e2 : lcL (lcW (callN P (n + 1)) (.call (ι.f 110) [.var 1]) (.nm 1) [] [1] [some (.tup [.int p, .int q]), none]) [.int p, .int q] [] st = .ok [.bl true, .bl true] st := by
    rw [lcL_y (e1 _) (by show 0 < sizeLine; decide), lcL_y (e1 _) (by show 1 < sizeLine; decide), lcL_n]
    rfl
  have g : (((Nat.gcd p.natAbs q.natAbs : Nat) : Int) = 1) = (Int.gcd p q = 1) := by
    unfold Int.gcd
    exact propext ⟨fun z => by omega, fun z => by omega⟩
  simp only [PG.circlenumbers_is_told_number, List.map_cons, List.map_nil, List.length_cons, List.length_nil, List.replicate, List.cons_append, List.nil_append, exs_c, exs_n, ex_ife, eT_or, eT_not, eT_tv, ev_isa, ev_var, getV_s, getV_z, of_some, bind_ok, isa_tup, t_bl, Bool.not_true, Bool.false_eq_true, if_false, eT_cmp, ev_bi, eL_c, eL_n, bi_lenT, ev_tup, ev_lit, Nat.zero_add, Nat.reduceAdd, sz2, if_true, nin24]
  have s3 := sl_tup3 (xs := [.int p, .int q]) (st := st)
  simp [ev_lc, ev_sl, s3, e2, blsT, ev_con, eq2, g]
  by_cases h1 : Int.gcd p q = 1
  · by_cases h2 : 0 < q <;> simp [h1, h2, eq2]
  · simp [h1]
theorem told_not (h : Hs P ι [26]) {d : D} (hd : isaD st .tuple d = some false) : callN P (n + 1) (ι.f 26) [d] st = .ok (.bl false) st := by
  obtain ⟨x, e⟩ := h26 h rfl
  rw [call_eq e rfl rfl (by show 1 ≤ 2; decide)]
  simp [PG.circlenumbers_is_told_number, hd]
theorem told_len (h : Hs P ι [26]) {xs : List D} (h2 : xs.length ≠ 2) (h4 : xs.length ≠ 4) : callN P (n + 1) (ι.f 26) [.tup xs] st = .ok (.bl false) st := by
  obtain ⟨x, e⟩ := h26 h rfl
  rw [call_eq e rfl rfl (by show 1 ≤ 2; decide)]
  have a : ¬ (2 : Int) = (xs.length : Nat) := by omega
  have b : ¬ (4 : Int) = (xs.length : Nat) := by omega
  simp [PG.circlenumbers_is_told_number, nin24, a, b]
/-- a pair of which one is no whole number -/
theorem told_odd (h : Hs P ι [26, 110]) {p q : D} {a b : Bool} (hp : callN P (n + 1) (ι.f 110) [p] st = .ok (.bl a) st) (hq : callN P (n + 1) (ι.f 110) [q] st = .ok (.bl b) st) (hab : (a && b) = false) : callN P (n + 2) (ι.f 26) [.tup [p, q]] st = .ok (.bl false) st := by
  obtain ⟨x, e⟩ := h26 h rfl
  rw [call_eq e rfl rfl (by show 1 ≤ 2; decide)]
  have e1 : lcW (callN P (n + 1)) (.call (ι.f 110) [.var 1]) (.nm 1) [] [1] [some (.tup [p, q]), none] p st = .ok (some (.bl a)) st := by simp [lcW_eq, hp]
  have e2 : lcW (callN P (n + 1)) (.call (ι.f 110) [.var 1]) (.nm 1) [] [1] [some (.tup [p, q]), none] q st = .ok (some (.bl b)) st := by simp [lcW_eq, hq]
  have e3 : lcL (lcW (callN P (n + 1)) (.call (ι.f 110) [.var 1]) (.nm 1) [] [1] [some (.tup [p, q]), none]) [p, q] [] st = .ok [.bl a, .bl b] st := by
    rw [lcL_y e1 (by show 0 < sizeLine; decide), lcL_y e2 (by show 1 < sizeLine; decide), lcL_n]
    rfl
  have s3 := sl_tup3 (xs := [p, q]) (st := st)
  have ab : ([a, b] : List Bool).all id = false := by simpa using hab
  simp only [PG.circlenumbers_is_told_number, List.map_cons, List.map_nil, List.length_cons, List.length_nil, List.replicate, List.cons_append, List.nil_append, exs_c, exs_n, ex_ife, eT_or, eT_not, eT_tv, ev_isa, ev_var, getV_s, getV_z, of_some, bind_ok, isa_tup, t_bl, Bool.not_true, Bool.false_eq_true, if_false, eT_cmp, ev_bi, eL_c, eL_n, bi_lenT, ev_tup, ev_lit, Nat.zero_add, Nat.reduceAdd, sz2, if_true, nin24]
  simp [ev_lc, ev_sl, s3, e3, blsD_n, blsD_c, hab]
/-- whether four whole numbers are a map told least -/
theorem tmap_4 (h : Hs P ι [137, 110, 140, 136]) {a b c d : Int} (ha : Bd a) (hb : Bd b) (hc : Bd c) (hd : Bd d) :
    callN P (n + 2) (ι.f 137) [.tup [.int a, .int b, .int c, .int d]] st = .ok (.bl (!(decide (a * d - b * c = 0)) && decide (gcdL [a, b, c, d] = 1) && (match nz [a, b, c, d] with | y :: _ => decide (0 < y) | [] => false))) st := by
  obtain ⟨x, e⟩ := h137 h rfl
  rw [call_eq e rfl rfl (by show 1 ≤ 2; decide)]
  have w : ∀ i : Int, callN P (n + 1) (ι.f 110) [.int i] st = .ok (.bl true) st := fun i => whole_int (h.mono (m := [110]) (by decide))
  have e1 : ∀ i : Int, lcW (callN P (n + 1)) (.call (ι.f 110) [.var 1]) (.nm 1) [] [1] [some (.tup [.int a, .int b, .int c, .int d]), none] (.int i) st = .ok (some (.bl true)) st := fun i => by simp [lcW_eq, w]
  have e2 : lcL (lcW (callN P (n + 1)) (.call (ι.f 110) [.var 1]) (.nm 1) [] [1] [some (.tup [.int a, .int b, .int c, .int d]), none]) [.int a, .int b, .int c, .int d] [] st = .ok [.bl true, .bl true, .bl true, .bl true] st := by
    rw [lcL_y (e1 _) (by show 0 < sizeLine; decide), lcL_y (e1 _) (by show 1 < sizeLine; decide), lcL_y (e1 _) (by show 2 < sizeLine; decide), lcL_y (e1 _) (by show 3 < sizeLine; decide), lcL_n]
    rfl
  have sz := size_eq (n := n) (st := st) (h.mono (m := [140]) (by decide)) ha hb hc hd
  have cp := part_ok (n := n) (st := st) (h.mono (m := [136]) (by decide)) (xs := [a, b, c, d])
  simp only [iL, List.map_cons, List.map_nil] at cp
  have l1 := lcL_flt (f := lcW (callN P (n + 1)) (.var 1) (.nm 1) [.cmp .ne (.var 1) (.lit (.int 0))] [1] [some (.tup [.int a, .int b, .int c, .int d]), none]) (a := D.int) (g := D.int) (p := fun x => !decide (x = 0)) (st := st) [a, b, c, d] [] (fun z _ => by
    by_cases q : z = 0 <;> simp [lcW_eq, q]) (by show 0 + 4 ≤ sizeLine; decide)
  have l1' : lcL (lcW (callN P (n + 1)) (.var 1) (.nm 1) [.cmp .ne (.var 1) (.lit (.int 0))] [1] [some (.tup [.int a, .int b, .int c, .int d]), none]) [.int a, .int b, .int c, .int d] [] st = .ok (iL (nz [a, b, c, d])) st := l1
  have g : (((gcdL [a, b, c, d] : Nat) : Int) = 1) = (gcdL [a, b, c, d] = 1) := propext ⟨fun z => by omega, fun z => by omega⟩
  by_cases h1 : a * d - b * c = 0
  · simp [PG.maps_is_told_map, e2, blsD_n, blsD_c, sz, h1]
  · by_cases h2 : gcdL [a, b, c, d] = 1
    · cases hz : nz [a, b, c, d] with
      | nil =>
        exfalso
        have z : ∀ y ∈ [a, b, c, d], y = 0 := fun y hy => Classical.byContradiction fun q => by
          have : y ∈ nz [a, b, c, d] := by unfold nz; rw [List.mem_filter]; exact ⟨hy, by simpa using q⟩
          rw [hz] at this
          cases this
        have za := z a (by simp)
        have zb := z b (by simp)
        subst za zb
        simp at h1
      | cons y r =>
        rw [hz] at l1'
        simp only [iL, List.map_cons] at l1'
        simp [PG.maps_is_told_map, e2, blsD_n, blsD_c, sz, h1, cp, h2, l1']
    · have h2' : ¬ ((gcdL [a, b, c, d] : Nat) : Int) = 1 := by omega
      simp [PG.maps_is_told_map, e2, blsD_n, blsD_c, sz, h1, cp, h2']
      intro z; exact absurd z h2
theorem tmap_not (h : Hs P ι [137]) {d : D} (hd : isaD st .tuple d = some false) : callN P (n + 1) (ι.f 137) [d] st = .ok (.bl false) st := by
  obtain ⟨x, e⟩ := h137 h rfl
  rw [call_eq e rfl rfl (by show 1 ≤ 2; decide)]
  simp [PG.maps_is_told_map, hd]
theorem tmap_len (h : Hs P ι [137]) {xs : List D} (h4 : xs.length ≠ 4) : callN P (n + 1) (ι.f 137) [.tup xs] st = .ok (.bl false) st := by
  obtain ⟨x, e⟩ := h137 h rfl
  rw [call_eq e rfl rfl (by show 1 ≤ 2; decide)]
  have b : ¬ ((xs.length : Nat) : Int) = 4 := by omega
  simp [PG.maps_is_told_map, b]
theorem tmap_odd (h : Hs P ι [137, 110]) {p q r s : D} {a b c d : Bool} (hp : callN P (n + 1) (ι.f 110) [p] st = .ok (.bl a) st) (hq : callN P (n + 1) (ι.f 110) [q] st = .ok (.bl b) st) (hr : callN P (n + 1) (ι.f 110) [r] st = .ok (.bl c) st) (hs : callN P (n + 1) (ι.f 110) [s] st = .ok (.bl d) st) (hab : (a && (b && (c && d))) = false) : callN P (n + 2) (ι.f 137) [.tup [p, q, r, s]] st = .ok (.bl false) st := by
  obtain ⟨x, e⟩ := h137 h rfl
  rw [call_eq e rfl rfl (by show 1 ≤ 2; decide)]
  have e1 : lcW (callN P (n + 1)) (.call (ι.f 110) [.var 1]) (.nm 1) [] [1] [some (.tup [p, q, r, s]), none] p st = .ok (some (.bl a)) st := by simp [lcW_eq, hp]
  have e2 : lcW (callN P (n + 1)) (.call (ι.f 110) [.var 1]) (.nm 1) [] [1] [some (.tup [p, q, r, s]), none] q st = .ok (some (.bl b)) st := by simp [lcW_eq, hq]
  have e3 : lcW (callN P (n + 1)) (.call (ι.f 110) [.var 1]) (.nm 1) [] [1] [some (.tup [p, q, r, s]), none] r st = .ok (some (.bl c)) st := by simp [lcW_eq, hr]
  have e4 : lcW (callN P (n + 1)) (.call (ι.f 110) [.var 1]) (.nm 1) [] [1] [some (.tup [p, q, r, s]), none] s st = .ok (some (.bl d)) st := by simp [lcW_eq, hs]
  have e5 : lcL (lcW (callN P (n + 1)) (.call (ι.f 110) [.var 1]) (.nm 1) [] [1] [some (.tup [p, q, r, s]), none]) [p, q, r, s] [] st = .ok [.bl a, .bl b, .bl c, .bl d] st := by
    rw [lcL_y e1 (by show 0 < sizeLine; decide), lcL_y e2 (by show 1 < sizeLine; decide), lcL_y e3 (by show 2 < sizeLine; decide), lcL_y e4 (by show 3 < sizeLine; decide), lcL_n]
    rfl
  simp [PG.maps_is_told_map, e5, blsD_n, blsD_c, hab]
end
end S

set_option Elab.async false
set_option linter.all false
set_option maxRecDepth 100000
set_option maxHeartbeats 4000000
set_option exponentiation.threshold 20000
namespace S
open PySem L2 MP N1
section
variable {P : Nat → Option FDef} {ι : Ix} {n : Nat} {st : DS} {a b c d : Int}
theorem fixed_plain (h : Hs P ι [138]) : callN P (n + 1) (ι.f 138) [.tup [.int 1, .int 0, .int 0, .int 1]] st = .ok .non st := by
  obtain ⟨x, e⟩ := h138 h rfl
  rw [call_iso e rfl rfl (by show 1 ≤ 7; decide) (by simp)]
  simp [PG.maps_map_fixed, eq4]
theorem fixed_move (h : Hs P ι [138]) (hp : ¬ (a = 1 ∧ b = 0 ∧ d = 1)) (hd : a = d) : callN P (n + 1) (ι.f 138) [.tup [.int a, .int b, .int 0, .int d]] st = .ok (.tup [.tup [.int 1, .int 0]]) st := by
  obtain ⟨x, e⟩ := h138 h rfl
  rw [call_iso e rfl rfl (by show 1 ≤ 7; decide) (by simp)]
  subst hd
  simp [PG.maps_map_fixed, eq4, hp]
theorem fixed_line (h : Hs P ι [138]) (hd : ¬ a = d) {p q : Int} (hf : callN P n (ι.f 22) [.int b, .int (d - a)] [] = .ok (.tup [.int p, .int q]) []) : callN P (n + 1) (ι.f 138) [.tup [.int a, .int b, .int 0, .int d]] st = .ok (.tup [.tup [.int p, .int q], .tup [.int 1, .int 0]]) st := by
  obtain ⟨x, e⟩ := h138 h rfl
  rw [call_iso e rfl rfl (by show 1 ≤ 7; decide) (by simp)]
  have hp : ¬ (a = 1 ∧ b = 0 ∧ d = 1) := fun ⟨z1, _, z2⟩ => hd (z1.trans z2.symm)
  simp [PG.maps_map_fixed, eq4, hp, hd, hf]
theorem fixed_none (h : Hs P ι [138]) (hc : ¬ c = 0) (h1 : Bd (d - a)) (h2 : Bd (4 * b)) (h3 : Bd b) (h4 : Bd c) (hs : (d - a) * (d - a) + 4 * b * c < 0) : callN P (n + 1) (ι.f 138) [.tup [.int a, .int b, .int c, .int d]] st = .ok (.tup []) st := by
  obtain ⟨x, e⟩ := h138 h rfl
  rw [call_iso e rfl rfl (by show 1 ≤ 7; decide) (by simp)]
  have c1 := b_mulB (st := []) h1 h1
  have c2 : binD .mul [] (.int 4) (.int b) = some (.int (4 * b)) := b_mulB (Bd.lit (by decide)) h3
  have c3 := b_mulB (st := []) h2 h4
  simp [PG.maps_map_fixed, eq4, hc, c1, c2, c3, hs]
theorem fixed_one (h : Hs P ι [138]) (hc : ¬ c = 0) (h1 : Bd (d - a)) (h2 : Bd (4 * b)) (h3 : Bd b) (h4 : Bd c) (hs : (d - a) * (d - a) + 4 * b * c = 0) {r : D} (hr : callN P n (ι.f 31) [.int c, .int (d - a), .int (-b), .bl false] [] = .ok r []) (nr : noRef r = true) :
    callN P (n + 1) (ι.f 138) [.tup [.int a, .int b, .int c, .int d]] st = .ok (.tup [r]) st := by
  obtain ⟨x, e⟩ := h138 h rfl
  rw [call_iso e rfl rfl (by show 1 ≤ 7; decide) (by simp)]
  have c1 := b_mulB (st := []) h1 h1
  have c2 : binD .mul [] (.int 4) (.int b) = some (.int (4 * b)) := b_mulB (Bd.lit (by decide)) h3
  have c3 := b_mulB (st := []) h2 h4
  have hs' : ¬ ((d - a) * (d - a) + 4 * b * c < 0) := by omega
  simp [PG.maps_map_fixed, eq4, hc, c1, c2, c3, hs, hr, nr]
theorem fixed_two (h : Hs P ι [138]) (hc : ¬ c = 0) (h1 : Bd (d - a)) (h2 : Bd (4 * b)) (h3 : Bd b) (h4 : Bd c) (hs : 0 < (d - a) * (d - a) + 4 * b * c) {r s : D} (hr : callN P n (ι.f 31) [.int c, .int (d - a), .int (-b), .bl false] [] = .ok r []) (hq : callN P n (ι.f 31) [.int c, .int (d - a), .int (-b), .bl true] [] = .ok s []) (nr : noRef r = true) (ns : noRef s = true) :
    callN P (n + 1) (ι.f 138) [.tup [.int a, .int b, .int c, .int d]] st = .ok (.tup [r, s]) st := by
  obtain ⟨x, e⟩ := h138 h rfl
  rw [call_iso e rfl rfl (by show 1 ≤ 7; decide) (by simp)]
  have c1 := b_mulB (st := []) h1 h1
  have c2 : binD .mul [] (.int 4) (.int b) = some (.int (4 * b)) := b_mulB (Bd.lit (by decide)) h3
  have c3 := b_mulB (st := []) h2 h4
  have hs' : ¬ ((d - a) * (d - a) + 4 * b * c < 0) := by omega
  have hs2 : ¬ ((d - a) * (d - a) + 4 * b * c = 0) := by omega
  simp [PG.maps_map_fixed, eq4, hc, c1, c2, c3, hs', hs2, hr, hq, nr, ns]
end
end S

set_option Elab.async false
set_option linter.all false
namespace N1
/-! ### whole numbers and a root of a square that is none: order -/
/-- not a square -/
def NS (D : Int) : Prop := ∀ i : Int, i * i ≠ D
/-- X and Y times the root of D is above 0 -/
def Pos (D X Y : Int) : Prop := (D * (Y * Y) < X * X ∧ 0 < X) ∨ (X * X < D * (Y * Y) ∧ 0 < Y)
theorem sq_nn (x : Int) : 0 ≤ x * x := by
  rcases Int.le_total 0 x with h | h
  · exact Int.mul_nonneg h h
  · exact Int.mul_nonneg_of_nonpos_of_nonpos h h
theorem sq_pos {x : Int} (h : x ≠ 0) : 0 < x * x := by
  have := sq_nn x
  have : x * x ≠ 0 := fun z => by rcases Int.mul_eq_zero.mp z with q | q <;> exact h q
  omega
/-- of squares -/
theorem abs_of {p q : Int} (hp : 0 ≤ p) (h : q * q < p * p) : -p < q ∧ q < p := by
  constructor
  · refine Int.not_le.mp fun z => ?_
    have := Int.mul_le_mul (show p ≤ -q by omega) (show p ≤ -q by omega) hp (by omega)
    rw [Int.neg_mul_neg] at this
    omega
  · refine Int.not_le.mp fun z => ?_
    have := Int.mul_le_mul z z hp (by omega)
    omega
theorem sq_lt {p q : Int} (h1 : -p < q) (h2 : q < p) : q * q < p * p := by
  have : 0 < (p - q) * (p + q) := Int.mul_pos (by omega) (by omega)
  grind
theorem NS.ne {D X Y : Int} (hD : NS D) (h : X * X = D * (Y * Y)) : X = 0 ∧ Y = 0 := by
  by_cases hy : Y = 0
  · subst hy
    refine ⟨?_, rfl⟩
    have : X * X = 0 := by rw [h]; simp
    rcases Int.mul_eq_zero.mp this with q | q <;> exact q
  · exfalso
    -- Y divides X
    have d : Y * Y ∣ X * X := ⟨D, by rw [h, Int.mul_comm]⟩
    have d2 : Y ∣ X := by
      have : Y.natAbs ^ 2 ∣ X.natAbs ^ 2 := by
        have := Int.natAbs_dvd_natAbs.mpr d
        rw [Int.natAbs_mul, Int.natAbs_mul] at this
        rw [Nat.pow_two, Nat.pow_two]; exact this
      exact Int.natAbs_dvd_natAbs.mp ((Nat.pow_dvd_pow_iff (by decide)).mp this)
    obtain ⟨k, rfl⟩ := d2
    have : Y * Y * (k * k) = Y * Y * D := by rw [Int.mul_comm (Y * Y) D, ← h]; grind
    exact hD k (Int.eq_of_mul_eq_mul_left (by have := sq_pos hy; omega) this)
section
variable {D X Y X' Y' : Int}
theorem Pos.tri (hD : NS D) (h0 : 0 < D) (h : ¬ (X = 0 ∧ Y = 0)) : Pos D X Y ∨ Pos D (-X) (-Y) := by
  unfold Pos
  rw [Int.neg_mul_neg, Int.neg_mul_neg]
  rcases Int.lt_trichotomy (X * X) (D * (Y * Y)) with q | q | q
  · have : Y ≠ 0 := fun z => by subst z; have := sq_nn X; simp at q; omega
    rcases Int.lt_or_gt_of_ne this with g | g
    · exact .inr (.inr ⟨q, by omega⟩)
    · exact .inl (.inr ⟨q, g⟩)
  · exact absurd (hD.ne q) h
  · have : X ≠ 0 := fun z => by
      subst z
      have := Int.mul_nonneg (Int.le_of_lt h0) (sq_nn Y)
      omega
    rcases Int.lt_or_gt_of_ne this with g | g
    · exact .inr (.inl ⟨q, by omega⟩)
    · exact .inl (.inl ⟨q, g⟩)
theorem Pos.no (h : Pos D X Y) (g : Pos D (-X) (-Y)) : False := by
  unfold Pos at *
  rw [Int.neg_mul_neg, Int.neg_mul_neg] at g
  omega
theorem Pos.nz (h0 : 0 < D) (h : Pos D X Y) : ¬ (X = 0 ∧ Y = 0) := fun ⟨a, b⟩ => by
  subst a b
  unfold Pos at h
  omega
/-- the products of what stands across -/
theorem x1 (h0 : 0 < D) (h : D * (Y * Y) < X * X) (hx : 0 < X) (g : D * (Y' * Y') < X' * X') (gx : 0 < X') : -(X * X') < D * (Y * Y') ∧ D * (Y * Y') < X * X' := by
  refine abs_of (Int.le_of_lt (Int.mul_pos hx gx)) ?_
  have a1 := Int.mul_nonneg (Int.le_of_lt h0) (sq_nn Y)
  have a2 := Int.mul_nonneg (Int.le_of_lt h0) (sq_nn Y')
  have : D * (Y * Y) * (D * (Y' * Y')) < X * X * (X' * X') := Int.lt_of_le_of_lt (Int.mul_le_mul_of_nonneg_left (Int.le_of_lt g) a1) (Int.mul_lt_mul_of_pos_right h (Int.mul_pos gx gx))
  grind
theorem x3 (h0 : 0 < D) (h : X * X < D * (Y * Y)) (hy : 0 < Y) (g : X' * X' < D * (Y' * Y')) (gy : 0 < Y') : -(D * (Y * Y')) < X * X' ∧ X * X' < D * (Y * Y') := by
  refine abs_of (Int.le_of_lt (Int.mul_pos h0 (Int.mul_pos hy gy))) ?_
  have : X * X * (X' * X') < D * (Y * Y) * (D * (Y' * Y')) := Int.lt_of_le_of_lt (Int.mul_le_mul_of_nonneg_left (Int.le_of_lt g) (sq_nn X)) (Int.mul_lt_mul_of_pos_right h (Int.mul_pos h0 (Int.mul_pos gy gy)))
  grind
theorem x2 (h0 : 0 < D) (h : D * (Y * Y) < X * X) (hx : 0 < X) (g : X' * X' < D * (Y' * Y')) (gy : 0 < Y') : -(X * Y') < Y * X' ∧ Y * X' < X * Y' := by
  refine abs_of (Int.le_of_lt (Int.mul_pos hx gy)) ?_
  have a : Y * Y * (X' * X') ≤ Y * Y * (D * (Y' * Y')) := Int.mul_le_mul_of_nonneg_left (Int.le_of_lt g) (sq_nn Y)
  have b : D * (Y * Y) * (Y' * Y') < X * X * (Y' * Y') := Int.mul_lt_mul_of_pos_right h (Int.mul_pos gy gy)
  have e1 : Y * Y * (D * (Y' * Y')) = D * (Y * Y) * (Y' * Y') := by grind
  have e2 : Y * X' * (Y * X') = Y * Y * (X' * X') := by grind
  have e3 : X * Y' * (X * Y') = X * X * (Y' * Y') := by grind
  omega
theorem Pos.mul (h0 : 0 < D) (h : Pos D X Y) (g : Pos D X' Y') : Pos D (X * X' + D * (Y * Y')) (X * Y' + Y * X') := by
  have e : (X * X' + D * (Y * Y')) * (X * X' + D * (Y * Y')) - D * ((X * Y' + Y * X') * (X * Y' + Y * X')) = (X * X - D * (Y * Y)) * (X' * X' - D * (Y' * Y')) := by grind
  rcases h with ⟨h, hx⟩ | ⟨h, hx⟩ <;> rcases g with ⟨g, gx⟩ | ⟨g, gx⟩
  · left
    have := x1 h0 h hx g gx
    have p : 0 < (X * X - D * (Y * Y)) * (X' * X' - D * (Y' * Y')) := Int.mul_pos (by omega) (by omega)
    exact ⟨by omega, by omega⟩
  · right
    have := x2 h0 h hx g gx
    have p : (X * X - D * (Y * Y)) * (X' * X' - D * (Y' * Y')) < 0 := Int.mul_neg_of_pos_of_neg (by omega) (by omega)
    exact ⟨by omega, by omega⟩
  · right
    have := x2 h0 g gx h hx
    have p : (X * X - D * (Y * Y)) * (X' * X' - D * (Y' * Y')) < 0 := Int.mul_neg_of_neg_of_pos (by omega) (by omega)
    have e1 : X' * Y = Y * X' := Int.mul_comm ..
    have e2 : Y' * X = X * Y' := Int.mul_comm ..
    exact ⟨by omega, by omega⟩
  · left
    have := x3 h0 h hx g gx
    have p : 0 < (X * X - D * (Y * Y)) * (X' * X' - D * (Y' * Y')) := Int.mul_pos_of_neg_of_neg (by omega) (by omega)
    exact ⟨by omega, by omega⟩
theorem Pos.addM (hD : NS D) (h0 : 0 < D) (h : D * (Y * Y) < X * X) (hx : 0 < X) (g : X' * X' < D * (Y' * Y')) (gy : 0 < Y') : Pos D (X + X') (Y + Y') := by
  obtain ⟨m1, m2⟩ := x2 h0 h hx g gy
  by_cases hz : X + X' = 0 ∧ Y + Y' = 0
  · have a : X' = -X := by omega
    have b : Y' = -Y := by omega
    subst a b
    rw [Int.neg_mul_neg, Int.neg_mul_neg] at g
    omega
  rcases Int.lt_trichotomy ((X + X') * (X + X')) (D * ((Y + Y') * (Y + Y'))) with q | q | q
  · right
    refine ⟨q, Int.not_le.mp fun z => ?_⟩
    -- Y is - Y' or below
    have s1 : 0 < (X + X') * -Y := by
      have : 0 ≤ X * (-Y - Y') := Int.mul_nonneg (Int.le_of_lt hx) (by omega)
      grind
    have s2 : X * (-Y - Y') < (X + X') * -Y := by grind
    have s3 : 0 ≤ X * (-Y - Y') := Int.mul_nonneg (Int.le_of_lt hx) (by omega)
    have s4 := sq_lt (p := (X + X') * -Y) (q := X * (-Y - Y')) (by omega) s2
    have s5 : D * (Y * Y) * ((Y + Y') * (Y + Y')) ≤ X * X * ((Y + Y') * (Y + Y')) := Int.mul_le_mul_of_nonneg_right (Int.le_of_lt h) (sq_nn _)
    have s6 : (X + X') * (X + X') * (Y * Y) < D * ((Y + Y') * (Y + Y')) * (Y * Y) := Int.mul_lt_mul_of_pos_right q (sq_pos (by omega))
    grind
  · exact absurd (hD.ne q) hz
  · left
    refine ⟨q, Int.not_le.mp fun z => ?_⟩
    have s3 : 0 ≤ Y' * (-X' - X) := Int.mul_nonneg (Int.le_of_lt gy) (by omega)
    have s2 : Y' * (-X' - X) < (Y + Y') * -X' := by grind
    have s4 := sq_lt (p := (Y + Y') * -X') (q := Y' * (-X' - X)) (by omega) s2
    have s5 : X' * X' * ((Y + Y') * (Y + Y')) ≤ D * (Y' * Y') * ((Y + Y') * (Y + Y')) := Int.mul_le_mul_of_nonneg_right (Int.le_of_lt g) (sq_nn _)
    have s6 : D * ((Y + Y') * (Y + Y')) * (Y' * Y') < (X + X') * (X + X') * (Y' * Y') := Int.mul_lt_mul_of_pos_right q (sq_pos (by omega))
    grind
theorem Pos.add (hD : NS D) (h0 : 0 < D) (h : Pos D X Y) (g : Pos D X' Y') : Pos D (X + X') (Y + Y') := by
  rcases h with ⟨h, hx⟩ | ⟨h, hx⟩ <;> rcases g with ⟨g, gx⟩ | ⟨g, gx⟩
  · left
    have := x1 h0 h hx g gx
    refine ⟨?_, by omega⟩
    have e1 : D * ((Y + Y') * (Y + Y')) = D * (Y * Y) + 2 * (D * (Y * Y')) + D * (Y' * Y') := by grind
    have e2 : (X + X') * (X + X') = X * X + 2 * (X * X') + X' * X' := by grind
    omega
  · exact Pos.addM hD h0 h hx g gx
  · rw [Int.add_comm X, Int.add_comm Y]
    exact Pos.addM hD h0 g gx h hx
  · right
    have := x3 h0 h hx g gx
    refine ⟨?_, by omega⟩
    have e1 : D * ((Y + Y') * (Y + Y')) = D * (Y * Y) + 2 * (D * (Y * Y')) + D * (Y' * Y') := by grind
    have e2 : (X + X') * (X + X') = X * X + 2 * (X * X') + X' * X' := by grind
    omega
theorem Pos.int {k : Int} (h0 : 0 < D) : Pos D k 0 ↔ 0 < k := by
  unfold Pos
  constructor
  · rintro (⟨_, h⟩ | ⟨_, h⟩)
    · exact h
    · omega
  · intro h
    left
    have := Int.mul_pos h h
    exact ⟨by omega, h⟩
theorem Pos.scale {k : Int} (h0 : 0 < D) (hk : 0 < k) : Pos D (k * X) (k * Y) ↔ Pos D X Y := by
  unfold Pos
  have e1 : D * (k * Y * (k * Y)) = (k * k) * (D * (Y * Y)) := by grind
  have e2 : k * X * (k * X) = (k * k) * (X * X) := by grind
  have kk : 0 < k * k := Int.mul_pos hk hk
  have i1 : ∀ i : Int, 0 < k * i ↔ 0 < i := fun i => by
    constructor
    · intro h
      refine Int.not_le.mp fun z => ?_
      have := Int.mul_nonpos_of_nonneg_of_nonpos (Int.le_of_lt hk) z
      omega
    · exact fun h => Int.mul_pos hk h
  have i2 : ∀ i j : Int, (k * k) * i < (k * k) * j ↔ i < j := fun i j => by
    constructor
    · exact fun h => Int.lt_of_mul_lt_mul_left h (Int.le_of_lt kk)
    · exact fun h => Int.mul_lt_mul_of_pos_left h kk
  rw [e1, e2, i1, i1, i2, i2]
end
end N1

set_option Elab.async false
set_option linter.all false
set_option maxRecDepth 100000
set_option maxHeartbeats 4000000
set_option exponentiation.threshold 20000
namespace S
open N1
theorem sgn_pos {i : Int} (h : 0 < i) : sgn i = 1 := by unfold sgn; rw [if_pos h]
theorem sgn_ng {i : Int} (h : i < 0) : sgn i = -1 := by unfold sgn; rw [if_neg (by omega), if_pos h]
theorem sgn_z : sgn 0 = 0 := rfl
theorem sgn_cases (i : Int) : (0 < i ∧ sgn i = 1) ∨ (i < 0 ∧ sgn i = -1) ∨ (i = 0 ∧ sgn i = 0) := by
  rcases Int.lt_trichotomy i 0 with h | h | h
  · exact .inr (.inl ⟨h, sgn_ng h⟩)
  · exact .inr (.inr ⟨h, by rw [h]; rfl⟩)
  · exact .inl ⟨h, sgn_pos h⟩
theorem sgn_neg {i : Int} : sgn (-i) = -sgn i := by
  rcases sgn_cases i with ⟨h, e⟩ | ⟨h, e⟩ | ⟨h, e⟩
  · rw [e, sgn_ng (by omega)]
  · rw [e, sgn_pos (by omega)]; rfl
  · rw [h]; rfl
/-- the sign of X and Y times the root of D -/
def rs (D X Y : Int) : Int := if 0 ≤ sgn X * sgn Y then sgn (sgn X + sgn Y) else if Y * Y * D < X * X then sgn X else sgn Y
section
variable {D X Y : Int}
theorem rs_pos (h0 : 0 < D) (h : Pos D X Y) : rs D X Y = 1 := by
  unfold rs
  have e : Y * Y * D = D * (Y * Y) := Int.mul_comm ..
  rcases sgn_cases X with ⟨a, b⟩ | ⟨a, b⟩ | ⟨a, b⟩ <;> rcases sgn_cases Y with ⟨c, d⟩ | ⟨c, d⟩ | ⟨c, d⟩ <;> rw [b, d]
  · rfl
  · rw [if_neg (by decide)]
    rcases h with ⟨h, _⟩ | ⟨_, h⟩
    · rw [if_pos (by omega)]
    · omega
  · rfl
  · rw [if_neg (by decide)]
    rcases h with ⟨_, h⟩ | ⟨h, _⟩
    · omega
    · rw [if_neg (by omega)]
  · exfalso; unfold Pos at h; omega
  · exfalso; unfold Pos at h; omega
  · rfl
  · exfalso; unfold Pos at h; omega
  · exfalso; unfold Pos at h; omega
theorem rs_neg' : ¬ (X = 0 ∧ Y = 0) → NS D → 0 < D → rs D (-X) (-Y) = -rs D X Y := fun hz hD h0 => by
  unfold rs
  have q : ¬ Y * Y * D = X * X := fun z => hz (hD.ne (by rw [← z, Int.mul_comm]))
  rw [sgn_neg, sgn_neg, Int.neg_mul_neg, Int.neg_mul_neg, Int.neg_mul_neg]
  rcases sgn_cases X with ⟨a, b⟩ | ⟨a, b⟩ | ⟨a, b⟩ <;> rcases sgn_cases Y with ⟨c, d⟩ | ⟨c, d⟩ | ⟨c, d⟩ <;> rw [b, d] <;> first | rfl | (by_cases w : Y * Y * D < X * X <;> simp [w])
theorem rs_ng (hD : NS D) (h0 : 0 < D) (h : Pos D (-X) (-Y)) : rs D X Y = -1 := by
  have hz : ¬ (X = 0 ∧ Y = 0) := fun ⟨a, b⟩ => h.nz h0 ⟨by omega, by omega⟩
  have := rs_pos h0 h
  rw [rs_neg' hz hD h0] at this
  omega
end
/-- the sign of P, T times the root of D1, M times the root of D2 -/
def ro (D1 D2 P T M : Int) : Int := if rs D1 P T = sgn M then rs D1 P T else rs D1 P T * rs D1 (P * P + T * T * D1 - M * M * D2) (2 * P * T)
theorem ro_pos {D1 D2 P T M n X V : Int} (hD : NS D1) (h1 : 0 < D1) (h2 : 0 < D2) (hn : 0 < n) (hT : T ≠ 0) (eP : n * P = X + V) (px : Pos D1 X (n * T)) (pv : Pos D2 V (n * M)) : ro D1 D2 P T M = 1 := by
  have nn : 0 < n * n := Int.mul_pos hn hn
  have e4 : D2 * (n * M * (n * M)) = n * n * (M * M * D2) := by grind
  have sq := Pos.mul h1 px px
  unfold ro
  rcases pv with ⟨v1, v2⟩ | ⟨v1, v2⟩
  · have pa : Pos D1 P T := by
      rw [← Pos.scale h1 hn, eP]
      have := Pos.add hD h1 px ((Pos.int h1).mpr v2)
      rwa [Int.add_zero] at this
    rw [rs_pos h1 pa]
    have vv : 0 < V * V - n * n * (M * M * D2) := by omega
    have pm : Pos D1 (P * P + T * T * D1 - M * M * D2) (2 * P * T) := by
      rw [← Pos.scale h1 nn]
      have s1 := (Pos.scale (X := X) (Y := n * T) h1 (show 0 < 2 * V by omega)).mpr px
      have s2 := Pos.add hD h1 (Pos.add hD h1 sq s1) ((Pos.int h1).mpr vv)
      have g1 : X * X + D1 * (n * T * (n * T)) + 2 * V * X + (V * V - n * n * (M * M * D2)) = n * n * (P * P + T * T * D1 - M * M * D2) := by
        have : (n * P) * (n * P) = (X + V) * (X + V) := by rw [eP]
        grind
      have g2 : X * (n * T) + n * T * X + 2 * V * (n * T) + 0 = n * n * (2 * P * T) := by
        have : n * n * (2 * P * T) = 2 * (n * P) * (n * T) := by grind
        rw [this, eP]; grind
      rw [g1, g2] at s2
      exact s2
    rw [rs_pos h1 pm]
    split <;> rfl
  · have m0 : 0 < M := by
      refine Int.not_le.mp fun z => ?_
      have := Int.mul_nonpos_of_nonneg_of_nonpos (Int.le_of_lt hn) z
      omega
    rw [sgn_pos m0]
    rcases Pos.tri (X := P) (Y := T) hD h1 (fun z => hT z.2) with pa | pa
    · rw [rs_pos h1 pa, if_pos rfl]
    · rw [rs_ng hD h1 pa, if_neg (by decide)]
      have pg := (Pos.scale h1 hn).mpr pa
      have pbg := Pos.mul h1 px pg
      have vv : 0 < n * n * (M * M * D2) - V * V := by omega
      have pm : Pos D1 (-(P * P + T * T * D1 - M * M * D2)) (-(2 * P * T)) := by
        rw [← Pos.scale h1 nn]
        have s2 := Pos.add hD h1 (Pos.add hD h1 sq ((Pos.scale h1 (show (0 : Int) < 2 by decide)).mpr pbg)) ((Pos.int h1).mpr vv)
        have eV : V = n * P - X := by omega
        have g1 : X * X + D1 * (n * T * (n * T)) + 2 * (X * (n * -P) + D1 * (n * T * (n * -T))) + (n * n * (M * M * D2) - V * V) = n * n * -(P * P + T * T * D1 - M * M * D2) := by
          rw [eV]; grind
        have g2 : X * (n * T) + n * T * X + 2 * (X * (n * -T) + n * T * (n * -P)) + 0 = n * n * -(2 * P * T) := by grind
        rw [g1, g2] at s2
        exact s2
      rw [rs_ng hD h1 pm]
      rfl
theorem ro_neg {D1 D2 P T M : Int} (hD : NS D1) (h1 : 0 < D1) (hT : T ≠ 0) : ro D1 D2 (-P) (-T) (-M) = -ro D1 D2 P T M := by
  unfold ro
  rw [rs_neg' (fun z => hT z.2) hD h1, sgn_neg, Int.neg_mul_neg, Int.neg_mul_neg, Int.neg_mul_neg]
  have e : 2 * -P * -T = 2 * P * T := by grind
  rw [e]
  by_cases q : rs D1 P T = sgn M
  · rw [if_pos q, if_pos (by rw [q])]
  · rw [if_neg q, if_neg (by omega), Int.neg_mul]
/-- a root against itself -/
theorem ro_self {D P T M : Int} (hP : P = 0) (hM : M = -T) (hT : T ≠ 0) : ro D D P T M = 0 := by
  subst hP hM
  unfold ro
  have e1 : (0 : Int) * 0 + T * T * D - -T * -T * D = 0 := by rw [Int.neg_mul_neg]; omega
  have e2 : (2 : Int) * 0 * T = 0 := by simp
  rw [e1, e2]
  have z : rs D 0 0 = 0 := by
    unfold rs; rw [if_pos (by decide)]; rfl
  have r : rs D 0 T = sgn T := by
    unfold rs
    rcases sgn_cases T with ⟨a, b⟩ | ⟨a, b⟩ | ⟨a, b⟩ <;> rw [b, sgn_z] <;> rfl
  rw [z, r, sgn_neg, Int.mul_zero]
  rcases sgn_cases T with ⟨a, b⟩ | ⟨a, b⟩ | ⟨a, b⟩
  · rw [b, if_neg (by decide)]
  · rw [b, if_neg (by decide)]
  · exact absurd a hT
end S

set_option Elab.async false
set_option linter.all false
set_option maxRecDepth 100000
set_option maxHeartbeats 4000000
set_option exponentiation.threshold 20000
namespace S
open N1
/-! ### roots on the line -/
def sm (m : Bool) : Int := if m then 1 else -1
theorem sm_ne {m : Bool} : sm m ≠ 0 := by cases m <;> decide
/-- the square of a polynomial -/
def Dq (a b c : Int) : Int := b * b - 4 * a * c
/-- t by n is below the root -/
def Bel (a b c : Int) (m : Bool) (t n : Int) : Prop := Pos (Dq a b c) (-(2 * a * t + b * n)) (sm m * n)
def Abv (a b c : Int) (m : Bool) (t n : Int) : Prop := Pos (Dq a b c) (2 * a * t + b * n) (-(sm m * n))
structure Rt (a b c : Int) : Prop where
  a0 : 0 < a
  ns : NS (Dq a b c)
  d0 : 0 < Dq a b c
section
variable {a b c A B C t n : Int} {m k : Bool}
theorem Rt.dich (r : Rt a b c) (hn : 0 < n) : Bel a b c m t n ∨ Abv a b c m t n := by
  unfold Bel Abv
  have := Pos.tri (X := 2 * a * t + b * n) (Y := -(sm m * n)) r.ns r.d0 (fun z => by
    have : sm m * n ≠ 0 := Int.mul_ne_zero sm_ne (by omega)
    omega)
  rw [Int.neg_neg] at this
  exact this.symm
theorem Rt.no (h : Bel a b c m t n) (g : Abv a b c m t n) : False := by
  unfold Bel at h
  unfold Abv at g
  refine g.no ?_
  rwa [Int.neg_neg]
theorem ord_pos (r : Rt a b c) (s : Rt A B C) (hn : 0 < n) (h : Bel a b c m t n) (g : Abv A B C k t n) : ro (Dq a b c) (Dq A B C) (B * a - b * A) (sm m * A) (-sm k * a) = 1 := by
  refine ro_pos (n := n) (X := A * -(2 * a * t + b * n)) (V := a * (2 * A * t + B * n)) r.ns r.d0 s.d0 hn (Int.mul_ne_zero sm_ne (by have := s.a0; omega)) (by grind) ?_ ?_
  · have e : n * (sm m * A) = A * (sm m * n) := by grind
    rw [e]
    exact (Pos.scale r.d0 s.a0).mpr h
  · have e : n * (-sm k * a) = a * -(sm k * n) := by grind
    rw [e]
    exact (Pos.scale s.d0 r.a0).mpr g
theorem ord_neg (r : Rt a b c) (s : Rt A B C) (hn : 0 < n) (h : Abv a b c m t n) (g : Bel A B C k t n) : ro (Dq a b c) (Dq A B C) (B * a - b * A) (sm m * A) (-sm k * a) = -1 := by
  have hT : sm m * A ≠ 0 := Int.mul_ne_zero sm_ne (by have := s.a0; omega)
  have := ro_neg (D2 := Dq A B C) (P := B * a - b * A) (M := -sm k * a) r.ns r.d0 hT
  have q : ro (Dq a b c) (Dq A B C) (-(B * a - b * A)) (-(sm m * A)) (-(-sm k * a)) = 1 := by
    refine ro_pos (n := n) (X := A * (2 * a * t + b * n)) (V := a * -(2 * A * t + B * n)) r.ns r.d0 s.d0 hn (by omega) (by grind) ?_ ?_
    · have e : n * -(sm m * A) = A * -(sm m * n) := by grind
      rw [e]
      exact (Pos.scale r.d0 s.a0).mpr h
    · have e : n * -(-sm k * a) = a * (sm k * n) := by grind
      rw [e]
      exact (Pos.scale s.d0 r.a0).mpr g
  omega
theorem ord_self (r : Rt a b c) : ro (Dq a b c) (Dq a b c) (b * a - b * a) (sm m * a) (-sm m * a) = 0 :=
  ro_self (by omega) (by grind) (Int.mul_ne_zero sm_ne (by have := r.a0; omega))
/-- the floor of n times the root -/
def Fl (a b c : Int) (m : Bool) (n : Int) : Int := ((if m then isq (Dq a b c * (n * n)) else -isq (Dq a b c * (n * n)) - 1) - b * n).fdiv (2 * a)
theorem bel_iff (r : Rt a b c) (hn : 0 < n) : Bel a b c m t n ↔ 2 * a * t + b * n ≤ (if m then isq (Dq a b c * (n * n)) else -isq (Dq a b c * (n * n)) - 1) := by
  have dn : 0 < Dq a b c * (n * n) := Int.mul_pos r.d0 (Int.mul_pos hn hn)
  obtain ⟨s0, s1, s2⟩ := isq_spec (Int.le_of_lt dn)
  have ne : ∀ u : Int, u * u ≠ Dq a b c * (n * n) := fun u z => by
    have := (r.ns.ne z).2
    omega
  unfold Bel Pos
  generalize 2 * a * t + b * n = u
  have nu := ne u
  generalize isq (Dq a b c * (n * n)) = s at *
  rw [Int.neg_mul_neg]
  cases m with
  | true =>
    have e : sm true * n = n := Int.one_mul n
    rw [e]
    rw [if_pos rfl]
    constructor
    · rintro (⟨_, h⟩ | ⟨h, _⟩)
      · omega
      · have := (abs_of (p := s + 1) (q := u) (by omega) (by omega)).2
        omega
    · intro h
      by_cases u0 : u < 0
      · rcases Int.lt_or_gt_of_ne nu with q | q
        · exact .inr ⟨q, hn⟩
        · exact .inl ⟨q, by omega⟩
      · right
        have := Int.mul_le_mul h h (by omega) s0
        exact ⟨by omega, hn⟩
  | false =>
    have e : sm false * n = -n := by show -1 * n = -n; omega
    rw [e]
    rw [if_neg (by decide)]
    rw [Int.neg_mul_neg]
    constructor
    · rintro (⟨h, g⟩ | ⟨_, g⟩)
      · have : ¬ -s ≤ u := fun z => by
          have := Int.mul_le_mul (show -u ≤ s by omega) (show -u ≤ s by omega) (by omega) s0
          rw [Int.neg_mul_neg] at this
          omega
        omega
      · omega
    · intro h
      left
      have := Int.mul_le_mul (show s + 1 ≤ -u by omega) (show s + 1 ≤ -u by omega) (by omega) (by omega)
      rw [Int.neg_mul_neg] at this
      exact ⟨by omega, by omega⟩
theorem le_fdiv {x y d : Int} (h : 0 < d) : d * x ≤ y ↔ x ≤ y.fdiv d := by
  rw [Int.fdiv_eq_ediv_of_nonneg _ (by omega), Int.le_ediv_iff_mul_le h, Int.mul_comm]
theorem bel_fl (r : Rt a b c) (hn : 0 < n) : Bel a b c m t n ↔ t ≤ Fl a b c m n := by
  rw [bel_iff r hn]
  unfold Fl
  rw [← le_fdiv (by have := r.a0; omega)]
  omega
theorem abv_fl (r : Rt a b c) (hn : 0 < n) : Abv a b c m t n ↔ Fl a b c m n < t := by
  rw [← Int.not_le, ← bel_fl (m := m) r hn]
  constructor
  · exact fun g h => Rt.no h g
  · exact fun h => (r.dich hn).resolve_left h
/-- by the polynomial's sign -/
theorem bel_val0 (r : Rt a b c) (hn : 0 < n) : (if a * t * t + b * t * n + c * n * n < 0 then m else decide (2 * a * t + b * n < 0)) = true ↔ Bel a b c m t n := by
  have e : 4 * a * (a * t * t + b * t * n + c * n * n) = (2 * a * t + b * n) * (2 * a * t + b * n) - Dq a b c * (n * n) := by unfold Dq; grind
  have nu : (2 * a * t + b * n) * (2 * a * t + b * n) ≠ Dq a b c * (n * n) := fun z => by
    have := (r.ns.ne z).2
    omega
  have a0 := r.a0
  unfold Bel Pos
  generalize a * t * t + b * t * n + c * n * n = v at *
  generalize 2 * a * t + b * n = u at *
  rw [Int.neg_mul_neg]
  have e1 : sm true * n = n := Int.one_mul n
  have e2 : sm false * n = -n := by show -1 * n = -n; omega
  by_cases hv : v < 0
  · rw [if_pos hv]
    have : 4 * a * v < 0 := Int.mul_neg_of_pos_of_neg (by omega) hv
    cases m with
    | true =>
      rw [e1]
      exact ⟨fun _ => .inr ⟨by omega, hn⟩, fun _ => rfl⟩
    | false =>
      rw [e2, Int.neg_mul_neg]
      exact ⟨fun h => (nomatch h), by omega⟩
  · rw [if_neg hv, decide_eq_true_iff]
    have : 0 ≤ 4 * a * v := Int.mul_nonneg (by omega) (by omega)
    cases m with
    | true =>
      rw [e1]
      constructor
      · exact fun h => .inl ⟨by omega, by omega⟩
      · omega
    | false =>
      rw [e2, Int.neg_mul_neg]
      constructor
      · exact fun h => .inl ⟨by omega, by omega⟩
      · omega
theorem bel_val (r : Rt a b c) (hn : 0 < n) : (if a * t * t + b * t * n + c * n * n < 0 then m else decide (2 * a * t + b * n < 0)) = decide (t ≤ Fl a b c m n) := by
  rw [Bool.eq_iff_iff, bel_val0 r hn, decide_eq_true_iff, bel_fl r hn]
/-- the sign against a fraction -/
theorem rs_bel (r : Rt a b c) (hn : 0 < n) : rs (Dq a b c) (-b * n - 2 * a * t) (sm m * n) = if t ≤ Fl a b c m n then 1 else -1 := by
  have e : -b * n - 2 * a * t = -(2 * a * t + b * n) := by grind
  rw [e]
  by_cases h : t ≤ Fl a b c m n
  · rw [if_pos h]
    exact rs_pos r.d0 ((bel_fl r hn).mpr h)
  · rw [if_neg h]
    refine rs_ng r.ns r.d0 ?_
    rw [Int.neg_neg]
    exact (abv_fl (m := m) r hn).mpr (by omega)
/-- fractions told otherwise -/
theorem bel_scale {g : Int} (r : Rt a b c) (hg : 0 < g) : Bel a b c m (t * g) (n * g) ↔ Bel a b c m t n := by
  unfold Bel
  have e1 : -(2 * a * (t * g) + b * (n * g)) = g * -(2 * a * t + b * n) := by grind
  have e2 : sm m * (n * g) = g * (sm m * n) := by grind
  rw [e1, e2]
  exact Pos.scale r.d0 hg
theorem fl_scale {g : Int} (r : Rt a b c) (hn : 0 < n) (hg : 0 < g) : t * g ≤ Fl a b c m (n * g) ↔ t ≤ Fl a b c m n := by
  rw [← bel_fl r (Int.mul_pos hn hg), ← bel_fl r hn, bel_scale r hg]
end
end S

set_option Elab.async false
set_option linter.all false
set_option maxRecDepth 100000
set_option maxHeartbeats 4000000
set_option exponentiation.threshold 20000
namespace S
open N1
/-- at most so great -/
def Q (K : Int) (i : Int) : Prop := -K ≤ i ∧ i ≤ K
theorem Q.mul {K L i j : Int} (h : Q K i) (g : Q L j) : Q (K * L) (i * j) := by
  obtain ⟨h1, h2⟩ := h
  obtain ⟨g1, g2⟩ := g
  have a : 0 ≤ (K - i) * (L + j) := Int.mul_nonneg (by omega) (by omega)
  have b : 0 ≤ (K + i) * (L - j) := Int.mul_nonneg (by omega) (by omega)
  have c : 0 ≤ (K - i) * (L - j) := Int.mul_nonneg (by omega) (by omega)
  have d : 0 ≤ (K + i) * (L + j) := Int.mul_nonneg (by omega) (by omega)
  unfold Q
  grind
theorem Q.add {K L i j : Int} (h : Q K i) (g : Q L j) : Q (K + L) (i + j) := by unfold Q at *; omega
theorem Q.sub {K L i j : Int} (h : Q K i) (g : Q L j) : Q (K + L) (i - j) := by unfold Q at *; omega
theorem Q.neg {K i : Int} (h : Q K i) : Q K (-i) := by unfold Q at *; omega
theorem Q.le {K L i : Int} (h : Q K i) (g : K ≤ L) : Q L i := by unfold Q at *; omega
section
variable {a b c A B C t n N G : Int} {m k : Bool}
/-- where the halving begins -/
theorem bel_low (r : Rt a b c) (hn : 0 < n) : Bel a b c m (0 - (2 + (b.natAbs : Int) + (c.natAbs : Int)) * n) n := by
  have a0 := r.a0
  unfold Bel Pos
  left
  generalize hM : 2 + (b.natAbs : Int) + (c.natAbs : Int) = M
  have e1 : -(2 * a * (0 - M * n) + b * n) = n * (2 * a * M - b) := by grind
  have e2 : sm m * n * (sm m * n) = n * n := by cases m <;> simp [sm, Int.neg_mul_neg]
  rw [e1, e2]
  have k0 : 0 < M := by omega
  have k1 : 1 * M ≤ a * M := Int.mul_le_mul_of_nonneg_right (by omega) (by omega)
  have k2 : 0 < 2 * a * M - b := by
    have : 2 * a * M = 2 * (a * M) := by grind
    omega
  refine ⟨?_, Int.mul_pos hn k2⟩
  have nn : 0 < n * n := Int.mul_pos hn hn
  have e3 : n * (2 * a * M - b) * (n * (2 * a * M - b)) = Dq a b c * (n * n) + 4 * a * (a * M * M - b * M + c) * (n * n) := by unfold Dq; grind
  have k3 : 0 < a * M * M - b * M + c := by
    have h1 : M * 1 ≤ M * (a * M - b) := Int.mul_le_mul_of_nonneg_left (by
      have : b ≤ (b.natAbs : Int) := by omega
      omega) (by omega)
    have : a * M * M - b * M + c = M * (a * M - b) + c := by grind
    omega
  have k4 : 0 < 4 * a * (a * M * M - b * M + c) * (n * n) := Int.mul_pos (Int.mul_pos (by omega) k3) nn
  omega
theorem abv_high (r : Rt a b c) (hn : 0 < n) : Abv a b c m ((2 + (b.natAbs : Int) + (c.natAbs : Int)) * n) n := by
  have a0 := r.a0
  unfold Abv Pos
  left
  generalize hM : 2 + (b.natAbs : Int) + (c.natAbs : Int) = M
  have e1 : 2 * a * (M * n) + b * n = n * (2 * a * M + b) := by grind
  have e2 : -(sm m * n) * -(sm m * n) = n * n := by cases m <;> simp [sm, Int.neg_mul_neg]
  rw [e1, e2]
  have k0 : 0 < M := by omega
  have k1 : 1 * M ≤ a * M := Int.mul_le_mul_of_nonneg_right (by omega) (by omega)
  have k2 : 0 < 2 * a * M + b := by
    have : 2 * a * M = 2 * (a * M) := by grind
    omega
  refine ⟨?_, Int.mul_pos hn k2⟩
  have nn : 0 < n * n := Int.mul_pos hn hn
  have e3 : n * (2 * a * M + b) * (n * (2 * a * M + b)) = Dq a b c * (n * n) + 4 * a * (a * M * M + b * M + c) * (n * n) := by unfold Dq; grind
  have k3 : 0 < a * M * M + b * M + c := by
    have h1 : M * 1 ≤ M * (a * M + b) := Int.mul_le_mul_of_nonneg_left (by
      have : -(b.natAbs : Int) ≤ b := by omega
      omega) (by omega)
    have : a * M * M + b * M + c = M * (a * M + b) + c := by grind
    omega
  have k4 : 0 < 4 * a * (a * M * M + b * M + c) * (n * n) := Int.mul_pos (Int.mul_pos (by omega) k3) nn
  omega
theorem fl_ends (r : Rt a b c) (hn : 0 < n) : 0 - (2 + (b.natAbs : Int) + (c.natAbs : Int)) * n ≤ Fl a b c m n ∧ Fl a b c m n < (2 + (b.natAbs : Int) + (c.natAbs : Int)) * n :=
  ⟨(bel_fl r hn).mp (bel_low r hn), (abv_fl r hn).mp (abv_high r hn)⟩
theorem Pos.sq {D X Y k : Int} (hk : 0 < k) : Pos (D * (k * k)) X Y ↔ Pos D X (k * Y) := by
  unfold Pos
  have e : D * (k * k) * (Y * Y) = D * (k * Y * (k * Y)) := by grind
  have i1 : 0 < k * Y ↔ 0 < Y := by
    constructor
    · intro h
      refine Int.not_le.mp fun z => ?_
      have := Int.mul_nonpos_of_nonneg_of_nonpos (Int.le_of_lt hk) z
      omega
    · exact fun h => Int.mul_pos hk h
  rw [e, i1]
/-- a root moved by 1 by n -/
theorem mvd (r : Rt a b c) (hn : 0 < n) (hG : 0 < G) (hA : 0 < A) (e1 : a * n * n = A * G) (e2 : b * n * n - 2 * a * n = B * G) (e3 : a - b * n + c * n * n = C * G) : Rt A B C ∧ ∀ m t, Bel A B C m t n ↔ Bel a b c m (t - 1) n := by
  have nn : 0 < n * n := Int.mul_pos hn hn
  have eD : Dq A B C * (G * G) = Dq a b c * (n * n * (n * n)) := by
    unfold Dq
    have : (B * B - 4 * A * C) * (G * G) = (B * G) * (B * G) - 4 * (A * G) * (C * G) := by grind
    rw [this, ← e1, ← e2, ← e3]
    grind
  refine ⟨⟨hA, fun i hi => ?_, ?_⟩, fun m t => ?_⟩
  · have := (r.ns.ne (X := i * G) (Y := n * n) (by
      rw [← eD, ← hi]; grind)).2
    omega
  · refine Int.not_le.mp fun z => ?_
    have h1 := Int.mul_nonneg_of_nonpos_of_nonpos z (show -(G * G) ≤ 0 by have := Int.mul_pos hG hG; omega)
    have h2 := Int.mul_pos r.d0 (Int.mul_pos nn nn)
    rw [← eD] at h2
    rw [Int.mul_neg] at h1
    omega
  · unfold Bel
    rw [← Pos.scale (D := Dq A B C) (k := G) (by
      refine Int.not_le.mp fun z => ?_
      have h1 := Int.mul_nonneg_of_nonpos_of_nonpos z (show -(G * G) ≤ 0 by have := Int.mul_pos hG hG; omega)
      have h2 := Int.mul_pos r.d0 (Int.mul_pos nn nn)
      rw [← eD] at h2
      rw [Int.mul_neg] at h1
      omega) hG, ← Pos.sq hG, eD, Pos.sq nn]
    have q : G * -(2 * A * t + B * n) = n * n * -(2 * a * (t - 1) + b * n) := by
      have : G * -(2 * A * t + B * n) = -(2 * (A * G) * t + (B * G) * n) := by grind
      rw [this, ← e1, ← e2]; grind
    rw [q, Pos.scale r.d0 nn]
/-- its order -/
theorem mvd_ord (r : Rt a b c) (hn : 0 < n) (s : Rt A B C) (h : ∀ m t, Bel A B C m t n ↔ Bel a b c m (t - 1) n) : ∃ t, Abv a b c m t n ∧ Bel A B C m t n :=
  ⟨Fl a b c m n + 1, (abv_fl r hn).mpr (by omega), (h m _).mpr ((bel_fl r hn).mpr (by omega))⟩
end
end S

set_option Elab.async false
set_option linter.all false
set_option maxRecDepth 100000
set_option maxHeartbeats 4000000
set_option exponentiation.threshold 20000
namespace S
open N1
section
variable {a b c A B C t : Int} {m k : Bool}
abbrev NN : Int := 10 ^ 90
theorem isq_le {x y : Int} (hx : 0 ≤ x) (hy : 0 ≤ y) (h : x ≤ y * y) : isq x ≤ y := by
  obtain ⟨s0, s1, s2⟩ := isq_spec hx
  refine Int.not_lt.mp fun z => ?_
  have := Int.mul_le_mul (show y + 1 ≤ isq x by omega) (show y + 1 ≤ isq x by omega) (by omega) s0
  have e : (y + 1) * (y + 1) = y * y + 2 * y + 1 := by grind
  omega
/-- close to a root the polynomial is little -/
theorem val_le (r : Rt a b c) (ha : Q (10 ^ 9) a) (hb : Q (10 ^ 9) b) (hc : Q (10 ^ 9) c) (h : Bel a b c m t NN) (g : Abv a b c m (t + 1) NN) :
    Q (30 * 10 ^ 18 * 10 ^ 90) (a * t * t + b * t * NN + c * NN * NN) ∧ Q (5 * 10 ^ 9 * 10 ^ 90) t := by
  have hn : (0 : Int) < NN := by decide +kernel
  have a0 := r.a0
  have dn : 0 < Dq a b c * (NN * NN) := Int.mul_pos r.d0 (Int.mul_pos hn hn)
  obtain ⟨s0, s1, s2⟩ := isq_spec (Int.le_of_lt dn)
  have h' := (bel_iff r hn).mp h
  have g' := mt (bel_iff r hn).mpr (fun z => Rt.no z g)
  have qD : Q (5 * 10 ^ 18) (Dq a b c) := by
    have h1 := hb.mul hb
    have h2 := (Q.mul (K := 4) (i := 4) ⟨by decide, by decide⟩ ha).mul hc
    exact (h1.sub h2).le (by decide +kernel)
  have sl : isq (Dq a b c * (NN * NN)) ≤ 3 * 10 ^ 9 * 10 ^ 90 := by
    refine isq_le (Int.le_of_lt dn) (by decide +kernel) ?_
    have := (qD.mul (Q.mul (K := NN) (i := NN) (L := NN) (j := NN) ⟨by decide +kernel, by decide +kernel⟩ ⟨by decide +kernel, by decide +kernel⟩)).2
    exact Int.le_trans this (by decide +kernel)
  have eV : 4 * a * (a * t * t + b * t * NN + c * NN * NN) = (2 * a * t + b * NN) * (2 * a * t + b * NN) - Dq a b c * (NN * NN) := by unfold Dq; grind
  have e1 : 2 * a * (t + 1) + b * NN = 2 * a * t + b * NN + 2 * a := by grind
  rw [e1] at g'
  have qbN : Q (10 ^ 9 * 10 ^ 90) (b * NN) := hb.mul ⟨by decide +kernel, by decide +kernel⟩
  have et : 2 * a * t = (2 * a * t + b * NN) - b * NN := by omega
  generalize hv : a * t * t + b * t * NN + c * NN * NN = v at *
  generalize hu : 2 * a * t + b * NN = u at *
  generalize hd : Dq a b c * (NN * NN) = d at *
  generalize hs : isq d = s at *
  have key : ∃ δ, u * u = (s + δ) * (s + δ) ∧ Q (2 * a) δ ∧ Q (s + 2 * a) u := by
    cases m with
    | true =>
      rw [if_pos rfl] at h' g'
      exact ⟨u - s, by rw [show s + (u - s) = u by omega], by unfold Q; omega, by unfold Q; omega⟩
    | false =>
      rw [if_neg (by decide)] at h' g'
      exact ⟨-u - s, by rw [show s + (-u - s) = -u by omega, Int.neg_mul_neg], by unfold Q; omega, by unfold Q; omega⟩
  obtain ⟨δ, ed, qd, qu⟩ := key
  have qδ : Q (2 * 10 ^ 9) δ := qd.le (by have := ha.2; omega)
  have qs : Q (3 * 10 ^ 9 * 10 ^ 90) s := ⟨by omega, sl⟩
  have q1 := qδ.mul ((Q.mul (K := 2) (i := 2) ⟨by decide, by decide⟩ qs).add qδ)
  have e3 : (s + δ) * (s + δ) = s * s + δ * (2 * s + δ) := by grind
  have e4 : (s + 1) * (s + 1) = s * s + 2 * s + 1 := by grind
  have big1 : (2 * 10 ^ 9 * (2 * (3 * 10 ^ 9 * 10 ^ 90) + 2 * 10 ^ 9) : Int) + 2 * (3 * 10 ^ 9 * 10 ^ 90) + 1 ≤ 30 * 10 ^ 18 * 10 ^ 90 := by decide +kernel
  have qv4 : Q (30 * 10 ^ 18 * 10 ^ 90) (4 * a * v) := by
    rw [eV, ed, e3]
    generalize δ * (2 * s + δ) = z at *
    unfold Q at *
    omega
  have big : ∀ x y K : Int, 0 < y → Q K (y * x) → Q K x := fun x y K hy h => by
    unfold Q at *
    by_cases x0 : 0 ≤ x
    · have := Int.mul_le_mul_of_nonneg_right (show 1 ≤ y by omega) x0
      omega
    · have := Int.mul_le_mul_of_nonneg_right (show 1 ≤ y by omega) (show 0 ≤ -x by omega)
      rw [Int.one_mul, Int.mul_neg] at this
      omega
  refine ⟨big _ _ _ (by omega) qv4, ?_⟩
  have qu2 : Q (3 * 10 ^ 9 * 10 ^ 90 + 2 * 10 ^ 9) u := qu.le (by have := ha.2; omega)
  have : Q (3 * 10 ^ 9 * 10 ^ 90 + 2 * 10 ^ 9 + 10 ^ 9 * 10 ^ 90) (2 * a * t) := by
    rw [et]
    exact qu2.sub qbN
  exact (big _ _ _ (by omega) this).le (by decide +kernel)
/-- roots that are this close are one -/
theorem close (r : Rt a b c) (r' : Rt A B C) (ha : Q (10 ^ 9) a) (hb : Q (10 ^ 9) b) (hc : Q (10 ^ 9) c) (ha' : Q (10 ^ 9) A) (hb' : Q (10 ^ 9) B) (hc' : Q (10 ^ 9) C) (e : Fl a b c m NN = Fl A B C k NN) : A * b = a * B ∧ A * c = a * C ∧ m = k := by
  have hn : (0 : Int) < NN := by decide +kernel
  have f1 := (bel_fl (m := m) (t := Fl a b c m NN) r hn).mpr (Int.le_refl _)
  have f2 := (abv_fl (m := m) (t := Fl a b c m NN + 1) r hn).mpr (by omega)
  have g1 := (bel_fl (m := k) (t := Fl a b c m NN) r' hn).mpr (by omega)
  have g2 := (abv_fl (m := k) (t := Fl a b c m NN + 1) r' hn).mpr (by omega)
  generalize Fl a b c m NN = t at *
  obtain ⟨q1, qt⟩ := val_le r ha hb hc f1 f2
  obtain ⟨q2, _⟩ := val_le r' ha' hb' hc' g1 g2
  have qN : Q (10 ^ 90) NN := ⟨by decide +kernel, by decide +kernel⟩
  have qp : Q (2 * 10 ^ 18) (A * b - a * B) := ((ha'.mul hb).sub (ha.mul hb')).le (by decide +kernel)
  have ez : A * (a * t * t + b * t * NN + c * NN * NN) - a * (A * t * t + B * t * NN + C * NN * NN) = NN * ((A * b - a * B) * t + (A * c - a * C) * NN) := by grind
  have qe0 : Q (60 * 10 ^ 27 * 10 ^ 90) (NN * ((A * b - a * B) * t + (A * c - a * C) * NN)) := by
    rw [← ez]
    exact ((ha'.mul q1).sub (ha.mul q2)).le (by decide +kernel)
  have eE : (A * c - a * C) * NN = ((A * b - a * B) * t + (A * c - a * C) * NN) - (A * b - a * B) * t := by omega
  have eW : NN * NN * (a * ((A * c - a * C) * (A * c - a * C)) - b * ((A * b - a * B) * (A * c - a * C)) + c * ((A * b - a * B) * (A * b - a * B))) = (A * b - a * B) * (A * b - a * B) * (a * t * t + b * t * NN + c * NN * NN) + a * (((A * b - a * B) * t + (A * c - a * C) * NN) * ((A * b - a * B) * t + (A * c - a * C) * NN)) - 2 * a * ((A * b - a * B) * t + (A * c - a * C) * NN) * ((A * b - a * B) * t) - b * ((A * b - a * B)) * NN * ((A * b - a * B) * t + (A * c - a * C) * NN) := by
    generalize A * b - a * B = p
    generalize A * c - a * C = q
    generalize NN = N
    grind
  generalize hp : A * b - a * B = p at *
  generalize hq : A * c - a * C = q at *
  generalize he : p * t + q * NN = ε at *
  generalize hv : a * t * t + b * t * NN + c * NN * NN = v at *
  have qε : Q (60 * 10 ^ 27) ε := by
    have h : Q (60 * 10 ^ 27 * NN) (NN * ε) := qe0
    unfold Q at *
    constructor
    · refine Int.not_lt.mp fun z => ?_
      have := Int.mul_le_mul_of_nonneg_left (show ε + 1 ≤ -(60 * 10 ^ 27) by omega) (Int.le_of_lt hn)
      rw [Int.mul_add, Int.mul_neg, Int.mul_one, Int.mul_comm NN (60 * 10 ^ 27)] at this
      omega
    · refine Int.not_lt.mp fun z => ?_
      have := Int.mul_le_mul_of_nonneg_left (show 60 * 10 ^ 27 + 1 ≤ ε by omega) (Int.le_of_lt hn)
      rw [Int.mul_add, Int.mul_one, Int.mul_comm NN (60 * 10 ^ 27)] at this
      omega
  have p0 : p = 0 := Classical.byContradiction fun hp0 => by
    have w0 : a * (q * q) - b * (p * q) + c * (p * p) ≠ 0 := fun z => by
      have : (2 * a * q - b * p) * (2 * a * q - b * p) = Dq a b c * (p * p) := by
        have : (2 * a * q - b * p) * (2 * a * q - b * p) - Dq a b c * (p * p) = 4 * a * (a * (q * q) - b * (p * q) + c * (p * p)) := by unfold Dq; grind
        rw [z, Int.mul_zero] at this
        omega
      exact hp0 (r.ns.ne this).2
    have qR := ((((qp.mul qp).mul q1).add (ha.mul (qε.mul qε))).sub (((Q.mul (K := 2) (i := 2) ⟨by decide, by decide⟩ ha).mul qε).mul (qp.mul qt))).sub (((hb.mul qp).mul qN).mul qε)
    rw [← eW] at qR
    have qR2 := qR.le (L := 10 ^ 178) (by decide +kernel)
    generalize a * (q * q) - b * (p * q) + c * (p * p) = w at *
    have n2 : NN * NN = 10 ^ 180 := by decide +kernel
    rw [n2] at qR2
    unfold Q at qR2
    omega
  have q0 : q = 0 := by
    rw [p0, Int.zero_mul, Int.zero_add] at he
    unfold Q at qε
    rw [← he] at qε
    have nn : NN = 10 ^ 90 := rfl
    rw [nn] at qε
    omega
  refine ⟨by omega, by omega, ?_⟩
  have sep : ∀ {a b c A B C : Int} (r : Rt a b c) (r' : Rt A B C), Q (10 ^ 9) a → A * b = a * B → A * c = a * C → Bel a b c false t NN → Abv a b c false (t + 1) NN → Bel A B C true t NN → Abv A B C true (t + 1) NN → False := fun {a b c A B C} r r' ha h1 h2 f1 f2 g1 g2 => by
    -- the other one, of the same polynomial
    have key : ∀ t, Bel A B C true t NN ↔ Bel a b c true t NN := fun t => by
      unfold Bel
      have eD : Dq A B C * (a * a) = Dq a b c * (A * A) := by
        unfold Dq
        have : (B * B - 4 * A * C) * (a * a) = (a * B) * (a * B) - 4 * A * a * (a * C) := by grind
        rw [this, ← h1, ← h2]; grind
      have e2 : a * -(2 * A * t + B * NN) = A * -(2 * a * t + b * NN) := by
        have : a * -(2 * A * t + B * NN) = -(2 * A * a * t + (a * B) * NN) := by grind
        rw [this, ← h1]; grind
      rw [← Pos.scale r'.d0 r.a0, ← Pos.sq r.a0, eD, e2, Pos.sq r'.a0, Pos.scale r.d0 r'.a0]
    have b1 := (bel_iff r hn).mp f1
    have b2 := mt (bel_iff (m := true) r hn).mpr (fun z => Rt.no ((key _).mpr z) g2)
    rw [if_neg (by decide)] at b1
    rw [if_pos rfl] at b2
    have e1 : 2 * a * (t + 1) + b * NN = 2 * a * t + b * NN + 2 * a := by grind
    rw [e1] at b2
    have dn : 0 < Dq a b c * (NN * NN) := Int.mul_pos r.d0 (Int.mul_pos hn hn)
    obtain ⟨s0, s1, s2⟩ := isq_spec (Int.le_of_lt dn)
    have d1 : 1 * (NN * NN) ≤ Dq a b c * (NN * NN) := Int.mul_le_mul_of_nonneg_right (by have := r.d0; omega) (by decide +kernel)
    have := ha.2
    have sN : ¬ isq (Dq a b c * (NN * NN)) + 1 ≤ 10 ^ 80 := fun z => by
      have := Int.mul_le_mul z z (by omega) (by decide +kernel)
      have : (10 ^ 80 * 10 ^ 80 : Int) < 1 * (NN * NN) := by decide +kernel
      omega
    omega
  cases m <;> cases k
  · rfl
  · exact (sep r r' ha (by omega) (by omega) f1 f2 g1 g2).elim
  · exact (sep r' r ha' (by omega) (by omega) g1 g2 f1 f2).elim
  · rfl
end
end S

set_option Elab.async false
set_option linter.all false
set_option maxRecDepth 100000
set_option maxHeartbeats 4000000
set_option exponentiation.threshold 20000
namespace S
open PySem L2 MP N1
theorem Q.bd {K i : Int} (h : Q K i) (g : K ≤ 10 ^ 2000) : Bd i := by
  have : i.natAbs ≤ 10 ^ 2000 := by
    have e : ((10 ^ 2000 : Nat) : Int) = 10 ^ 2000 := by rw [Int.natCast_pow]; rfl
    unfold Q at h
    omega
  exact Nat.lt_of_le_of_lt this (by decide +kernel)
theorem Q.sml {K i : Int} (h : Q K i) (g : K < 10 ^ 300) : Sm i := by
  have e : ((10 ^ 300 : Nat) : Int) = 10 ^ 300 := by rw [Int.natCast_pow]; rfl
  unfold Q at h
  unfold Sm
  omega
theorem Q2 : Q 2 2 := ⟨by decide, by decide⟩
theorem Q4 : Q 4 4 := ⟨by decide, by decide⟩
theorem Qsm {m : Bool} : Q 1 (sm m) := by cases m <;> exact ⟨by decide, by decide⟩
theorem Qneg {K i : Int} (h : Q K i) : Q K (-i) := h.neg
abbrev W : Int := 10 ^ 150
abbrev rt (a b c : Int) (m : Bool) : D := .tup [.int a, .int b, .int c, .bl m]
theorem qD {a b c : Int} (ha : Q W a) (hb : Q W b) (hc : Q W c) : Q (5 * W * W) (Dq a b c) := ((hb.mul hb).sub ((Q4.mul ha).mul hc)).le (by decide +kernel)
section
variable {P : Nat → Option FDef} {ι : Ix} {n : Nat} {st : DS} {a b c A B C : Int} {m k : Bool}
theorem rsign_eq (h : Hs P ι [32, 34]) {X Y D : Int} (hX : Bd X) (hY : Bd Y) (hYY : Bd (Y * Y)) (hD : Bd D) : callN P (n + 2) (ι.f 32) [.int X, .int Y, .int D] st = .ok (.int (rs D X Y)) st := by
  obtain ⟨x, e⟩ := h32 h rfl
  rw [call_eq e rfl rfl (by show 3 ≤ 5; decide)]
  have s := fun i => sign_eq' (n := n) (st := st) (h.mono (m := [34]) (by decide)) (i := i)
  have qs : ∀ i, Bd (sgn i) := fun i => by
    rcases sgn_cases i with ⟨_, e⟩ | ⟨_, e⟩ | ⟨_, e⟩ <;> rw [e] <;> exact Bd.lit (by decide)
  have m0 := b_mulB (st := st) (qs X) (qs Y)
  have m1 := b_mulB (st := st) hX hX
  have m2 := b_mulB (st := st) hY hY
  have m3 := b_mulB (st := st) hYY hD
  unfold rs
  by_cases q : 0 ≤ sgn X * sgn Y
  · simp [PG.circlenumbers_rooted_sign, s, m0, q]
  · by_cases w : Y * Y * D < X * X
    · simp [PG.circlenumbers_rooted_sign, s, m0, q, m1, m2, m3, w]
    · simp [PG.circlenumbers_rooted_sign, s, m0, q, m1, m2, m3, w]
theorem square_eq (h : Hs P ι [35]) (ha : Q W a) (hb : Q W b) (hc : Q W c) : callN P (n + 1) (ι.f 35) [rt a b c m] st = .ok (.int (Dq a b c)) st := by
  obtain ⟨x, e⟩ := h35 h rfl
  rw [call_eq e rfl rfl (by show 1 ≤ 1; decide)]
  have m1 := b_mulB (st := st) (hb.bd (by decide +kernel)) (hb.bd (by decide +kernel))
  have m2 := b_mulB (st := st) (Q4.bd (by decide +kernel)) (ha.bd (by decide +kernel))
  have m3 := b_mulB (st := st) ((Q4.mul ha).bd (by decide +kernel)) (hc.bd (by decide +kernel))
  simp [PG.circlenumbers_square_of, m1, m2, m3, Dq]
theorem times_eq (h : Hs P ι [36]) : callN P (n + 1) (ι.f 36) [rt a b c m] st = .ok (.int (sm m)) st := by
  obtain ⟨x, e⟩ := h36 h rfl
  rw [call_eq e rfl rfl (by show 1 ≤ 1; decide)]
  cases m <;> simp [PG.circlenumbers_times_root, sm]
/-- a root against a fraction -/
theorem rorder_eq (h : Hs P ι [30, 32, 34, 35, 36]) (ha : Q W a) (hb : Q W b) (hc : Q W c) {t q : Int} (ht : Q W t) (hq : Q W q) : callN P (n + 3) (ι.f 30) [rt a b c m, .tup [.int t, .int q]] st = .ok (.int (rs (Dq a b c) (-b * q - 2 * a * t) (sm m * q))) st := by
  obtain ⟨x, e⟩ := h30 h rfl
  rw [call_eq e rfl rfl (by show 2 ≤ 5; decide)]
  have e1 := times_eq (P := P) (ι := ι) (n := n + 1) (st := st) (a := a) (b := b) (c := c) (m := m) (h.mono (by decide))
  have e2 := square_eq (P := P) (ι := ι) (n := n + 1) (st := st) (a := a) (b := b) (c := c) (m := m) (h.mono (by decide)) ha hb hc
  have q1 := hb.neg.mul hq
  have q2 := Q2.mul ha
  have q3 := q2.mul ht
  have q4 := Qsm (m := m) |>.mul hq
  have m1 := b_mulB (st := st) (hb.neg.bd (by decide +kernel)) (hq.bd (by decide +kernel))
  have m2 := b_mulB (st := st) (Q2.bd (by decide +kernel)) (ha.bd (by decide +kernel))
  have m3 := b_mulB (st := st) (q2.bd (by decide +kernel)) (ht.bd (by decide +kernel))
  have m4 := b_mulB (st := st) (Qsm (m := m) |>.bd (by decide +kernel)) (hq.bd (by decide +kernel))
  have e3 := rsign_eq (P := P) (ι := ι) (n := n) (st := st) (h.mono (by decide)) ((q1.sub q3).bd (by decide +kernel)) (q4.bd (by decide +kernel)) ((q4.mul q4).bd (by decide +kernel)) ((qD ha hb hc).bd (by decide +kernel))
  simp [PG.circlenumbers_root_order, m1, m2, m3, e1, m4, e2, e3]
/-- a root against a root -/
theorem rtorder_eq (h : Hs P ι [33, 32, 34, 35, 36]) (ha : Q W a) (hb : Q W b) (hc : Q W c) (hA : Q W A) (hB : Q W B) (hC : Q W C) : callN P (n + 3) (ι.f 33) [rt a b c m, rt A B C k] st = .ok (.int (ro (Dq a b c) (Dq A B C) (B * a - b * A) (sm m * A) (-sm k * a))) st := by
  obtain ⟨x, e⟩ := h33 h rfl
  rw [call_eq e rfl rfl (by show 2 ≤ 8; decide)]
  have e1 := times_eq (P := P) (ι := ι) (n := n + 1) (st := st) (a := a) (b := b) (c := c) (m := m) (h.mono (by decide))
  have e1' := times_eq (P := P) (ι := ι) (n := n + 1) (st := st) (a := A) (b := B) (c := C) (m := k) (h.mono (by decide))
  have e2 := square_eq (P := P) (ι := ι) (n := n + 1) (st := st) (a := a) (b := b) (c := c) (m := m) (h.mono (by decide)) ha hb hc
  have e2' := square_eq (P := P) (ι := ι) (n := n + 1) (st := st) (a := A) (b := B) (c := C) (m := k) (h.mono (by decide)) hA hB hC
  have d1 := qD ha hb hc
  have d2 := qD hA hB hC
  have m1 := b_mulB (st := st) (hB.bd (by decide +kernel)) (ha.bd (by decide +kernel))
  have m2 := b_mulB (st := st) (hb.bd (by decide +kernel)) (hA.bd (by decide +kernel))
  have m3 := b_mulB (st := st) (Qsm (m := m) |>.bd (by decide +kernel)) (hA.bd (by decide +kernel))
  have m4 := b_mulB (st := st) (Qsm (m := k) |>.neg.bd (by decide +kernel)) (ha.bd (by decide +kernel))
  have qP := (hB.mul ha).sub (hb.mul hA)
  have qT := Qsm (m := m) |>.mul hA
  have qM := Qsm (m := k) |>.neg.mul ha
  generalize hP : B * a - b * A = PP at *
  generalize sm m * A = T at *
  generalize -sm k * a = M at *
  generalize Dq a b c = D1 at *
  generalize Dq A B C = D2 at *
  have s := fun i => sign_eq' (n := n + 1) (st := st) (h.mono (m := [34]) (by decide)) (i := i)
  have r1 := rsign_eq (P := P) (ι := ι) (n := n) (st := st) (h.mono (by decide)) (qP.bd (by decide +kernel)) (qT.bd (by decide +kernel)) ((qT.mul qT).bd (by decide +kernel)) (d1.bd (by decide +kernel))
  have m5 := b_mulB (st := st) (qP.bd (by decide +kernel)) (qP.bd (by decide +kernel))
  have m6 := b_mulB (st := st) (qT.bd (by decide +kernel)) (qT.bd (by decide +kernel))
  have m7 := b_mulB (st := st) ((qT.mul qT).bd (by decide +kernel)) (d1.bd (by decide +kernel))
  have m8 := b_mulB (st := st) (qM.bd (by decide +kernel)) (qM.bd (by decide +kernel))
  have m9 := b_mulB (st := st) ((qM.mul qM).bd (by decide +kernel)) (d2.bd (by decide +kernel))
  have m10 := b_mulB (st := st) (Q2.bd (by decide +kernel)) (qP.bd (by decide +kernel))
  have m11 := b_mulB (st := st) ((Q2.mul qP).bd (by decide +kernel)) (qT.bd (by decide +kernel))
  have qX := ((qP.mul qP).add ((qT.mul qT).mul d1)).sub ((qM.mul qM).mul d2)
  have qY := (Q2.mul qP).mul qT
  have r2 := rsign_eq (P := P) (ι := ι) (n := n) (st := st) (h.mono (by decide)) (qX.bd (by decide +kernel)) (qY.bd (by decide +kernel)) ((qY.mul qY).bd (by decide +kernel)) (d1.bd (by decide +kernel))
  have br : ∀ D X Y, Bd (rs D X Y) := fun D X Y => by
    have qs : ∀ i, Bd (sgn i) := fun i => by
      rcases sgn_cases i with ⟨_, e⟩ | ⟨_, e⟩ | ⟨_, e⟩ <;> rw [e] <;> exact Bd.lit (by decide)
    unfold rs
    split
    · exact qs _
    · split <;> exact qs _
  have m12 := b_mulB (st := st) (br D1 PP T) (br D1 (PP * PP + T * T * D1 - M * M * D2) (2 * PP * T))
  unfold ro
  by_cases w : rs D1 PP T = sgn M
  · simp [PG.circlenumbers_roots_order, m1, m2, e1, e1', m3, m4, e2, e2', hP, r1, s, w]
  · simp [PG.circlenumbers_roots_order, m1, m2, e1, e1', m3, m4, e2, e2', hP, r1, s, w, m5, m6, m7, m8, m9, m10, m11, r2, m12]
/-- the order on the line -/
theorem line_rf (h : Hs P ι [27, 30, 32, 34, 35, 36]) (ha : Q W a) (hb : Q W b) (hc : Q W c) {t q : Int} (ht : Q W t) (hq : Q W q) : callN P (n + 4) (ι.f 27) [rt a b c m, .tup [.int t, .int q]] st = .ok (.int (rs (Dq a b c) (-b * q - 2 * a * t) (sm m * q))) st := by
  obtain ⟨x, e⟩ := h27 h rfl
  rw [call_eq e rfl rfl (by show 2 ≤ 2; decide)]
  have e1 := rorder_eq (P := P) (ι := ι) (n := n) (st := st) (m := m) (h.mono (by decide)) ha hb hc ht hq
  simp [PG.circlenumbers_line_order, e1]
theorem line_fr (h : Hs P ι [27, 30, 32, 34, 35, 36]) (ha : Q W a) (hb : Q W b) (hc : Q W c) {t q : Int} (ht : Q W t) (hq : Q W q) : callN P (n + 4) (ι.f 27) [.tup [.int t, .int q], rt a b c m] st = .ok (.int (-rs (Dq a b c) (-b * q - 2 * a * t) (sm m * q))) st := by
  obtain ⟨x, e⟩ := h27 h rfl
  rw [call_eq e rfl rfl (by show 2 ≤ 2; decide)]
  have e1 := rorder_eq (P := P) (ι := ι) (n := n) (st := st) (m := m) (h.mono (by decide)) ha hb hc ht hq
  simp [PG.circlenumbers_line_order, e1]
theorem line_rr (h : Hs P ι [27, 33, 32, 34, 35, 36]) (ha : Q W a) (hb : Q W b) (hc : Q W c) (hA : Q W A) (hB : Q W B) (hC : Q W C) : callN P (n + 4) (ι.f 27) [rt a b c m, rt A B C k] st = .ok (.int (ro (Dq a b c) (Dq A B C) (B * a - b * A) (sm m * A) (-sm k * a))) st := by
  obtain ⟨x, e⟩ := h27 h rfl
  rw [call_eq e rfl rfl (by show 2 ≤ 2; decide)]
  have e1 := rtorder_eq (P := P) (ι := ι) (n := n) (st := st) (m := m) (k := k) (h.mono (by decide)) ha hb hc hA hB hC
  simp [PG.circlenumbers_line_order, e1]
/-- the floor of a root -/
theorem rfloor_eq (h : Hs P ι [29, 35]) (r : Rt a b c) (ha : Q W a) (hb : Q W b) (hc : Q W c) : callN P (n + 2) (ι.f 29) [rt a b c m] st = .ok (.int (Fl a b c m 1)) st := by
  obtain ⟨x, e⟩ := h29 h rfl
  rw [call_eq e rfl rfl (by show 1 ≤ 2; decide)]
  have e2 := square_eq (P := P) (ι := ι) (n := n) (st := st) (m := m) (h.mono (by decide)) ha hb hc
  have e3 := b_isq (st := st) (Int.le_of_lt r.d0) ((qD ha hb hc).bd (by decide +kernel))
  have m2 := b_mulB (st := st) (Q2.bd (by decide +kernel)) (ha.bd (by decide +kernel))
  have dv := fun i => b_divB (st := st) (i := i) ((Q2.mul ha).bd (by decide +kernel)) (by have := r.a0; omega)
  unfold Fl
  have e4 : Dq a b c * (1 * 1) = Dq a b c := by omega
  rw [e4, Int.mul_one]
  cases m <;> simp [PG.circlenumbers_number_floor, e2, e3, m2, dv]
/-- whether four are a root told least -/
theorem isroot_eq (h : Hs P ι [24, 25, 35]) (ha : Q W a) (hb : Q W b) (hc : Q W c) (hd : 0 ≤ Dq a b c) : callN P (n + 2) (ι.f 24) [rt a b c m] st = .ok (.bl (decide (0 < a) && (decide (gcdL [a, b, c] = 1) && (decide (0 < Dq a b c) && !decide (isq (Dq a b c) * isq (Dq a b c) = Dq a b c))))) st := by
  obtain ⟨x, e⟩ := h24 h rfl
  rw [call_eq e rfl rfl (by show 1 ≤ 5; decide)]
  have e2 := square_eq (P := P) (ι := ι) (n := n) (st := st) (m := m) (h.mono (by decide)) ha hb hc
  have e3 := squared_eq (P := P) (ι := ι) (n := n) (st := st) (h.mono (m := [25]) (by decide)) hd ((qD ha hb hc).bd (by decide +kernel))
  have g : gcdL [a, b, c] = Nat.gcd (Nat.gcd a.natAbs b.natAbs) c.natAbs := by simp [gcdL]
  rw [g]
  by_cases a0 : 0 < a
  · have a1 : ¬ a ≤ 0 := by omega
    by_cases g1 : Nat.gcd (Nat.gcd a.natAbs b.natAbs) c.natAbs = 1
    · by_cases d0 : 0 < Dq a b c
      · simp [PG.circlenumbers_is_root, a0, a1, g1, e2, e3, d0]
      · simp [PG.circlenumbers_is_root, a0, a1, g1, e2, e3, d0]
    · have g2 : ¬ (((Nat.gcd (Nat.gcd a.natAbs b.natAbs) c.natAbs : Nat) : Int) = 1) := by omega
      simp [PG.circlenumbers_is_root, a0, a1, g1, g2]
  · have a1 : a ≤ 0 := by omega
    simp [PG.circlenumbers_is_root, a0, a1]
end
end S

set_option Elab.async false
set_option linter.all false
set_option maxRecDepth 100000
set_option maxHeartbeats 4000000
set_option exponentiation.threshold 20000
namespace K08
open PySem L2 MP N1 S
theorem hp : Pg 17 = some fPick := rfl
theorem ho : Pg 18 = some (fOf 17) := rfl
/-! ### the law's own defs -/
theorem part_eq (n : Nat) (st : DS) (x y : Int) (hy : Bd y) : callN Pg (n + 1) 19 [.int x, .int y] st = .ok (.int ((Nat.gcd x.natAbs y.natAbs : Nat) : Int)) st := by
  rw [call_iso (fd := f19) rfl rfl rfl (by show 2 ≤ 2; decide) (by simp)]
  have l := euclid_loop (c := evalT (callN Pg n) (.cmp .gt (.var 1) (.lit (.int 0)))) (b := execs (callN Pg n) [.par [0, 1] [.var 1, .bin .mod (.bi .int [.var 0]) (.var 1)]]) (ρ := fun x y => [some (.int x), some (.int y)]) (st := [])
    (fun x y => by simp) (fun x y hy => by
      have h0 : y ≠ 0 := by omega
      simp [b_mod h0]) 8001 ((x.natAbs : Nat) : Int) ((y.natAbs : Nat) : Int) fuel (by omega) (by omega) (by
        have l3 : ((y.natAbs : Nat) : Int) < ((2 ^ 8001 : Nat) : Int) := Int.ofNat_lt.mpr (Nat.lt_of_lt_of_le hy (Nat.pow_le_pow_right (by decide) (by decide)))
        rw [Int.natCast_pow] at l3
        exact l3) (Nat.lt_trans (by decide) fuel_big)
  have e : Int.gcd ((x.natAbs : Nat) : Int) ((y.natAbs : Nat) : Int) = Nat.gcd x.natAbs y.natAbs := by
    unfold Int.gcd
    rw [Int.natAbs_natCast, Int.natAbs_natCast]
  rw [e] at l
  have l' := (ex_whl (C := callN Pg n) (c := .cmp .gt (.var 1) (.lit (.int 0))) (b := [.par [0, 1] [.var 1, .bin .mod (.bi .int [.var 0]) (.var 1)]])).trans l
  simp only [f19, List.map_cons, List.map_nil, List.length_cons, List.length_nil, List.replicate, List.cons_append, List.nil_append, List.append_nil, Nat.sub_self, exs_c, exs_n, ex_par, eL_c, eL_n, ev_bi, ev_var, getV_s, getV_z, of_some, bind_ok, bi_abs, to_ok, Nat.zero_add, Nat.reduceAdd, if_true, setAll_c, setAll_n, setV_s, setV_z, sbind_nx, l', ex_ret, sbind_ret, end_ret, isoR_ok, noRef_int]
theorem power_loop {C : Nat → List D → DS → R D} {u v : Option D} {st : DS} : ∀ (xs : List D) (f : Int) (x : Option D), 0 < f → f * 10 ^ xs.length ≤ 10 ^ 2000 → ∃ x', forL (forB C (.nm 3) [.asg (.nm 2) (.bin .mul (.var 2) (.var 0))]) xs [some (.int 10), v, some (.int f), x] st = .nx [some (.int 10), v, some (.int (f * 10 ^ xs.length)), x'] st
  | [], f, x, _, _ => ⟨x, by simp [forL_n]⟩
  | y :: xs, f, x, hf, hb => by
    have e : f * 10 ^ (y :: xs).length = f * 10 * 10 ^ xs.length := by rw [List.length_cons, Int.pow_succ]; grind
    rw [e] at hb
    obtain ⟨x', h⟩ := power_loop (C := C) (u := u) (v := v) (st := st) xs (f * 10) (some y) (by omega) hb
    refine ⟨x', ?_⟩
    rw [e, ← h]
    have p1 : 1 ≤ (10 : Int) ^ xs.length := Int.pow_pos (by decide)
    have p2 := Int.mul_le_mul_of_nonneg_left p1 (show 0 ≤ f * 10 by omega)
    have m := b_mulB (st := st) (i := f) (j := 10) (Q.bd (K := 10 ^ 2000) (by unfold Q; omega) (by decide +kernel)) (Bd.lit (by decide))
    refine forL_c ?_
    rw [forB_nm]
    simp [m]
theorem power_eq (n : Nat) (st : DS) (k : Nat) (hk : k ≤ 2000) : callN Pg (n + 1) 20 [.int 10, .int (k : Int)] st = .ok (.int (10 ^ k)) st := by
  rw [call_eq (fd := f20) rfl rfl rfl (by show 2 ≤ 4; decide)]
  have r := itD_rng (st := st) (j := (k : Int)) (by omega)
  rw [Int.toNat_natCast] at r
  have hl : ((List.range k).map fun (k : Nat) => D.int (0 + (k : Int))).length = k := by simp
  generalize (List.range k).map (fun (k : Nat) => D.int (0 + (k : Int))) = xs at *
  obtain ⟨x', e⟩ := power_loop (C := callN Pg n) (u := none) (v := some (.int (k : Int))) (st := st) xs 1 none (by decide) (by
    rw [Int.one_mul, hl]
    have h := Nat.pow_le_pow_right (n := 10) (by decide) hk
    have := Int.ofNat_le.mpr h
    rw [Int.natCast_pow, Int.natCast_pow] at this
    exact this)
  rw [hl, Int.one_mul] at e
  simp only [f20, List.map_cons, List.map_nil, List.length_cons, List.length_nil, List.replicate, List.cons_append, List.nil_append, exs_c, exs_n, ex_asg, ev_lit, to_ok, aT_nm, setV_s, setV_z, sbind_nx, ex_for, eL_c, eL_n, ev_var, getV_s, getV_z, of_some, bind_ok, r, e, ex_ret, sbind_ret, end_ret]
/-! ### squares, bit by bit -/
theorem isq_uniq {D s : Int} (h0 : 0 ≤ D) (s0 : 0 ≤ s) (h1 : s * s ≤ D) (h2 : D < (s + 1) * (s + 1)) : s = isq D := by
  obtain ⟨r0, r1, r2⟩ := isq_spec h0
  generalize isq D = r at *
  rcases Int.lt_trichotomy s r with q | q | q
  · have := Int.mul_le_mul (show s + 1 ≤ r by omega) (show s + 1 ≤ r by omega) (by omega) r0
    omega
  · exact q
  · have := Int.mul_le_mul (show r + 1 ≤ s by omega) (show r + 1 ≤ s by omega) (by omega) s0
    omega
theorem two_pow (i : Nat) : (0 : Int) < 2 ^ i := Int.pow_pos (by decide)
theorem Bd2p {i : Nat} (h : i ≤ 3000) : Bd (2 ^ i) := by
  unfold Bd
  rw [Int.natAbs_pow]
  exact Nat.lt_of_le_of_lt (Nat.pow_le_pow_right (by decide) h) (by decide +kernel)
theorem up_loop {C : Nat → List D → DS → R D} {st : DS} {D0 : Int} : ∀ (j i fu : Nat), D0 < 2 ^ (i + j) * 2 ^ (i + j) → i + j ≤ 3000 → j < fu → ∃ k, k ≤ 3000 ∧ D0 < 2 ^ k * 2 ^ k ∧ whileL (evalT C (.cmp .le (.bin .mul (.var 1) (.var 1)) (.var 0))) (execs C [.asg (.nm 1) (.bin .mul (.var 1) (.lit (.int 2)))]) fu [some (.int D0), some (.int (2 ^ i)), some (.int 0)] st = .nx [some (.int D0), some (.int (2 ^ k)), some (.int 0)] st
  | j, i, 0, _, _, h => by omega
  | j, i, fu + 1, hD, hi, hf => by
    have m1 := b_mulB (st := st) (Bd2p (i := i) (by omega)) (Bd2p (i := i) (by omega))
    have m2 := b_mulB (st := st) (j := 2) (Bd2p (i := i) (by omega)) (Bd.lit (by decide))
    by_cases q : (2 : Int) ^ i * 2 ^ i ≤ D0
    · cases j with
      | zero => rw [Nat.add_zero] at hD; omega
      | succ j =>
        have e : (2 : Int) ^ i * 2 = 2 ^ (i + 1) := (Int.pow_succ ..).symm
        rw [e] at m2
        obtain ⟨k, k1, k2, h⟩ := up_loop (C := C) (st := st) (D0 := D0) j (i + 1) fu (by rw [show i + 1 + j = i + (j + 1) by omega]; exact hD) (by omega) (by omega)
        refine ⟨k, k1, k2, ?_⟩
        rw [← h]
        exact whileL_t (st1 := st) (by simp [m1, q]) (by simp [m2])
    · refine ⟨i, by omega, by omega, ?_⟩
      exact whileL_f (by simp [m1, q])
def bD : List S := [.ife (.cmp .le (.bin .mul (.bin .add (.var 2) (.var 1)) (.bin .add (.var 2) (.var 1))) (.var 0)) [.asg (.nm 2) (.bin .add (.var 2) (.var 1))] [], .asg (.nm 1) (.bin .fdiv (.var 1) (.lit (.int 2)))]
theorem down_step {C : Nat → List D → DS → R D} {st : DS} {D0 s t f : Int} (hb : Bd (f + s)) (hs : 0 < s) (ht : s.fdiv 2 = t) : ∃ g, execs C bD [some (.int D0), some (.int s), some (.int f)] st = .nx [some (.int D0), some (.int t), some (.int g)] st ∧ (f * f ≤ D0 → D0 < (f + 2 * s) * (f + 2 * s) → 0 ≤ f → 0 ≤ g ∧ g * g ≤ D0 ∧ D0 < (g + s) * (g + s)) := by
  have m1 := b_mulB (st := st) hb hb
  have d := b_divB (st := st) (i := s) (j := 2) (Bd.lit (by decide)) (by decide)
  rw [ht] at d
  by_cases q : (f + s) * (f + s) ≤ D0
  · refine ⟨f + s, by simp [bD, m1, q, d], fun h1 h2 h3 => ⟨by omega, q, ?_⟩⟩
    have : f + s + s = f + 2 * s := by omega
    rw [this]; exact h2
  · exact ⟨f, by simp [bD, m1, q, d], fun h1 h2 h3 => ⟨h3, h1, by omega⟩⟩
theorem down_loop {C : Nat → List D → DS → R D} {st : DS} {D0 : Int} (hD : 0 ≤ D0) (hb : ∀ f : Int, 0 ≤ f → f * f ≤ D0 → f < 2 ^ 3001) : ∀ (k fu : Nat) (f : Int), k ≤ 3000 → k + 1 < fu → 0 ≤ f → f * f ≤ D0 → D0 < (f + 2 * 2 ^ k) * (f + 2 * 2 ^ k) → whileL (evalT C (.cmp .gt (.var 1) (.lit (.int 0)))) (execs C bD) fu [some (.int D0), some (.int (2 ^ k)), some (.int f)] st = .nx [some (.int D0), some (.int 0), some (.int (isq D0))] st
  | k, 0, f, _, h, _, _, _ => by omega
  | k, 1, f, _, h, _, _, _ => by omega
  | k, fu + 2, f, hk, h, f0, f1, f2 => by
    have kp := two_pow k
    have bd : Bd (f + 2 ^ k) := by
      have h1 := hb f f0 f1
      have h2 : (2 : Int) ^ k ≤ 2 ^ 3000 := by
        have h := Nat.pow_le_pow_right (n := 2) (by decide) hk
        have := Int.ofNat_le.mpr h
        rw [Int.natCast_pow, Int.natCast_pow] at this
        exact this
      have h3 : f + 2 ^ k < 2 ^ 3002 := by
        have : (2 : Int) ^ 3001 + 2 ^ 3000 ≤ 2 ^ 3002 := by decide +kernel
        omega
      exact Q.bd (K := 2 ^ 3002) (by unfold Q; omega) (by decide +kernel)
    cases k with
    | zero =>
      have t0 : ((2 : Int) ^ 0).fdiv 2 = 0 := by decide
      obtain ⟨g, e, hg⟩ := down_step (C := C) (st := st) (D0 := D0) bd kp t0
      obtain ⟨g0, g1, g2⟩ := hg f1 f2 f0
      rw [whileL_t (st1 := st) (by simp) e, whileL_f (st1 := st) (by simp)]
      rw [isq_uniq hD g0 g1 (by simpa using g2)]
    | succ k =>
      have t0 : ((2 : Int) ^ (k + 1)).fdiv 2 = 2 ^ k := by
        rw [Int.pow_succ]; exact Int.mul_fdiv_cancel _ (by decide)
      obtain ⟨g, e, hg⟩ := down_step (C := C) (st := st) (D0 := D0) bd kp t0
      obtain ⟨g0, g1, g2⟩ := hg f1 f2 f0
      have kk : (0 : Int) < 2 ^ (k + 1) := two_pow _
      rw [whileL_t (st1 := st) (by simp [kk]) e]
      refine down_loop hD hb k (fu + 1) g (by omega) (by omega) g0 g1 ?_
      have : (2 : Int) * 2 ^ k = 2 ^ (k + 1) := by rw [Int.pow_succ]; omega
      rw [this]; exact g2
theorem square_law (n : Nat) (st : DS) {D0 : Int} (h0 : 0 ≤ D0) (hb : D0 ≤ 10 ^ 100) : callN Pg (n + 1) 21 [.int D0] st = .ok (.bl (decide (isq D0 * isq D0 = D0))) st := by
  rw [call_eq (fd := f21) rfl rfl rfl (by show 1 ≤ 3; decide)]
  obtain ⟨k, k1, k2, e⟩ := up_loop (C := callN Pg n) (st := st) (D0 := D0) 400 0 fuel (by
    have : (10 : Int) ^ 100 < 2 ^ (0 + 400) * 2 ^ (0 + 400) := by decide +kernel
    omega) (by decide) (Nat.lt_trans (by decide) fuel_big)
  have big : ∀ f : Int, 0 ≤ f → f * f ≤ D0 → f < 2 ^ 3001 := fun f f0 f1 => by
    refine Int.not_le.mp fun z => ?_
    have := Int.mul_le_mul z z (by decide +kernel) f0
    have : (10 : Int) ^ 100 < 2 ^ 3001 * 2 ^ 3001 := by decide +kernel
    omega
  have e2 := down_loop (C := callN Pg n) (st := st) h0 big k fuel 0 k1 (Nat.lt_trans (by omega) fuel_big) (by decide) (by omega) (by
    have p := two_pow k
    have : (2 ^ k * 2 ^ k : Int) ≤ (0 + 2 * 2 ^ k) * (0 + 2 * 2 ^ k) := Int.mul_le_mul (by omega) (by omega) (by omega) (by omega)
    omega)
  have bs : Bd (isq D0) := isq_bd (Q.bd (K := 10 ^ 100) (by unfold Q; omega) (by decide +kernel))
  have m := b_mulB (st := st) bs bs
  have e' := (ex_whl (C := callN Pg n)).trans e
  have e2' := (ex_whl (C := callN Pg n)).trans e2
  rw [Int.pow_zero] at e'
  simp only [bD] at e2'
  simp only [f21, List.map_cons, List.map_nil, List.length_cons, List.length_nil, List.replicate, List.cons_append, List.nil_append, exs_c, exs_n, ex_asg, ev_tup, eL_c, eL_n, ev_lit, Nat.zero_add, Nat.reduceAdd, sz2, if_true, bind_ok, to_ok, aT_tp, aTs_c, aTs_n, aT_nm, tie_nx, setV_s, setV_z, sbind_nx, e', e2', ex_ret, ev_cmp, ev_bin, ev_var, getV_s, getV_z, of_some, m, c_eq, sbind_ret, end_ret]
end K08

set_option Elab.async false
set_option linter.all false
set_option maxRecDepth 100000
set_option maxHeartbeats 4000000
set_option exponentiation.threshold 20000
namespace K08
open PySem L2 MP N1 S
section
variable {a b c : Int} {m : Bool} {st : DS}
theorem below_eq (n : Nat) (r : Rt a b c) (ha : Q W a) (hb : Q W b) (hc : Q W c) {t q : Int} (ht : Q (10 ^ 200) t) (hq : Q (10 ^ 200) q) (q0 : 0 < q) : callN Pg (n + 1) 23 [rt a b c m, .int t, .int q] st = .ok (.bl (decide (t ≤ Fl a b c m q))) st := by
  rw [call_eq (fd := f23) rfl rfl rfl (by show 3 ≤ 8; decide)]
  have bt := ht.bd (by decide +kernel)
  have bq := hq.bd (by decide +kernel)
  have m1 := b_mulB (st := st) (ha.bd (by decide +kernel)) bt
  have m2 := b_mulB (st := st) ((ha.mul ht).bd (by decide +kernel)) bt
  have m3 := b_mulB (st := st) (hb.bd (by decide +kernel)) bt
  have m4 := b_mulB (st := st) ((hb.mul ht).bd (by decide +kernel)) bq
  have m5 := b_mulB (st := st) (hc.bd (by decide +kernel)) bq
  have m6 := b_mulB (st := st) ((hc.mul hq).bd (by decide +kernel)) bq
  have m7 := b_mulB (st := st) (Q2.bd (by decide +kernel)) (ha.bd (by decide +kernel))
  have m8 := b_mulB (st := st) ((Q2.mul ha).bd (by decide +kernel)) bt
  have m9 := b_mulB (st := st) (hb.bd (by decide +kernel)) bq
  rw [← bel_val r q0]
  by_cases v : a * t * t + b * t * q + c * q * q < 0
  · simp [f23, m1, m2, m3, m4, m5, m6, m7, m8, m9, v]
  · simp [f23, m1, m2, m3, m4, m5, m6, m7, m8, m9, v]
def bH : List S := [.asg (.nm 4) (.bin .fdiv (.bin .add (.var 2) (.var 3)) (.lit (.int 2))), .ife (.tv (.call 23 [.var 0, .var 4, .var 1])) [.asg (.nm 2) (.var 4)] [.asg (.nm 3) (.var 4)]]
theorem half_loop (n : Nat) {R0 q0 : D} {F H : Int} (hc : ∀ t : Int, Q H t → callN Pg (n + 1) 23 [R0, .int t, q0] st = .ok (.bl (decide (t ≤ F))) st) : ∀ (k fu : Nat) (l h : Int) (x : Option D), -H ≤ l → h ≤ H → l ≤ F → F < h → h - l ≤ 2 ^ k → k < fu → ∃ h' x', whileL (evalT (callN Pg (n + 1)) (.cmp .gt (.bin .sub (.var 3) (.var 2)) (.lit (.int 1)))) (execs (callN Pg (n + 1)) bH) fu [some R0, some q0, some (.int l), some (.int h), x] st = .nx [some R0, some q0, some (.int F), some (.int h'), x'] st
  | k, 0, l, h, x, _, _, _, _, _, g => by omega
  | k, fu + 1, l, h, x, h1, h2, h3, h4, h5, h6 => by
    by_cases q : 1 < h - l
    · cases k with
      | zero => rw [Int.pow_zero] at h5; omega
      | succ k =>
        have d := b_divB (st := st) (i := l + h) (j := 2) (Bd.lit (by decide)) (by decide)
        have p2 : (2 : Int) ^ (k + 1) = 2 * 2 ^ k := by rw [Int.pow_succ]; omega
        rw [p2] at h5
        have md : 2 * ((l + h).fdiv 2) ≤ l + h ∧ l + h < 2 * ((l + h).fdiv 2) + 2 := by
          rw [Int.fdiv_eq_ediv_of_nonneg _ (by decide)]; omega
        generalize (l + h).fdiv 2 = mid at *
        have e := hc mid ⟨by omega, by omega⟩
        by_cases w : mid ≤ F
        · obtain ⟨h', x', ih⟩ := half_loop n hc k fu mid h (some (.int mid)) (by omega) h2 w h4 (by omega) (by omega)
          refine ⟨h', x', ?_⟩
          rw [← ih]
          exact whileL_t (st1 := st) (by simp [q]) (by simp [bH, d, e, w])
        · obtain ⟨h', x', ih⟩ := half_loop n hc k fu l mid (some (.int mid)) h1 (by omega) h3 (by omega) (by omega) (by omega)
          refine ⟨h', x', ?_⟩
          rw [← ih]
          exact whileL_t (st1 := st) (by simp [q]) (by simp [bH, d, e, w])
    · have : l = F := by omega
      subst this
      exact ⟨h, x, whileL_f (by simp [q])⟩
theorem floor_law (n : Nat) (r : Rt a b c) (ha : Q (10 ^ 9) a) (hb : Q (10 ^ 9) b) (hc : Q (10 ^ 9) c) {q : Int} (hq : q ≤ 10 ^ 100) (q0 : 0 < q) : callN Pg (n + 2) 24 [rt a b c m, .int q] st = .ok (.int (Fl a b c m q)) st := by
  rw [call_eq (fd := f24) rfl rfl rfl (by show 2 ≤ 5; decide)]
  obtain ⟨g1, g2⟩ := fl_ends (m := m) r q0
  have qq : Q (10 ^ 100) q := ⟨by omega, hq⟩
  have qM : Q (3 * 10 ^ 9) (2 + (b.natAbs : Int) + (c.natAbs : Int)) := by unfold Q at *; omega
  have qL := (qM.mul qq).le (L := 10 ^ 150) (by decide +kernel)
  have m1 := b_mulB (st := st) (qM.bd (by decide +kernel)) (qq.bd (by decide +kernel))
  have lw : ∀ {i : Int}, Q (10 ^ 9) i → Q W i := fun h => h.le (by decide +kernel)
  obtain ⟨h', x', e⟩ := half_loop (st := st) n (R0 := rt a b c m) (q0 := .int q) (F := Fl a b c m q) (H := 10 ^ 150) (fun t ht => below_eq n r (lw ha) (lw hb) (lw hc) (ht.le (by decide +kernel)) (qq.le (by decide +kernel)) q0) 600 fuel (0 - (2 + (b.natAbs : Int) + (c.natAbs : Int)) * q) (0 - (0 - (2 + (b.natAbs : Int) + (c.natAbs : Int)) * q)) none
    (by unfold Q at qL; omega) (by unfold Q at qL; omega) g1 (by omega) (by
      have : (2 * 10 ^ 150 : Int) ≤ 2 ^ 600 := by decide +kernel
      unfold Q at qL
      omega) (Nat.lt_trans (by decide) fuel_big)
  have e' := (ex_whl (C := callN Pg (n + 1))).trans e
  simp only [bH] at e'
  simp only [f24, List.map_cons, List.map_nil, List.length_cons, List.length_nil, List.replicate, List.cons_append, List.nil_append, exs_c, exs_n, ex_asg, ev_bin, ev_bi, ev_ix, eL_c, eL_n, ev_lit, ev_var, getV_s, getV_z, of_some, ix1, ix2, bi_abs, b_add, b_sub, m1, bind_ok, to_ok, aT_nm, setV_s, setV_z, sbind_nx, e', ex_ret, sbind_ret, end_ret]
end
/-- a drawn table, whose roots are no fractions -/
structure Tb (H a b c : Int) : Prop where
  r : Rt a b c
  l : ML [a, b, c]
  qa : Q H a
  qb : Q H b
  qc : Q H c
theorem ns_of {D : Int} (h0 : 0 ≤ D) (h : ¬ isq D * isq D = D) : NS D := fun i hi => by
  apply h
  have na : ((i.natAbs : Nat) : Int) * ((i.natAbs : Nat) : Int) = D := by rw [Int.natAbs_mul_self', hi]
  have e : ((i.natAbs : Nat) : Int) = isq D := isq_uniq h0 (by omega) (by omega) (by
    have g : (((i.natAbs : Nat) : Int) + 1) * (((i.natAbs : Nat) : Int) + 1) = ((i.natAbs : Nat) : Int) * ((i.natAbs : Nat) : Int) + 2 * ((i.natAbs : Nat) : Int) + 1 := by grind
    omega)
  rw [← e, na]
theorem is_ns {D : Int} (h : NS D) : ¬ isq D * isq D = D := h _
theorem tb5 {H : Int} (h : 1 ≤ H) : Tb H 1 (-1) (-1) := by
  refine ⟨⟨by decide, ?_, by decide⟩, ⟨by decide, 1, [-1, -1], by decide, by decide⟩, ⟨by omega, h⟩, ⟨by omega, by omega⟩, ⟨by omega, by omega⟩⟩
  have d : Dq 1 (-1) (-1) = 5 := by decide
  rw [d]
  intro i hi
  obtain ⟨g1, g2⟩ := abs_of (p := 3) (q := i) (by decide) (by omega)
  have : i = -2 ∨ i = -1 ∨ i = 0 ∨ i = 1 ∨ i = 2 := by omega
  rcases this with rfl | rfl | rfl | rfl | rfl <;> omega
/-- one lap of the drawing -/
def bT : List S := [.par [5, 6] [.bin .add (.lit (.int 1)) (.call 17 [.var 0, .var 1]), .bin .sub (.call 17 [.var 0, .bin .add (.bin .mul (.lit (.int 2)) (.var 1)) (.lit (.int 1))]) (.var 1)], .asg (.nm 3) (.bin .sub (.call 17 [.var 0, .bin .add (.bin .mul (.lit (.int 2)) (.var 1)) (.lit (.int 1))]) (.var 1)), .asg (.nm 4) (.bin .sub (.bin .mul (.var 6) (.var 6)) (.bin .mul (.bin .mul (.lit (.int 4)) (.var 5)) (.var 3))), .ife (.and (.cmp .gt (.var 4) (.lit (.int 0))) (.not (.tv (.call 21 [.var 4])))) [.asg (.nm 7) (.call 19 [.call 19 [.var 5, .var 6], .var 3]), .ret (.tup [.bin .fdiv (.var 5) (.var 7), .bin .fdiv (.var 6) (.var 7), .bin .fdiv (.var 3) (.var 7)])] []]
theorem lapT (n : Nat) {H : Int} (h1 : 1 ≤ H) (h2 : H ≤ 10 ^ 9) {x x2 x3 x4 x5 x6 x7 : Option D} {st rest : DS} (hs : Src st rest) :
    ∃ st', Src st' rest ∧ ((∃ y3 y4 y5 y6, execs (callN Pg (n + 2)) bT [some (.ref 1), some (.int H), x2, x3, x4, x5, x6, x7] st = .nx [some (.ref 1), some (.int H), x2, y3, y4, y5, y6, x7] st') ∨ ∃ a b c, execs (callN Pg (n + 2)) bT [some (.ref 1), some (.int H), x2, x3, x4, x5, x6, x7] st = .ret (.tup [.int a, .int b, .int c]) st' ∧ Tb H a b c) := by
  obtain ⟨r1, st1, e1, p1, p2, s1⟩ := pick_ok (n := n + 1) hp hs (many := H) h1 (by
    have : H.natAbs ≤ 10 ^ 9 := by omega
    exact Nat.lt_of_le_of_lt this (by decide +kernel))
  obtain ⟨r2, st2, e2, p3, p4, s2⟩ := pick_ok (n := n + 1) hp s1 (many := 2 * H + 1) (by omega) (by
    have : (2 * H + 1).natAbs ≤ 2 * 10 ^ 9 + 1 := by omega
    exact Nat.lt_of_le_of_lt this (by decide +kernel))
  obtain ⟨r3, st3, e3, p5, p6, s3⟩ := pick_ok (n := n + 1) hp s2 (many := 2 * H + 1) (by omega) (by
    have : (2 * H + 1).natAbs ≤ 2 * 10 ^ 9 + 1 := by omega
    exact Nat.lt_of_le_of_lt this (by decide +kernel))
  refine ⟨st3, s3, ?_⟩
  have qa : Q (10 ^ 9) (1 + r1) := by unfold Q; omega
  have qb : Q (10 ^ 9) (r2 - H) := by unfold Q; omega
  have qc : Q (10 ^ 9) (r3 - H) := by unfold Q; omega
  have qa' : Q H (1 + r1) := by unfold Q; omega
  have qb' : Q H (r2 - H) := by unfold Q; omega
  have qc' : Q H (r3 - H) := by unfold Q; omega
  have a0 : 0 < 1 + r1 := by omega
  have mH : ∀ st : DS, binD .mul st (.int 2) (.int H) = some (.int (2 * H)) := fun st => b_mulB (Bd.lit (by decide)) (Q.bd (K := 10 ^ 9) (by unfold Q; omega) (by decide +kernel))
  generalize hA : 1 + r1 = A at *
  generalize hB : r2 - H = B at *
  generalize hC : r3 - H = C at *
  have m1 := b_mulB (st := st3) (qb.bd (by decide +kernel)) (qb.bd (by decide +kernel))
  have m2 := b_mulB (st := st3) (Q4.bd (by decide +kernel)) (qa.bd (by decide +kernel))
  have m3 := b_mulB (st := st3) ((Q4.mul qa).bd (by decide +kernel)) (qc.bd (by decide +kernel))
  have qd := ((qb.mul qb).sub ((Q4.mul qa).mul qc)).le (L := 10 ^ 100) (by decide +kernel)
  generalize hDd : B * B - 4 * A * C = Dd at *
  by_cases d0 : 0 < Dd
  · have sq := square_law (n + 1) st3 (Int.le_of_lt d0) qd.2
    by_cases w : isq Dd * isq Dd = Dd
    · left
      refine ⟨some (.int C), some (.int Dd), some (.int A), some (.int B), ?_⟩
      simp [bT, e1, e2, mH, e3, hA, hB, hC, m1, m2, m3, hDd, d0, sq, w]
    · right
      have g1 := part_eq (n + 1) st3 A B (qb.bd (by decide +kernel))
      have g2 := part_eq (n + 1) st3 ((Nat.gcd A.natAbs B.natAbs : Nat) : Int) C (qc.bd (by decide +kernel))
      rw [Int.natAbs_natCast] at g2
      have hz : nz [A, B, C] = A :: nz [B, C] := nz3 (by omega)
      obtain ⟨ne, es, xs, f1, f2, ml⟩ := mtold_ex hz
      rw [if_pos a0] at es
      have gl : gcdL [A, B, C] = Nat.gcd (Nat.gcd A.natAbs B.natAbs) C.natAbs := by simp [gcdL]
      rw [gl] at es
      match xs, f1, f2, ml with
      | [], f1, _, _ => simp at f1
      | [_], f1, _, _ => simp at f1
      | [_, _], f1, _, _ => simp at f1
      | _ :: _ :: _ :: _ :: _, f1, _, _ => simp at f1
      | [a, b, c], f1, f2, ml =>
        have f1' : A.fdiv (sgL [A, B, C]) = a ∧ B.fdiv (sgL [A, B, C]) = b ∧ C.fdiv (sgL [A, B, C]) = c := by simpa using f1
        have f2' : A = a * sgL [A, B, C] ∧ B = b * sgL [A, B, C] ∧ C = c * sgL [A, B, C] := by simpa using f2
        rw [es] at f1' f2' ne
        generalize hg : ((Nat.gcd (Nat.gcd A.natAbs B.natAbs) C.natAbs : Nat) : Int) = g at *
        have g0 : 0 < g := by omega
        have bg : Bd g := by
          have : g.natAbs ≤ A.natAbs := by
            have h1 : a ≠ 0 := fun z => by rw [z, Int.zero_mul] at f2'; omega
            have := abs_le (p := g) (t := A) (g := a) (by rw [Int.mul_comm]; exact f2'.1) h1
            exact this
          have := qa.bd (by decide +kernel)
          unfold Bd at *
          omega
        have d1 := b_divB (st := st3) (i := A) bg ne
        have d2 := b_divB (st := st3) (i := B) bg ne
        have d3 := b_divB (st := st3) (i := C) bg ne
        rw [f1'.1] at d1
        rw [f1'.2.1] at d2
        rw [f1'.2.2] at d3
        have le : ∀ {x X : Int}, X = x * g → Q H X → Q H x := fun {x X} e q => by
          have := abs_le e ne
          unfold Q at *
          omega
        have eD : Dd = Dq a b c * (g * g) := by
          unfold Dq
          rw [← hDd, f2'.1, f2'.2.1, f2'.2.2]; grind
        refine ⟨a, b, c, ?_, ⟨⟨?_, ?_, ?_⟩, ml, le f2'.1 qa', le f2'.2.1 qb', le f2'.2.2 qc'⟩⟩
        · simp [bT, e1, e2, mH, e3, hA, hB, hC, m1, m2, m3, hDd, d0, sq, w, g1, g2, hg, d1, d2, d3]
        · refine Int.not_le.mp fun z => ?_
          have := Int.mul_nonpos_of_nonpos_of_nonneg z (Int.le_of_lt g0)
          omega
        · intro i hi
          refine ns_of (Int.le_of_lt d0) w (i * g) ?_
          rw [eD, ← hi]; grind
        · refine Int.not_le.mp fun z => ?_
          have := Int.mul_nonpos_of_nonpos_of_nonneg z (Int.le_of_lt (Int.mul_pos g0 g0))
          omega
  · left
    refine ⟨some (.int C), some (.int Dd), some (.int A), some (.int B), ?_⟩
    simp [bT, e1, e2, mH, e3, hA, hB, hC, m1, m2, m3, hDd, d0]
theorem forL_r {F : D → MP.Env → DS → RS} {x d : D} {xs : List D} {ρ : MP.Env} {st st' : DS} (h : F x ρ st = .ret d st') : forL F (x :: xs) ρ st = .ret d st' := by
  show (match F x ρ st with | .nx ρ' st' => forL F xs ρ' st' | .cont ρ' st' => forL F xs ρ' st' | .brk ρ' st' => .nx ρ' st' | r => r) = _
  rw [h]
theorem lapsT (n : Nat) {H : Int} (h1 : 1 ≤ H) (h2 : H ≤ 10 ^ 9) : ∀ (xs : List D) {x2 x3 x4 x5 x6 x7 : Option D} {st rest : DS}, Src st rest →
    ∃ st', Src st' rest ∧ ((∃ y2 y3 y4 y5 y6, forL (forB (callN Pg (n + 2)) (.nm 2) bT) xs [some (.ref 1), some (.int H), x2, x3, x4, x5, x6, x7] st = .nx [some (.ref 1), some (.int H), y2, y3, y4, y5, y6, x7] st') ∨ ∃ a b c, forL (forB (callN Pg (n + 2)) (.nm 2) bT) xs [some (.ref 1), some (.int H), x2, x3, x4, x5, x6, x7] st = .ret (.tup [.int a, .int b, .int c]) st' ∧ Tb H a b c)
  | [], _, _, _, _, _, _, st, _, hs => ⟨st, hs, .inl ⟨_, _, _, _, _, rfl⟩⟩
  | x :: xs, x2, x3, x4, x5, x6, x7, st, rest, hs => by
    obtain ⟨st1, s1, h⟩ := lapT n h1 h2 (x := none) (x2 := some x) (x3 := x3) (x4 := x4) (x5 := x5) (x6 := x6) (x7 := x7) hs
    rcases h with ⟨y3, y4, y5, y6, e⟩ | ⟨a, b, c, e, t⟩
    · obtain ⟨st2, s2, h⟩ := lapsT n h1 h2 xs (x2 := some x) (x3 := y3) (x4 := y4) (x5 := y5) (x6 := y6) (x7 := x7) s1
      have e' : forB (callN Pg (n + 2)) (.nm 2) bT x [some (.ref 1), some (.int H), x2, x3, x4, x5, x6, x7] st = .nx [some (.ref 1), some (.int H), some x, y3, y4, y5, y6, x7] st1 := by rw [forB_nm]; exact e
      exact ⟨st2, s2, by rw [forL_c e']; exact h⟩
    · have e' : forB (callN Pg (n + 2)) (.nm 2) bT x [some (.ref 1), some (.int H), x2, x3, x4, x5, x6, x7] st = .ret (.tup [.int a, .int b, .int c]) st1 := by rw [forB_nm]; exact e
      exact ⟨st1, s1, .inr ⟨a, b, c, forL_r e', t⟩⟩
theorem table_ok (n : Nat) {H : Int} (h1 : 1 ≤ H) (h2 : H ≤ 10 ^ 9) {st rest : DS} (hs : Src st rest) : ∃ a b c st', callN Pg (n + 3) 22 [.ref 1, .int H] st = .ok (.tup [.int a, .int b, .int c]) st' ∧ Src st' rest ∧ Tb H a b c := by
  rw [call_eq (fd := f22) rfl rfl rfl (by show 2 ≤ 8; decide)]
  have r9 := itD_rng (st := st) (j := 9) (by decide)
  generalize (List.range (9 : Int).toNat).map (fun (k : Nat) => D.int (0 + (k : Int))) = xs at *
  obtain ⟨st1, s1, h⟩ := lapsT n h1 h2 xs (x2 := none) (x3 := none) (x4 := none) (x5 := none) (x6 := none) (x7 := none) hs
  have body : f22.body = [.forr (.nm 2) .rng [.lit (.int 9)] bT, .ret (.tup [.lit (.int 1), .neg (.lit (.int 1)), .neg (.lit (.int 1))])] := rfl
  have env : (List.map some [D.ref 1, D.int H] ++ List.replicate (f22.N.length - [D.ref 1, D.int H].length) none) = [some (.ref 1), some (.int H), none, none, none, none, none, none] := rfl
  rw [body, env]
  rcases h with ⟨y2, y3, y4, y5, y6, e⟩ | ⟨a, b, c, e, t⟩
  · refine ⟨1, -1, -1, st1, ?_, s1, tb5 h1⟩
    simp only [exs_c, exs_n, ex_for, eL_c, eL_n, ev_lit, bind_ok, to_ok, r9, of_some, e, sbind_nx]
    simp
  · refine ⟨a, b, c, st1, ?_, s1, t⟩
    simp only [exs_c, exs_n, ex_for, eL_c, eL_n, ev_lit, bind_ok, to_ok, r9, of_some, e, sbind_ret, end_ret]
end K08

set_option Elab.async false
set_option linter.all false
set_option maxRecDepth 100000
set_option maxHeartbeats 4000000
set_option exponentiation.threshold 20000
namespace K08
open PySem L2 MP N1 S
theorem sml9 {K i : Int} (h : Q K i) (g : K ≤ 10 ^ 290) : Sm i := by
  have z : (10 : Int) ^ 290 < 10 ^ 300 := by decide +kernel
  exact h.sml (by omega)
section
variable {a b c : Int} {m : Bool} {st : DS}
theorem rtold_eq (n : Nat) {f s t e : Int} (r : Rt a b c) (ml : ML [a, b, c]) (he : e ≠ 0) (h1 : f = a * e) (h2 : s = b * e) (h3 : t = c * e) (qf : Q (10 ^ 290) f) (qs : Q (10 ^ 290) s) (qt : Q (10 ^ 290) t) : callN Pg (n + 4) 7 [.int f, .int s, .int t, .bl m] st = .ok (rt a b c m) st := by
  have eD : s * s - 4 * f * t = Dq a b c * (e * e) := by
    unfold Dq
    rw [h1, h2, h3]; grind
  have f0 : f ≠ 0 := by rw [h1]; exact Int.mul_ne_zero (by have := r.a0; omega) he
  have hd : 0 ≤ s * s - 4 * f * t := by rw [eD]; exact Int.le_of_lt (Int.mul_pos r.d0 (sq_pos he))
  obtain ⟨a', b', c', e1, e2, l⟩ := root_root (P := Pg) (ι := ι) (n := n) (st := st) (m := m) (has.mono (by decide)) (sml9 qf (by decide +kernel)) (sml9 qs (by decide +kernel)) (sml9 qt (by decide +kernel)) f0 ((Q4.mul qf).bd (by decide +kernel)) (((qs.mul qs).sub ((Q4.mul qf).mul qt)).bd (by decide +kernel)) hd (fun z => by
    rw [eD] at z
    exact he (r.ns.ne z).2)
  have ne : sgL [f, s, t] ≠ 0 := (mtold_ex (nz3 f0)).1
  have := ml.uniq l he ne (by rw [← e2, h1, h2, h3]; rfl)
  obtain ⟨rfl, rfl, rfl⟩ : a = a' ∧ b = b' ∧ c = c' := by simpa using this
  exact e1
theorem fract_eq (n : Nat) {x q : Int} (hx : Q (10 ^ 290) x) (hq : Q (10 ^ 290) q) (q0 : 0 < q) : ∃ p' q' g, callN Pg (n + 3) 6 [.int x, .int q] st = .ok (.tup [.int p', .int q']) st ∧ 0 < g ∧ x = p' * g ∧ q = q' * g ∧ 0 < q' := by
  obtain ⟨p', q', e, e1, e2, l⟩ := fr_ok (P := Pg) (ι := ι) (n := n) (st := st) (has.mono (by decide)) (t := x) (b := q) (fun z => by omega) (sml9 hx (by decide +kernel)) (sml9 hq (by decide +kernel))
  have q0' : 0 < q' := by
    rcases l.2 with z | ⟨z, _⟩
    · exact z
    · rw [z, Int.zero_mul] at e2; omega
  refine ⟨p', q', _, e, ?_, e1, e2, q0'⟩
  generalize N1.sg x q = g at *
  refine Int.not_le.mp fun z => ?_
  have := Int.mul_nonpos_of_nonneg_of_nonpos (Int.le_of_lt q0') z
  omega
/-- a root against a fraction told least -/
theorem line_eq (n : Nat) (r : Rt a b c) (ha : Q W a) (hb : Q W b) (hc : Q W c) {x q p' q' g : Int} (hx : Q W x) (hq : Q W q) (g0 : 0 < g) (e1 : x = p' * g) (e2 : q = q' * g) (q0' : 0 < q') :
    callN Pg (n + 4) 12 [rt a b c m, .tup [.int p', .int q']] st = .ok (.int (if x ≤ Fl a b c m q then 1 else -1)) st ∧ callN Pg (n + 4) 12 [.tup [.int p', .int q'], rt a b c m] st = .ok (.int (-(if x ≤ Fl a b c m q then 1 else -1))) st := by
  have le : ∀ {y z : Int}, y = z * g → Q W y → Q W z := fun {y z} e h => by
    have := abs_le e (by omega)
    unfold Q at *
    omega
  have qp := le e1 hx
  have qq := le e2 hq
  have h1 : callN Pg (n + 4) 12 [rt a b c m, .tup [.int p', .int q']] st = _ := line_rf (P := Pg) (ι := ι) (n := n) (st := st) (m := m) (has.mono (by decide)) ha hb hc qp qq
  have h2 : callN Pg (n + 4) 12 [.tup [.int p', .int q'], rt a b c m] st = _ := line_fr (P := Pg) (ι := ι) (n := n) (st := st) (m := m) (has.mono (by decide)) ha hb hc qp qq
  rw [rs_bel r q0'] at h1 h2
  have e : (p' ≤ Fl a b c m q') = (x ≤ Fl a b c m q) := by
    rw [e1, e2]
    exact propext (fl_scale r q0' g0).symm
  simp only [e] at h1 h2
  exact ⟨h1, h2⟩
theorem blsT3 : blsD [.bl true, .bl true, .bl true] = some [true, true, true] := rfl
theorem told_four (n : Nat) {a b c : Int} {x : D} {v : Bool} (hr : callN Pg (n + 2) 14 [.tup [.int a, .int b, .int c, x]] st = .ok (.bl v) st) : callN Pg (n + 3) 15 [.tup [.int a, .int b, .int c, x]] st = .ok (.bl v) st := by
  rw [call_eq (fd := f15) rfl rfl rfl (by show 1 ≤ 2; decide)]
  have w : ∀ i : Int, callN Pg (n + 2) 0 [.int i] st = .ok (.bl true) st := fun i => whole_int (P := Pg) (ι := ι) (n := n + 1) (has.mono (m := [110]) (by decide))
  have e1 : ∀ i : Int, lcW (callN Pg (n + 2)) (.call 0 [.var 1]) (.nm 1) [] [1] [some (.tup [.int a, .int b, .int c, x]), none] (.int i) st = .ok (some (.bl true)) st := fun i => by simp [lcW_eq, w]
  have e2 : lcL (lcW (callN Pg (n + 2)) (.call 0 [.var 1]) (.nm 1) [] [1] [some (.tup [.int a, .int b, .int c, x]), none]) [.int a, .int b, .int c] [] st = .ok [.bl true, .bl true, .bl true] st := by
    rw [lcL_y (e1 _) (by show 0 < sizeLine; decide), lcL_y (e1 _) (by show 1 < sizeLine; decide), lcL_y (e1 _) (by show 2 < sizeLine; decide), lcL_n]
    rfl
  have s3 := sl_tup3 (xs := [.int a, .int b, .int c, x]) (st := st)
  have i0 : ι.f 110 = 0 := rfl
  have i1 : ι.f 24 = 14 := rfl
  simp [f15, PG.circlenumbers_is_told_number, i0, i1, nin24, ev_lc, ev_sl, s3, e2, blsT3, hr]
theorem root_is (n : Nat) (r : Rt a b c) (ml : ML [a, b, c]) (ha : Q W a) (hb : Q W b) (hc : Q W c) : callN Pg (n + 3) 15 [rt a b c m] st = .ok (.bl true) st := by
  refine told_four n ?_
  have h : callN Pg (n + 2) 14 [rt a b c m] st = _ := isroot_eq (P := Pg) (ι := ι) (n := n) (st := st) (m := m) (has.mono (by decide)) ha hb hc (Int.le_of_lt r.d0)
  rw [h, decide_eq_true r.a0, decide_eq_true ml.1, decide_eq_true r.d0, decide_eq_false (is_ns r.ns)]
  rfl
theorem repIn {i : Int} (h : Sm i) : biD .repr st [.int i] = some (.str (rpS (.int i))) := bi_repr (by simp [smB_of h.smI]) (by simp) (by simp)
theorem repRt (ha : Sm a) (hb : Sm b) (hc : Sm c) : biD .repr st [rt a b c m] = some (.str (rpS (rt a b c m))) := bi_repr (by simp [smB_of ha.smI, smB_of hb.smI, smB_of hc.smI]) (by simp) (by simp)
theorem rep4a : biD .repr st [.lst [.int 1, .int (-1), .int 1, .int (-1)]] = some (.str (rpS (.lst [.int 1, .int (-1), .int 1, .int (-1)]))) := bi_repr (by decide +kernel) (by decide +kernel) (by decide +kernel)
theorem rep4b : biD .repr st [.lst [.int (-1), .int 1, .int (-1), .int 1]] = some (.str (rpS (.lst [.int (-1), .int 1, .int (-1), .int 1]))) := bi_repr (by decide +kernel) (by decide +kernel) (by decide +kernel)
theorem rep3a : biD .repr st [.lst [.int (-1), .int 1, .int 0]] = some (.str (rpS (.lst [.int (-1), .int 1, .int 0]))) := bi_repr (by decide +kernel) (by decide +kernel) (by decide +kernel)
theorem rep1a : biD .repr st [.int 1] = some (.str (rpS (.int 1))) := bi_repr (by decide +kernel) (by decide +kernel) (by decide +kernel)
theorem rep1b : biD .repr st [.int (-1)] = some (.str (rpS (.int (-1)))) := bi_repr (by decide +kernel) (by decide +kernel) (by decide +kernel)
end
end K08

set_option Elab.async false
set_option linter.all false
set_option maxRecDepth 100000
set_option maxHeartbeats 4000000
set_option exponentiation.threshold 20000
namespace K08
open PySem L2 MP N1 S
abbrev C12 := callN Pg 12
def rf : List S := [.ret (.lit (.bl false))]
theorem lc4 {st : DS} {f : D → DS → R (Option D)} {a b c d a' b' c' d' : D} (h1 : f a st = .ok (some a') st) (h2 : f b st = .ok (some b') st) (h3 : f c st = .ok (some c') st) (h4 : f d st = .ok (some d') st) : lcL f [a, b, c, d] [] st = .ok [a', b', c', d'] st := by
  rw [lcL_y h1 (by show 0 < sizeLine; decide), lcL_y h2 (by show 1 < sizeLine; decide), lcL_y h3 (by show 2 < sizeLine; decide), lcL_y h4 (by show 3 < sizeLine; decide), lcL_n]
  rfl
def bF : List S := [.asg (.nm 11) (.call 24 [.var 1, .var 3]), .slc 12 (.lc false (.call 6 [.var 13, .var 3]) (.nm 13) .seq [.tup [.var 11, .bin .add (.var 11) (.lit (.int 1)), .bin .sub (.var 11) (.var 3), .bin .add (.bin .add (.var 11) (.var 3)) (.lit (.int 1))]] [] [13]), .ife (.cmp .ne (.bi .repr [.lc false (.call 12 [.var 1, .var 13]) (.nm 13) .seq [.var 12] [] [13]]) (.bi .repr [.lst false [.lit (.int 1), .neg (.lit (.int 1)), .lit (.int 1), .neg (.lit (.int 1))]])) rf [], .ife (.cmp .ne (.bi .repr [.lc false (.call 12 [.var 13, .var 1]) (.nm 13) .seq [.var 12] [] [13]]) (.bi .repr [.lst false [.neg (.lit (.int 1)), .lit (.int 1), .neg (.lit (.int 1)), .lit (.int 1)]])) rf []]
section
variable {a b c by0 : Int} {m : Bool} {x3 x4 x5 x6 x11 x12 x13 : Option D}
abbrev EV (a b c by0 : Int) (m : Bool) (x3 x4 x5 x6 x11 x12 x13 : Option D) : MP.Env := [some (.ref 1), some (rt a b c m), some (.int by0), x3, x4, x5, x6, some (.int a), some (.int b), some (.int c), some (.bl m), x11, x12, x13]
theorem lapF (t : Tb (10 ^ 9) a b c) {q : Int} (q0 : 0 < q) (hq : q ≤ 10 ^ 31) (st : DS) : ∃ y11 y12, forB C12 (.nm 3) bF (.int q) (EV a b c by0 m x3 x4 x5 x6 x11 x12 x13) st = .nx (EV a b c by0 m (some (.int q)) x4 x5 x6 y11 y12 x13) st := by
  have lw : ∀ {i : Int}, Q (10 ^ 9) i → Q W i := fun h => h.le (by decide +kernel)
  have fl : C12 24 [rt a b c m, .int q] st = _ := floor_law 10 (m := m) (st := st) t.r t.qa t.qb t.qc (by
    have : (10 : Int) ^ 31 ≤ 10 ^ 100 := by decide +kernel
    omega) q0
  obtain ⟨g1, g2⟩ := fl_ends (m := m) t.r q0
  have qq : Q (10 ^ 31) q := by unfold Q; omega
  have qM : Q (3 * 10 ^ 9) (2 + (b.natAbs : Int) + (c.natAbs : Int)) := by have := t.qb; have := t.qc; unfold Q at *; omega
  have qL := (qM.mul qq)
  have lin := fun {x : Int} {p' q' g : Int} (hx : Q W x) (g0 : 0 < g) (e1 : x = p' * g) (e2 : q = q' * g) (q0' : 0 < q') => line_eq 8 (m := m) (st := st) t.r (lw t.qa) (lw t.qb) (lw t.qc) hx (qq.le (by decide +kernel)) g0 e1 e2 q0'
  have frac := fun {x : Int} (hx : Q W x) => fract_eq 9 (st := st) (x := x) (hx.le (by decide +kernel)) (qq.le (by decide +kernel)) q0
  generalize Fl a b c m q = F at *
  have qF : Q (4 * 10 ^ 40) F := by
    have : (3 * 10 ^ 9 * 10 ^ 31 : Int) ≤ 4 * 10 ^ 40 := by decide +kernel
    unfold Q at *; omega
  have big : (4 * 10 ^ 40 : Int) + 10 ^ 31 + 10 ≤ W := by decide +kernel
  have h1 : Q W F := by unfold Q at *; omega
  have h2 : Q W (F + 1) := by unfold Q at *; omega
  have h3 : Q W (F - q) := by unfold Q at *; omega
  have h4 : Q W (F + q + 1) := by unfold Q at *; omega
  obtain ⟨p1, r1, s1, c1, k1, i1, j1, z1⟩ := frac h1
  obtain ⟨p2, r2, s2, c2, k2, i2, j2, z2⟩ := frac h2
  obtain ⟨p3, r3, s3, c3, k3, i3, j3, z3⟩ := frac h3
  obtain ⟨p4, r4, s4, c4, k4, i4, j4, z4⟩ := frac h4
  obtain ⟨u1, v1⟩ := lin h1 k1 i1 j1 z1
  obtain ⟨u2, v2⟩ := lin h2 k2 i2 j2 z2
  obtain ⟨u3, v3⟩ := lin h3 k3 i3 j3 z3
  obtain ⟨u4, v4⟩ := lin h4 k4 i4 j4 z4
  rw [if_pos (by omega)] at u1 v1 u3 v3
  rw [if_neg (by omega)] at u2 v2 u4 v4
  have l1 : lcL (lcW C12 (.call 6 [.var 13, .var 3]) (.nm 13) [] [13] (EV a b c by0 m (some (.int q)) x4 x5 x6 (some (.int F)) x12 x13)) [.int F, .int (F + 1), .int (F - q), .int (F + q + 1)] [] st = .ok [.tup [.int p1, .int r1], .tup [.int p2, .int r2], .tup [.int p3, .int r3], .tup [.int p4, .int r4]] st :=
    lc4 (by simp [lcW_eq, c1]) (by simp [lcW_eq, c2]) (by simp [lcW_eq, c3]) (by simp [lcW_eq, c4])
  have l2 : lcL (lcW C12 (.call 12 [.var 1, .var 13]) (.nm 13) [] [13] (EV a b c by0 m (some (.int q)) x4 x5 x6 (some (.int F)) (some (.lst [.tup [.int p1, .int r1], .tup [.int p2, .int r2], .tup [.int p3, .int r3], .tup [.int p4, .int r4]])) x13)) [.tup [.int p1, .int r1], .tup [.int p2, .int r2], .tup [.int p3, .int r3], .tup [.int p4, .int r4]] [] st = .ok [.int 1, .int (-1), .int 1, .int (-1)] st :=
    lc4 (by simp [lcW_eq, u1]) (by simp [lcW_eq, u2]) (by simp [lcW_eq, u3]) (by simp [lcW_eq, u4])
  have l3 : lcL (lcW C12 (.call 12 [.var 13, .var 1]) (.nm 13) [] [13] (EV a b c by0 m (some (.int q)) x4 x5 x6 (some (.int F)) (some (.lst [.tup [.int p1, .int r1], .tup [.int p2, .int r2], .tup [.int p3, .int r3], .tup [.int p4, .int r4]])) x13)) [.tup [.int p1, .int r1], .tup [.int p2, .int r2], .tup [.int p3, .int r3], .tup [.int p4, .int r4]] [] st = .ok [.int (-1), .int 1, .int (-1), .int 1] st :=
    lc4 (by simp [lcW_eq, v1]) (by simp [lcW_eq, v2]) (by simp [lcW_eq, v3]) (by simp [lcW_eq, v4])
  have ra := rep4a (st := st)
  have rb := rep4b (st := st)
  simp only [EV] at l1 l2 l3
  refine ⟨some (.int F), some (.lst [.tup [.int p1, .int r1], .tup [.int p2, .int r2], .tup [.int p3, .int r3], .tup [.int p4, .int r4]]), ?_⟩
  rw [forB_nm]
  simp [bF, rf, fl, l1, l2, l3, ra, rb]
end
end K08

set_option Elab.async false
set_option linter.all false
set_option maxRecDepth 100000
set_option maxHeartbeats 4000000
set_option exponentiation.threshold 20000
namespace K08
open PySem L2 MP N1 S
def g1 : S := .asg (.tp [.nm 7, .nm 8, .nm 9, .nm 10]) (.var 1)
def g2 : S := .ife (.or (.cmp .ne (.bi .repr [.call 7 [.bin .mul (.var 2) (.var 7), .bin .mul (.var 2) (.var 8), .bin .mul (.var 2) (.var 9), .var 10]]) (.bi .repr [.var 1])) (.cmp .isnb (.call 15 [.var 1]) (.lit (.bl true)))) rf []
def g3 : S := .ife (.cmp .ne (.bi .repr [.call 13 [.var 1]]) (.bi .repr [.call 24 [.var 1, .lit (.int 1)]])) rf []
def g4 : S := .forr (.nm 3) .seq [.tup [.lit (.int 1), .bin .add (.lit (.int 2)) (.call 17 [.var 0, .lit (.int 97)]), .call 20 [.lit (.int 10), .lit (.int 30)]]] bF
def g5 : S := .asg (.nm 4) (.call 20 [.lit (.int 10), .bin .add (.lit (.int 1)) (.call 17 [.var 0, .lit (.int 40)])])
def g6 : S := .asg (.nm 5) (.call 7 [.bin .mul (.bin .mul (.var 7) (.var 4)) (.var 4), .bin .sub (.bin .mul (.bin .mul (.var 8) (.var 4)) (.var 4)) (.bin .mul (.bin .mul (.lit (.int 2)) (.var 7)) (.var 4)), .bin .add (.bin .sub (.var 7) (.bin .mul (.var 8) (.var 4))) (.bin .mul (.bin .mul (.var 9) (.var 4)) (.var 4)), .var 10])
def g7 : S := .ife (.cmp .ne (.bi .repr [.lst false [.call 12 [.var 1, .var 5], .call 12 [.var 5, .var 1], .call 12 [.var 1, .var 1]]]) (.bi .repr [.lst false [.neg (.lit (.int 1)), .lit (.int 1), .lit (.int 0)]])) rf []
def g8 : S := .asg (.nm 6) (.lst false [.tup [.var 7, .var 8, .var 9, .lit (.bl false)], .tup [.var 7, .var 8, .var 9, .lit (.bl true)]])
def g9 : S := .ret (.and (.cmp .eq (.bi .repr [.call 12 [.ix (.var 6) (.lit (.int 0)), .ix (.var 6) (.lit (.int 1))]]) (.bi .repr [.neg (.lit (.int 1))])) (.cmp .eq (.bi .repr [.call 12 [.ix (.var 6) (.lit (.int 1)), .ix (.var 6) (.lit (.int 0))]]) (.bi .repr [.lit (.int 1)])))
theorem body25 : f25.body = [g1, g2, g3, g4, g5, g6, g7, g8, g9] := rfl
section
variable {a b c by0 : Int} {m : Bool} {x3 x4 x5 x6 x11 x12 x13 : Option D}
theorem zs2 (t : Tb (10 ^ 9) a b c) (b0 : by0 ≠ 0) (qb : Q (10 ^ 12) by0) (st : DS) : exec C12 g2 (EV a b c by0 m x3 x4 x5 x6 x11 x12 x13) st = .nx (EV a b c by0 m x3 x4 x5 x6 x11 x12 x13) st := by
  have lw : ∀ {i : Int}, Q (10 ^ 9) i → Q W i := fun h => h.le (by decide +kernel)
  have m1 := b_mulB (st := st) (qb.bd (by decide +kernel)) (t.qa.bd (by decide +kernel))
  have m2 := b_mulB (st := st) (qb.bd (by decide +kernel)) (t.qb.bd (by decide +kernel))
  have m3 := b_mulB (st := st) (qb.bd (by decide +kernel)) (t.qc.bd (by decide +kernel))
  have e := rtold_eq (st := st) (m := m) 8 t.r t.l b0 (Int.mul_comm by0 a) (Int.mul_comm by0 b) (Int.mul_comm by0 c) ((qb.mul t.qa).le (by decide +kernel)) ((qb.mul t.qb).le (by decide +kernel)) ((qb.mul t.qc).le (by decide +kernel))
  have e2 := root_is (st := st) (m := m) 9 t.r t.l (lw t.qa) (lw t.qb) (lw t.qc)
  have r := repRt (st := st) (m := m) (sml9 t.qa (by decide +kernel)) (sml9 t.qb (by decide +kernel)) (sml9 t.qc (by decide +kernel))
  simp [g2, rf, m1, m2, m3, e, e2, r]
theorem zs3 (t : Tb (10 ^ 9) a b c) (st : DS) : exec C12 g3 (EV a b c by0 m x3 x4 x5 x6 x11 x12 x13) st = .nx (EV a b c by0 m x3 x4 x5 x6 x11 x12 x13) st := by
  have lw : ∀ {i : Int}, Q (10 ^ 9) i → Q W i := fun h => h.le (by decide +kernel)
  have e : C12 13 [rt a b c m] st = _ := rfloor_eq (P := Pg) (ι := ι) (n := 10) (st := st) (m := m) (has.mono (by decide)) t.r (lw t.qa) (lw t.qb) (lw t.qc)
  have e2 : C12 24 [rt a b c m, .int 1] st = _ := floor_law 10 (m := m) (st := st) t.r t.qa t.qb t.qc (by decide +kernel) (by decide)
  obtain ⟨k1, k2⟩ := fl_ends (m := m) t.r (show (0 : Int) < 1 by decide)
  have r := repIn (st := st) (i := Fl a b c m 1) (sml9 (K := 10 ^ 20) (by
    have := t.qb; have := t.qc; unfold Q at *; omega) (by decide +kernel))
  simp [g3, rf, e, e2, r]
theorem zs4 (t : Tb (10 ^ 9) a b c) {st rest : DS} (hs : Src st rest) : ∃ y3 y11 y12 st', exec C12 g4 (EV a b c by0 m x3 x4 x5 x6 x11 x12 x13) st = .nx (EV a b c by0 m y3 x4 x5 x6 y11 y12 x13) st' ∧ Src st' rest := by
  obtain ⟨r1, st1, e1, p1, p2, s1⟩ := pick_ok (n := 11) hp hs (many := 97) (by decide) (by decide +kernel)
  have e2 : C12 20 [.int 10, .int 30] st1 = .ok (.int (10 ^ 30)) st1 := power_eq 11 st1 30 (by decide)
  obtain ⟨y1, z1, f1⟩ := lapF (x3 := x3) (x4 := x4) (x5 := x5) (x6 := x6) (x11 := x11) (x12 := x12) (x13 := x13) (m := m) (by0 := by0) t (q := 1) (by decide) (by decide +kernel) st1
  obtain ⟨y2, z2, f2⟩ := lapF (x3 := some (.int 1)) (x4 := x4) (x5 := x5) (x6 := x6) (x11 := y1) (x12 := z1) (x13 := x13) (m := m) (by0 := by0) t (q := 2 + r1) (by omega) (by
    have : (100 : Int) ≤ 10 ^ 31 := by decide +kernel
    omega) st1
  obtain ⟨y3, z3, f3⟩ := lapF (x3 := some (.int (2 + r1))) (x4 := x4) (x5 := x5) (x6 := x6) (x11 := y2) (x12 := z2) (x13 := x13) (m := m) (by0 := by0) t (q := 10 ^ 30) (by decide +kernel) (by decide +kernel) st1
  refine ⟨some (.int (10 ^ 30)), y3, z3, st1, ?_, s1⟩
  simp only [g4, ex_for, eL_c, eL_n, ev_tup, ev_lit, ev_bin, ev_call, ev_var, getV_z, of_some, bind_ok, e1, b_add, e2, List.length_cons, List.length_nil, Nat.zero_add, Nat.reduceAdd, sz3, if_true, to_ok, itD_tup, forL_c f1, forL_c f2, forL_c f3, forL_n]
theorem s56 (t : Tb (10 ^ 9) a b c) {st rest : DS} (hs : Src st rest) : ∃ (k : Nat) (st' : DS), k ≤ 40 ∧ 1 ≤ k ∧ exec C12 g5 (EV a b c by0 m x3 x4 x5 x6 x11 x12 x13) st = .nx (EV a b c by0 m x3 (some (.int (10 ^ k))) x5 x6 x11 x12 x13) st' ∧ Src st' rest := by
  obtain ⟨r1, st1, e1, p1, p2, s1⟩ := pick_ok (n := 11) hp hs (many := 40) (by decide) (by decide +kernel)
  obtain ⟨k, rfl⟩ := Int.eq_ofNat_of_zero_le p1
  have e2 : C12 20 [.int 10, .int (1 + (k : Int))] st1 = .ok (.int (10 ^ (1 + k))) st1 := power_eq 11 st1 (1 + k) (by omega)
  refine ⟨1 + k, st1, by omega, by omega, ?_, s1⟩
  simp [g5, e1, e2]
theorem mate_lo (r : Rt a b c) : Abv a b c false (-b) (2 * a) ∧ Bel a b c true (-b) (2 * a) := by
  have a0 := r.a0
  have d := Int.mul_pos r.d0 (Int.mul_pos (show 0 < 2 * a by omega) (show 0 < 2 * a by omega))
  have e : 2 * a * -b + b * (2 * a) = 0 := by grind
  have e1 : sm true * (2 * a) = 2 * a := Int.one_mul _
  have e2 : -(sm false * (2 * a)) = 2 * a := by show -(-1 * (2 * a)) = 2 * a; omega
  unfold Abv Bel N1.Pos
  rw [e, e1, e2]
  exact ⟨.inr ⟨by omega, by omega⟩, .inr ⟨by omega, by omega⟩⟩
theorem s67 (t : Tb (10 ^ 9) a b c) (k : Nat) (hk : k ≤ 40) (st : DS) : ∃ y5, exec C12 g6 (EV a b c by0 m x3 (some (.int (10 ^ k))) x5 x6 x11 x12 x13) st = .nx (EV a b c by0 m x3 (some (.int (10 ^ k))) y5 x6 x11 x12 x13) st ∧ exec C12 g7 (EV a b c by0 m x3 (some (.int (10 ^ k))) y5 x6 x11 x12 x13) st = .nx (EV a b c by0 m x3 (some (.int (10 ^ k))) y5 x6 x11 x12 x13) st := by
  have lw : ∀ {i : Int}, Q (10 ^ 9) i → Q W i := fun h => h.le (by decide +kernel)
  have n0 : (0 : Int) < 10 ^ k := Int.pow_pos (by decide)
  have qn : Q (10 ^ 40) (10 ^ k) := by
    have h := Nat.pow_le_pow_right (n := 10) (by decide) hk
    have := Int.ofNat_le.mpr h
    rw [Int.natCast_pow, Int.natCast_pow] at this
    have h2 : (10 : Int) ^ k ≤ 10 ^ 40 := this
    unfold Q
    omega
  generalize (10 : Int) ^ k = n at *
  have q1 := t.qa.mul qn
  have q2 := q1.mul qn
  have q3 := t.qb.mul qn
  have q4 := q3.mul qn
  have q5 := Q2.mul t.qa
  have q6 := q5.mul qn
  have q7 := t.qc.mul qn
  have q8 := q7.mul qn
  have m1 := b_mulB (st := st) (t.qa.bd (by decide +kernel)) (qn.bd (by decide +kernel))
  have m2 := b_mulB (st := st) (q1.bd (by decide +kernel)) (qn.bd (by decide +kernel))
  have m3 := b_mulB (st := st) (t.qb.bd (by decide +kernel)) (qn.bd (by decide +kernel))
  have m4 := b_mulB (st := st) (q3.bd (by decide +kernel)) (qn.bd (by decide +kernel))
  have m5 := b_mulB (st := st) (Q2.bd (by decide +kernel)) (t.qa.bd (by decide +kernel))
  have m6 := b_mulB (st := st) (q5.bd (by decide +kernel)) (qn.bd (by decide +kernel))
  have m7 := b_mulB (st := st) (t.qc.bd (by decide +kernel)) (qn.bd (by decide +kernel))
  have m8 := b_mulB (st := st) (q7.bd (by decide +kernel)) (qn.bd (by decide +kernel))
  have qF := q2.le (L := W) (by decide +kernel)
  have qS := (q4.sub q6).le (L := W) (by decide +kernel)
  have qT := ((t.qa.sub q3).add q8).le (L := W) (by decide +kernel)
  have F0 : 0 < a * n * n := Int.mul_pos (Int.mul_pos t.r.a0 n0) n0
  have hz : nz [a * n * n, b * n * n - 2 * a * n, a - b * n + c * n * n] = a * n * n :: nz [b * n * n - 2 * a * n, a - b * n + c * n * n] := nz3 (by omega)
  obtain ⟨ne, es, xs, f1, f2, ml⟩ := mtold_ex hz
  rw [if_pos F0] at es
  match xs, f1, f2, ml with
  | [], f1, _, _ => simp at f1
  | [_], f1, _, _ => simp at f1
  | [_, _], f1, _, _ => simp at f1
  | _ :: _ :: _ :: _ :: _, f1, _, _ => simp at f1
  | [A, B, C], f1, f2, ml =>
    generalize hG : sgL [a * n * n, b * n * n - 2 * a * n, a - b * n + c * n * n] = G at *
    have f2' : a * n * n = A * G ∧ b * n * n - 2 * a * n = B * G ∧ a - b * n + c * n * n = C * G := by simpa using f2
    obtain ⟨h1, h2, h3⟩ := f2'
    have G0 : 0 < G := by omega
    have A0 : 0 < A := by
      refine Int.not_le.mp fun z => ?_
      have := Int.mul_nonpos_of_nonpos_of_nonneg z (Int.le_of_lt G0)
      omega
    obtain ⟨R', bi⟩ := mvd t.r n0 G0 A0 h1 h2 h3
    obtain ⟨u, u1, u2⟩ := mvd_ord (m := m) t.r n0 R' bi
    have le : ∀ {y z : Int}, y = z * G → Q W y → Q W z := fun {y z} e h => by
      have := abs_le e ne
      unfold Q at *
      omega
    have qA := le h1 qF
    have qB := le h2 qS
    have qC := le h3 qT
    have ct := rtold_eq (st := st) (m := m) 8 R' ml ne h1 h2 h3 (qF.le (by decide +kernel)) (qS.le (by decide +kernel)) (qT.le (by decide +kernel))
    have o1 : C12 12 [rt a b c m, rt A B C m] st = _ := line_rr (P := Pg) (ι := ι) (n := 8) (st := st) (m := m) (k := m) (has.mono (by decide)) (lw t.qa) (lw t.qb) (lw t.qc) qA qB qC
    have o2 : C12 12 [rt A B C m, rt a b c m] st = _ := line_rr (P := Pg) (ι := ι) (n := 8) (st := st) (m := m) (k := m) (has.mono (by decide)) qA qB qC (lw t.qa) (lw t.qb) (lw t.qc)
    have o3 : C12 12 [rt a b c m, rt a b c m] st = _ := line_rr (P := Pg) (ι := ι) (n := 8) (st := st) (m := m) (k := m) (has.mono (by decide)) (lw t.qa) (lw t.qb) (lw t.qc) (lw t.qa) (lw t.qb) (lw t.qc)
    rw [ord_neg t.r R' n0 u1 u2] at o1
    rw [ord_pos R' t.r n0 u2 u1] at o2
    rw [ord_self t.r] at o3
    have r3 := rep3a (st := st)
    refine ⟨some (rt A B C m), ?_, ?_⟩
    · simp [g6, m1, m2, m3, m4, m5, m6, m7, m8, ct]
    · simp [g7, rf, o1, o2, o3, r3]
theorem s89 (t : Tb (10 ^ 9) a b c) (st : DS) : execs C12 [g8, g9] (EV a b c by0 m x3 x4 x5 x6 x11 x12 x13) st = .ret (.bl true) st := by
  have lw : ∀ {i : Int}, Q (10 ^ 9) i → Q W i := fun h => h.le (by decide +kernel)
  obtain ⟨u1, u2⟩ := mate_lo t.r
  have n0 : 0 < 2 * a := by have := t.r.a0; omega
  have o1 : C12 12 [rt a b c false, rt a b c true] st = _ := line_rr (P := Pg) (ι := ι) (n := 8) (st := st) (m := false) (k := true) (has.mono (by decide)) (lw t.qa) (lw t.qb) (lw t.qc) (lw t.qa) (lw t.qb) (lw t.qc)
  have o2 : C12 12 [rt a b c true, rt a b c false] st = _ := line_rr (P := Pg) (ι := ι) (n := 8) (st := st) (m := true) (k := false) (has.mono (by decide)) (lw t.qa) (lw t.qb) (lw t.qc) (lw t.qa) (lw t.qb) (lw t.qc)
  rw [ord_neg t.r t.r n0 u1 u2] at o1
  rw [ord_pos t.r t.r n0 u2 u1] at o2
  have r1 := rep1a (st := st)
  have r2 := rep1b (st := st)
  simp [g8, g9, o1, o2, r1, r2]
theorem root_right (t : Tb (10 ^ 9) a b c) (b0 : by0 ≠ 0) (qb : Q (10 ^ 12) by0) {st rest : DS} (hs : Src st rest) : ∃ st', callN Pg 13 25 [.ref 1, rt a b c m, .int by0] st = .ok (.bl true) st' ∧ Src st' rest := by
  rw [call_eq (fd := f25) rfl rfl rfl (by show 3 ≤ 14; decide)]
  have env : (List.map some [D.ref 1, rt a b c m, D.int by0] ++ List.replicate (f25.N.length - [D.ref 1, rt a b c m, D.int by0].length) none) = [some (.ref 1), some (rt a b c m), some (.int by0), none, none, none, none, none, none, none, none, none, none, none] := rfl
  rw [env, body25]
  obtain ⟨y3, y11, y12, st1, e4, h1⟩ := zs4 (x3 := none) (x4 := none) (x5 := none) (x6 := none) (x11 := none) (x12 := none) (x13 := none) (m := m) (by0 := by0) t hs
  obtain ⟨k, st2, k1, _, e5, h2⟩ := s56 (x3 := y3) (x4 := none) (x5 := none) (x6 := none) (x11 := y11) (x12 := y12) (x13 := none) (m := m) (by0 := by0) t h1
  obtain ⟨y5, e6, e7⟩ := s67 (x3 := y3) (x5 := none) (x6 := none) (x11 := y11) (x12 := y12) (x13 := none) (m := m) (by0 := by0) t k k1 st2
  have e8 := s89 (x3 := y3) (x4 := some (.int (10 ^ k))) (x5 := y5) (x6 := none) (x11 := y11) (x12 := y12) (x13 := none) (m := m) (by0 := by0) t st2
  have e1 : exec C12 g1 [some (.ref 1), some (rt a b c m), some (.int by0), none, none, none, none, none, none, none, none, none, none, none] st = .nx (EV a b c by0 m none none none none none none none) st := by simp [g1]
  refine ⟨st2, ?_, h2⟩
  rw [exs_c, e1, sbind_nx, exs_c, zs2 t b0 qb, sbind_nx, exs_c, zs3 t, sbind_nx, exs_c, e4, sbind_nx, exs_c, e5, sbind_nx, exs_c, e6, sbind_nx, exs_c, e7, sbind_nx, e8]
  rfl
end
end K08

set_option Elab.async false
set_option linter.all false
set_option maxRecDepth 100000
set_option maxHeartbeats 4000000
set_option exponentiation.threshold 20000
namespace K08
open PySem L2 MP N1 S
/-- a polynomial of two fractions -/
theorem parts_ok (n : Nat) (st : DS) {p q r s by0 p1 q1 r1 s1 g h : Int} (m : Bool) (qp : Q 30 p) (qr : Q 30 r) (q0 : 0 < q) (q9 : q ≤ 12) (s0 : 0 < s) (s9 : s ≤ 12) (b0 : by0 ≠ 0) (qb : Q 6 by0) (l1 : Lst p1 q1) (l2 : Lst r1 s1) (e1 : p = p1 * g) (e2 : q = q1 * g) (e3 : r = r1 * h) (e4 : s = s1 * h) :
    callN Pg (n + 4) 7 [.int (by0 * q * s), .int (by0 * (0 - q * r - p * s)), .int (by0 * p * r), .bl m] st = .ok (if m = decide (p * s < r * q) then .tup [.int r1, .int s1] else .tup [.int p1, .int q1]) st := by
  have qq : Q 12 q := ⟨by omega, q9⟩
  have qs : Q 12 s := ⟨by omega, s9⟩
  have z0 : Q 0 0 := ⟨by decide, by decide⟩
  have qF := (qb.mul qq).mul qs
  have qS := qb.mul ((z0.sub (qq.mul qr)).sub (qp.mul qs))
  have qT := (qb.mul qp).mul qr
  have eD : by0 * (0 - q * r - p * s) * (by0 * (0 - q * r - p * s)) - 4 * (by0 * q * s) * (by0 * p * r) = (by0 * (q * r - p * s)) * (by0 * (q * r - p * s)) := by grind
  have qX := qb.mul ((qq.mul qr).sub (qp.mul qs))
  have hd : 0 ≤ by0 * (0 - q * r - p * s) * (by0 * (0 - q * r - p * s)) - 4 * (by0 * q * s) * (by0 * p * r) := by rw [eD]; exact sq_nn _
  have ei : isq (by0 * (0 - q * r - p * s) * (by0 * (0 - q * r - p * s)) - 4 * (by0 * q * s) * (by0 * p * r)) = ((by0 * (q * r - p * s)).natAbs : Int) := by
    rw [eD]
    symm
    have na : ((by0 * (q * r - p * s)).natAbs : Int) * ((by0 * (q * r - p * s)).natAbs : Int) = (by0 * (q * r - p * s)) * (by0 * (q * r - p * s)) := Int.natAbs_mul_self' _
    refine isq_uniq (sq_nn _) (by omega) (by omega) ?_
    have g : (((by0 * (q * r - p * s)).natAbs : Int) + 1) * (((by0 * (q * r - p * s)).natAbs : Int) + 1) = ((by0 * (q * r - p * s)).natAbs : Int) * ((by0 * (q * r - p * s)).natAbs : Int) + 2 * ((by0 * (q * r - p * s)).natAbs : Int) + 1 := by grind
    omega
  have rf := root_frac (P := Pg) (ι := ι) (n := n) (st := st) (m := m) (has.mono (by decide)) (qF.bd (by decide +kernel)) (qS.bd (by decide +kernel)) ((Q4.mul qF).bd (by decide +kernel)) (qT.bd (by decide +kernel)) (((qS.mul qS).sub ((Q4.mul qF).mul qT)).bd (by decide +kernel)) hd (by rw [ei, eD]; exact Int.natAbs_mul_self' _)
  rw [ei] at rf
  have F0 : by0 * q * s ≠ 0 := Int.mul_ne_zero (Int.mul_ne_zero b0 (by omega)) (by omega)
  have num : rsign m (by0 * q * s) * ((by0 * (q * r - p * s)).natAbs : Int) - by0 * (0 - q * r - p * s) = if m = decide (p * s < r * q) then 2 * by0 * q * r else 2 * by0 * p * s := by
    have cm : r * q = q * r := Int.mul_comm ..
    have hX : ∀ X : Int, (by0 * X).natAbs = by0.natAbs * X.natAbs := fun X => Int.natAbs_mul ..
    rw [hX, cm]
    have w : ∃ X, X = q * r - p * s := ⟨_, rfl⟩
    obtain ⟨X, hX'⟩ := w
    have dl : decide (p * s < q * r) = decide (0 < X) := decide_eq_decide.mpr (by omega)
    rw [dl, ← hX']
    have k : rsign m (by0 * q * s) * ((by0.natAbs * X.natAbs : Nat) : Int) = by0 * (if m = decide (0 < X) then X else -X) := by
      rw [Int.natCast_mul]
      unfold rsign
      have sF : decide (0 < by0 * q * s) = decide (0 < by0) := by
        refine decide_eq_decide.mpr ⟨fun h => ?_, fun h => Int.mul_pos (Int.mul_pos h q0) s0⟩
        refine Int.not_le.mp fun z => ?_
        have h1 := Int.mul_nonpos_of_nonpos_of_nonneg z (Int.le_of_lt (Int.mul_pos q0 s0))
        rw [← Int.mul_assoc] at h1
        omega
      rw [sF]
      by_cases hb : 0 < by0
      · have a1 : ((by0.natAbs : Nat) : Int) = by0 := by omega
        rw [a1, decide_eq_true hb]
        by_cases x0 : 0 < X
        · have a2 : ((X.natAbs : Nat) : Int) = X := by omega
          rw [a2, decide_eq_true x0]
          cases m <;> simp [Int.mul_neg, Int.neg_mul, Int.neg_neg]
        · have a2 : ((X.natAbs : Nat) : Int) = -X := by omega
          rw [a2, decide_eq_false x0]
          cases m <;> simp [Int.mul_neg, Int.neg_mul, Int.neg_neg]
      · have a1 : ((by0.natAbs : Nat) : Int) = -by0 := by omega
        rw [a1, decide_eq_false hb]
        by_cases x0 : 0 < X
        · have a2 : ((X.natAbs : Nat) : Int) = X := by omega
          rw [a2, decide_eq_true x0]
          cases m <;> simp [Int.mul_neg, Int.neg_mul, Int.neg_neg]
        · have a2 : ((X.natAbs : Nat) : Int) = -X := by omega
          rw [a2, decide_eq_false x0]
          cases m <;> simp [Int.mul_neg, Int.neg_mul, Int.neg_neg]
    rw [k]
    split
    · rw [hX']; grind
    · rw [hX']; grind
  rw [num] at rf
  have rf' : callN Pg (n + 4) 7 [.int (by0 * q * s), .int (by0 * (0 - q * r - p * s)), .int (by0 * p * r), .bl m] st = callN Pg (n + 3) 6 [.int (if m = decide (p * s < r * q) then 2 * by0 * q * r else 2 * by0 * p * s), .int (2 * (by0 * q * s))] st := rf
  rw [rf']
  have sb := sml9 (Q2.mul qF) (by decide +kernel)
  by_cases w : m = decide (p * s < r * q)
  · rw [if_pos w, if_pos w]
    exact fr_eq (P := Pg) (ι := ι) (n := n) (st := st) (has.mono (by decide)) (fun z => by omega) (sml9 (((Q2.mul qb).mul qq).mul qr) (by decide +kernel)) sb l2 (by rw [e3, e4]; grind)
  · rw [if_neg w, if_neg w]
    exact fr_eq (P := Pg) (ι := ι) (n := n) (st := st) (has.mono (by decide)) (fun z => by omega) (sml9 (((Q2.mul qb).mul qp).mul qs) (by decide +kernel)) sb l1 (by rw [e1, e2]; grind)
/-- parts of a pair -/
theorem pair_part (n : Nat) (st : DS) {p q : Int} (qp : Q 30 p) (q0 : 0 < q) (q9 : q ≤ 12) : ∃ p1 q1 g, callN Pg (n + 1) 19 [.int p, .int q] st = .ok (.int g) st ∧ 0 < g ∧ g ≤ 12 ∧ p = p1 * g ∧ q = q1 * g ∧ Lst p1 q1 ∧ p.fdiv g = p1 ∧ q.fdiv g = q1 := by
  obtain ⟨p1, q1, e1, e2, e3, e4, l⟩ := told_ex (t := p) (b := q) (fun z => by omega)
  have h := part_eq n st p q (Q.bd (K := 12) ⟨by omega, q9⟩ (by decide +kernel))
  have hs : N1.sg p q = ((Nat.gcd p.natAbs q.natAbs : Nat) : Int) := by
    unfold N1.sg
    rw [if_neg (by omega)]
    rfl
  rw [hs] at e1 e2 e3 e4
  have g1 : 0 < Nat.gcd p.natAbs q.natAbs := Nat.gcd_pos_of_pos_right _ (by omega)
  have g2 : Nat.gcd p.natAbs q.natAbs ≤ q.natAbs := Nat.le_of_dvd (by omega) (Nat.gcd_dvd_right ..)
  exact ⟨p1, q1, _, h, by omega, by omega, e3, e4, l, e1, e2⟩
end K08

set_option Elab.async false
set_option linter.all false
set_option maxRecDepth 100000
set_option maxHeartbeats 4000000
set_option exponentiation.threshold 20000
namespace K08
open PySem L2 MP N1 S
section
variable {st : DS} {a b c : Int} {m : Bool} {n : Nat}
theorem tp (p q : Int) : callN Pg (n + 2) 15 [.tup [.int p, .int q]] st = .ok (.bl (decide (Int.gcd p q = 1) && (decide (0 < q) || (decide (p = 1) && decide (q = 0))))) st := told_pair (P := Pg) (ι := ι) (has.mono (by decide))
theorem rootF (ha : Q W a) (hb : Q W b) (hc : Q W c) (h : ¬ 0 < a ∨ gcdL [a, b, c] ≠ 1 ∨ isq (Dq a b c) * isq (Dq a b c) = Dq a b c) (hd : 0 ≤ Dq a b c) : callN Pg (n + 3) 15 [rt a b c m] st = .ok (.bl false) st := by
  refine told_four n ?_
  have e : callN Pg (n + 2) 14 [rt a b c m] st = _ := isroot_eq (P := Pg) (ι := ι) (n := n) (st := st) (m := m) (has.mono (by decide)) ha hb hc hd
  rw [e]
  rcases h with z | z | z
  · rw [decide_eq_false z]; rfl
  · rw [decide_eq_false z]; simp
  · rw [decide_eq_true z]; simp
theorem rootN (ha : Q W a) (hb : Q W b) (hc : Q W c) (h : ¬ 0 < Dq a b c) : callN Pg (n + 3) 15 [rt a b c m] st = .ok (.bl false) st := by
  refine told_four n ?_
  rw [call_eq (fd := f14) rfl rfl rfl (by show 1 ≤ 5; decide)]
  have e2 : callN Pg (n + 1) 5 [rt a b c m] st = _ := square_eq (P := Pg) (ι := ι) (n := n) (st := st) (m := m) (has.mono (by decide)) ha hb hc
  have i1 : ι.f 35 = 5 := rfl
  by_cases a1 : a ≤ 0
  · simp [f14, PG.circlenumbers_is_root, a1]
  · by_cases g1 : Nat.gcd (Nat.gcd a.natAbs b.natAbs) c.natAbs = 1
    · simp [f14, PG.circlenumbers_is_root, a1, g1, i1, e2, h]
    · have g2 : ¬ (((Nat.gcd (Nat.gcd a.natAbs b.natAbs) c.natAbs : Nat) : Int) = 1) := by omega
      simp [f14, PG.circlenumbers_is_root, a1, g1, g2]
theorem rootX {x : D} (hx : isaD st .bool x = some false) : callN Pg (n + 3) 15 [.tup [.int a, .int b, .int c, x]] st = .ok (.bl false) st := by
  refine told_four n ?_
  rw [call_eq (fd := f14) rfl rfl rfl (by show 1 ≤ 5; decide)]
  simp [f14, PG.circlenumbers_is_root, hx]
theorem told_b {x y : D} (h1 : callN Pg (n + 2) 0 [.int a] st = .ok (.bl true) st) : callN Pg (n + 3) 15 [.tup [.int a, .int b, .bl m, y]] st = .ok (.bl false) st := by
  rw [call_eq (fd := f15) rfl rfl rfl (by show 1 ≤ 2; decide)]
  have w : ∀ i : Int, callN Pg (n + 2) 0 [.int i] st = .ok (.bl true) st := fun i => whole_int (P := Pg) (ι := ι) (n := n + 1) (has.mono (m := [110]) (by decide))
  have w' : callN Pg (n + 2) 0 [.bl m] st = .ok (.bl false) st := whole_bl (P := Pg) (ι := ι) (n := n + 1) (has.mono (m := [110]) (by decide))
  have e1 : ∀ i : Int, lcW (callN Pg (n + 2)) (.call 0 [.var 1]) (.nm 1) [] [1] [some (.tup [.int a, .int b, .bl m, y]), none] (.int i) st = .ok (some (.bl true)) st := fun i => by simp [lcW_eq, w]
  have e1' : lcW (callN Pg (n + 2)) (.call 0 [.var 1]) (.nm 1) [] [1] [some (.tup [.int a, .int b, .bl m, y]), none] (.bl m) st = .ok (some (.bl false)) st := by simp [lcW_eq, w']
  have e2 : lcL (lcW (callN Pg (n + 2)) (.call 0 [.var 1]) (.nm 1) [] [1] [some (.tup [.int a, .int b, .bl m, y]), none]) [.int a, .int b, .bl m] [] st = .ok [.bl true, .bl true, .bl false] st := by
    rw [lcL_y (e1 _) (by show 0 < sizeLine; decide), lcL_y (e1 _) (by show 1 < sizeLine; decide), lcL_y e1' (by show 2 < sizeLine; decide), lcL_n]
    rfl
  have s3 := sl_tup3 (xs := [.int a, .int b, .bl m, y]) (st := st)
  have i0 : ι.f 110 = 0 := rfl
  have b3 : blsD [.bl true, .bl true, .bl false] = some [true, true, false] := rfl
  simp [f15, PG.circlenumbers_is_told_number, i0, nin24, ev_lc, ev_sl, s3, e2, b3]
end
/-- what isn't told least, or is top -/
def wr (a b c p q r s : Int) : List (D × Bool) := [(.tup [.int a, .int b, .int c], false), (.tup [.int a, .int b, .int c, .int 1], false), (rt (-a) (-b) (-c) true, false), (rt (2 * a) (2 * b) (2 * c) true, false), (.lst [.int a, .int b, .int c, .bl true], false),
  (rt (q * s) (-(q * r) - p * s) (p * r) true, false), (rt 1 0 (b * b) false, false), (rt 0 b c true, false), (.tup [.int (2 * p), .int (2 * q)], false),
  (.tup [.int p, .int (-q)], false), (.tup [.int p, .int 0], decide (p = 1)), (.tup [.int (-1), .int 0], false), (.tup [.int 0, .int 5], false), (.tup [.bl true, .int 1], false), (.non, false), (.tup [.int 1, .int 0, .int (-2), .non], false), (.tup [.int 1, .int 0, .bl false, .bl true], false)]
section
variable {st : DS} {n : Nat} {a b c p q r s : Int}
theorem wr_told (t : Tb 9 a b c) (qp : Q 30 p) (qr : Q 30 r) (q0 : 0 < q) (q9 : q ≤ 12) (s0 : 0 < s) (s9 : s ≤ 12) : ∀ v ∈ wr a b c p q r s, callN Pg (n + 3) 15 [v.1] st = .ok (.bl v.2) st := by
  have lw : ∀ {i : Int}, Q 9 i → Q W i := fun h => h.le (by decide +kernel)
  have qq : Q 12 q := ⟨by omega, q9⟩
  have qs : Q 12 s := ⟨by omega, s9⟩
  have a0 := t.r.a0
  intro v hv
  simp only [wr, List.mem_cons, List.not_mem_nil, or_false] at hv
  rcases hv with rfl | rfl | rfl | rfl | rfl | rfl | rfl | rfl | rfl | rfl | rfl | rfl | rfl | rfl | rfl | rfl | rfl
  · exact told_len (P := Pg) (ι := ι) (n := n + 2) (has.mono (by decide)) (by simp) (by simp)
  · exact rootX rfl
  · refine rootF (lw t.qa.neg) (lw t.qb.neg) (lw t.qc.neg) (.inl (by omega)) ?_
    have : Dq (-a) (-b) (-c) = Dq a b c := by unfold Dq; grind
    rw [this]; exact Int.le_of_lt t.r.d0
  · refine rootF ((Q2.mul t.qa).le (by decide +kernel)) ((Q2.mul t.qb).le (by decide +kernel)) ((Q2.mul t.qc).le (by decide +kernel)) (.inr (.inl ?_)) ?_
    · have := gcdL_scale (e := 2) [a, b, c]
      rw [t.l.1] at this
      have e : [a, b, c].map (· * 2) = [2 * a, 2 * b, 2 * c] := by simp [Int.mul_comm]
      rw [e] at this
      rw [this]; decide
    · have : Dq (2 * a) (2 * b) (2 * c) = 4 * Dq a b c := by unfold Dq; grind
      rw [this]; have := t.r.d0; omega
  · exact told_not (P := Pg) (ι := ι) (n := n + 2) (has.mono (by decide)) rfl
  · have eD : Dq (q * s) (-(q * r) - p * s) (p * r) = (q * r - p * s) * (q * r - p * s) := by unfold Dq; grind
    refine rootF ((qq.mul qs).le (by decide +kernel)) (((qq.mul qr).neg.sub (qp.mul qs)).le (by decide +kernel)) ((qp.mul qr).le (by decide +kernel)) (.inr (.inr ?_)) (by rw [eD]; exact sq_nn _)
    rw [eD]
    have : isq ((q * r - p * s) * (q * r - p * s)) = ((q * r - p * s).natAbs : Int) := by
      symm
      have na : ((q * r - p * s).natAbs : Int) * ((q * r - p * s).natAbs : Int) = (q * r - p * s) * (q * r - p * s) := Int.natAbs_mul_self' _
      refine isq_uniq (sq_nn _) (by omega) (by omega) ?_
      have g : (((q * r - p * s).natAbs : Int) + 1) * (((q * r - p * s).natAbs : Int) + 1) = ((q * r - p * s).natAbs : Int) * ((q * r - p * s).natAbs : Int) + 2 * ((q * r - p * s).natAbs : Int) + 1 := by grind
      omega
    rw [this]; exact Int.natAbs_mul_self' _
  · refine rootN (Q.le (K := 1) ⟨by decide, by decide⟩ (by decide +kernel)) (Q.le (K := 1) ⟨by decide, by decide⟩ (by decide +kernel)) ((t.qb.mul t.qb).le (by decide +kernel)) ?_
    have : Dq 1 0 (b * b) = -(4 * (b * b)) := by unfold Dq; grind
    rw [this]; have := sq_nn b; omega
  · refine rootF (Q.le (K := 1) ⟨by decide, by decide⟩ (by decide +kernel)) (lw t.qb) (lw t.qc) (.inl (by decide)) ?_
    have : Dq 0 b c = b * b := by unfold Dq; grind
    rw [this]; exact sq_nn _
  · rw [tp, Int.gcd_mul_left]
    have h2 : ¬ (2 * Int.gcd p q = 1) := by omega
    have : ¬ ((2 : Int).natAbs * Int.gcd p q = 1) := h2
    rw [decide_eq_false this]; rfl
  · rw [tp, decide_eq_false (show ¬ 0 < -q by omega), decide_eq_false (show ¬ -q = 0 by omega)]; simp
  · rw [tp]
    by_cases z : p = 1
    · subst z; rfl
    · rw [decide_eq_false z]; simp
  · rw [tp]; rfl
  · rw [tp]; rfl
  · exact told_odd (P := Pg) (ι := ι) (n := n + 1) (has.mono (by decide)) (whole_bl (P := Pg) (ι := ι) (n := n + 1) (has.mono (by decide))) (whole_int (P := Pg) (ι := ι) (n := n + 1) (has.mono (by decide))) rfl
  · exact told_not (P := Pg) (ι := ι) (n := n + 2) (has.mono (by decide)) rfl
  · exact rootX rfl
  · exact told_b (x := .non) (whole_int (P := Pg) (ι := ι) (n := n + 1) (has.mono (by decide)))
theorem wr_eq (q0 : 0 < q) (hp : True) : ∀ v ∈ wr a b c p q r s, cmpD .eq st v.1 (.tup [.int 1, .int 0]) = some v.2 := by
  intro v hv
  have s2 : Sh (.tup [.int 1, .int 0]) 64 := Sh2
  have sR : ∀ {a b c : Int} {m : Bool}, Sh (rt a b c m) 64 := fun {a b c m} => (Sh.tup (k := 0) (.cons .int (.cons .int (.cons .int (.cons .bl .nil))))).mono (by decide)
  simp only [wr, List.mem_cons, List.not_mem_nil, or_false] at hv
  rcases hv with rfl | rfl | rfl | rfl | rfl | rfl | rfl | rfl | rfl | rfl | rfl | rfl | rfl | rfl | rfl | rfl | rfl
  · rw [c_eqG ((Sh.tup (k := 0) (.cons .int (.cons .int (.cons .int .nil)))).mono (by decide)) s2]; simp
  · rw [c_eqG ((Sh.tup (k := 0) (.cons .int (.cons .int (.cons .int (.cons .int .nil))))).mono (by decide)) s2]; simp
  · rw [c_eqG sR s2]; simp
  · rw [c_eqG sR s2]; simp
  · rw [c_eqG ((Sh.lst (k := 0) (.cons .int (.cons .int (.cons .int (.cons .bl .nil))))).mono (by decide)) s2]; simp
  · rw [c_eqG sR s2]; simp
  · rw [c_eqG sR s2]; simp
  · rw [c_eqG sR s2]; simp
  · rw [eq2]
    have : ¬ 2 * p = 1 := by omega
    rw [decide_eq_false this]; rfl
  · rw [eq2, decide_eq_false (show ¬ -q = 0 by omega)]; simp
  · rw [eq2]; simp
  · rw [eq2]; rfl
  · rw [eq2]; rfl
  · rw [c_eqG ((Sh.tup (k := 0) (.cons .bl (.cons .int .nil))).mono (by decide)) s2]; simp
  · rw [c_eqG ((Sh.non (k := 0)).mono (by decide)) s2]; simp
  · rw [c_eqG ((Sh.tup (k := 0) (.cons .int (.cons .int (.cons .int (.cons .non .nil))))).mono (by decide)) s2]; simp
  · rw [c_eqG ((Sh.tup (k := 0) (.cons .int (.cons .int (.cons .bl (.cons .bl .nil))))).mono (by decide)) s2]; simp
end
end K08

set_option Elab.async false
set_option linter.all false
set_option maxRecDepth 100000
set_option maxHeartbeats 4000000
set_option exponentiation.threshold 20000
namespace K08
open PySem L2 MP N1 S
def a1 : S := .par [5, 6] [.bin .sub (.call 17 [.var 0, .lit (.int 61)]) (.lit (.int 30)), .bin .sub (.call 17 [.var 0, .lit (.int 61)]) (.lit (.int 30))]
def a2 : S := .par [7, 8, 9] [.bin .add (.lit (.int 1)) (.call 17 [.var 0, .lit (.int 12)]), .bin .add (.lit (.int 1)) (.call 17 [.var 0, .lit (.int 12)]), .call 18 [.var 0, .lst false [.lit (.int 1), .neg (.lit (.int 1)), .lit (.int 6), .neg (.lit (.int 5))]]]
def a3 : S := .asg (.tp [.nm 10, .nm 11]) (.tup [.tup [.bin .mul (.bin .mul (.var 9) (.var 7)) (.var 8), .bin .mul (.var 9) (.bin .sub (.bin .sub (.lit (.int 0)) (.bin .mul (.var 7) (.var 6))) (.bin .mul (.var 5) (.var 8))), .bin .mul (.bin .mul (.var 9) (.var 5)) (.var 6)], .cmp .lt (.bin .mul (.var 5) (.var 8)) (.bin .mul (.var 6) (.var 7))])
def a4 : S := .par [12, 13] [.tup [.bin .fdiv (.var 5) (.call 19 [.var 5, .var 7]), .bin .fdiv (.var 7) (.call 19 [.var 5, .var 7])], .tup [.bin .fdiv (.var 6) (.call 19 [.var 6, .var 8]), .bin .fdiv (.var 8) (.call 19 [.var 6, .var 8])]]
def a5 : S := .asg (.nm 1) (.ife (.tv (.var 11)) (.lst false [.var 12, .var 13]) (.lst false [.var 13, .var 12]))
def a6 : S := .ife (.cmp .ne (.bi .repr [.lc false (.call 7 [.ix (.var 10) (.lit (.int 0)), .ix (.var 10) (.lit (.int 1)), .ix (.var 10) (.lit (.int 2)), .var 18]) (.nm 18) .seq [.tup [.lit (.bl false), .lit (.bl true)]] [] [18]]) (.bi .repr [.var 1])) rf []
def a7 : S := .ife (.cmp .ne (.bi .repr [.call 12 [.var 12, .var 13]]) (.bi .repr [.ife (.cmp .eq (.var 12) (.var 13)) (.lit (.int 0)) (.ife (.tv (.var 11)) (.neg (.lit (.int 1))) (.lit (.int 1)))])) rf []
def a8 : S := .ife (.cmp .ne (.bi .repr [.lst false [.call 6 [.bin .mul (.var 9) (.var 5), .bin .mul (.var 9) (.var 7)], .call 13 [.var 12]]]) (.bi .repr [.lst false [.var 12, .bin .fdiv (.var 5) (.var 7)]])) rf []
section
variable {x1 x2 x3 x4 x5 x6 x7 x8 x9 x10 x11 x12 x13 x14 x15 x16 x17 x18 : Option D} {p q r s by0 p1 q1 r1 s1 : Int} {l : Bool} {tb : D}
abbrev EW (x1 x2 x3 x4 : Option D) (p r q s by0 : Int) (x10 x11 x12 x13 x14 x15 x16 x17 x18 : Option D) : MP.Env := [some (.ref 1), x1, x2, x3, x4, some (.int p), some (.int r), some (.int q), some (.int s), some (.int by0), x10, x11, x12, x13, x14, x15, x16, x17, x18]
structure Pr (p q r s by0 p1 q1 r1 s1 : Int) : Prop where
  qp : Q 30 p
  qr : Q 30 r
  q0 : 0 < q
  q9 : q ≤ 12
  s0 : 0 < s
  s9 : s ≤ 12
  b0 : by0 ≠ 0
  qb : Q 6 by0
  l1 : Lst p1 q1
  l2 : Lst r1 s1
  g : ∃ g, 0 < g ∧ p = p1 * g ∧ q = q1 * g
  h : ∃ h, 0 < h ∧ r = r1 * h ∧ s = s1 * h
theorem t12 {st rest : DS} (hs : Src st rest) : ∃ p r q s by0 st', execs C12 [a1, a2] [some (.ref 1), x1, x2, x3, x4, x5, x6, x7, x8, x9, x10, x11, x12, x13, x14, x15, x16, x17, x18] st = .nx (EW x1 x2 x3 x4 p r q s by0 x10 x11 x12 x13 x14 x15 x16 x17 x18) st' ∧ Src st' rest ∧ Q 30 p ∧ Q 30 r ∧ 0 < q ∧ q ≤ 12 ∧ 0 < s ∧ s ≤ 12 ∧ by0 ≠ 0 ∧ Q 6 by0 := by
  obtain ⟨u1, st1, e1, j1, k1, s1⟩ := pick_ok (n := 11) hp hs (many := 61) (by decide) (by decide +kernel)
  obtain ⟨u2, st2, e2, j2, k2, s2⟩ := pick_ok (n := 11) hp s1 (many := 61) (by decide) (by decide +kernel)
  obtain ⟨u3, st3, e3, j3, k3, s3⟩ := pick_ok (n := 11) hp s2 (many := 12) (by decide) (by decide +kernel)
  obtain ⟨u4, st4, e4, j4, k4, s4⟩ := pick_ok (n := 11) hp s3 (many := 12) (by decide) (by decide +kernel)
  obtain ⟨j, st5, hj, e5, s5⟩ := of_ok (n := 10) hp ho s4 (ds := [D.int 1, .int (-1), .int 6, .int (-5)]) (by decide) (by decide)
  have key : ∃ v, ([D.int 1, .int (-1), .int 6, .int (-5)])[j] = .int v ∧ v ≠ 0 ∧ Q 6 v := by
    have h : ∀ d ∈ [D.int 1, .int (-1), .int 6, .int (-5)], ∃ v, d = .int v ∧ v ≠ 0 ∧ Q 6 v := by
      intro d hd
      simp only [List.mem_cons, List.not_mem_nil, or_false] at hd
      rcases hd with rfl | rfl | rfl | rfl <;> exact ⟨_, rfl, by decide, by decide, by decide⟩
    exact h _ (List.getElem_mem hj)
  obtain ⟨v, ev, v0, qv⟩ := key
  rw [ev] at e5
  refine ⟨u1 - 30, u2 - 30, 1 + u3, 1 + u4, v, st5, ?_, s5, by unfold Q; omega, by unfold Q; omega, by omega, by omega, by omega, by omega, v0, qv⟩
  simp [a1, a2, e1, e2, e3, e4, e5]
theorem t34 {st : DS} (qp : Q 30 p) (qr : Q 30 r) (q0 : 0 < q) (q9 : q ≤ 12) (s0 : 0 < s) (s9 : s ≤ 12) (b0 : by0 ≠ 0) (qb : Q 6 by0) : ∃ p1 q1 r1 s1, Pr p q r s by0 p1 q1 r1 s1 ∧ execs C12 [a3, a4] (EW x1 x2 x3 x4 p r q s by0 x10 x11 x12 x13 x14 x15 x16 x17 x18) st = .nx (EW x1 x2 x3 x4 p r q s by0 (some (.tup [.int (by0 * q * s), .int (by0 * (0 - q * r - p * s)), .int (by0 * p * r)])) (some (.bl (decide (p * s < r * q)))) (some (.tup [.int p1, .int q1])) (some (.tup [.int r1, .int s1])) x14 x15 x16 x17 x18) st := by
  obtain ⟨p1, q1, g, e1, g0, g9, c1, c2, l1, d1, d2⟩ := pair_part 11 st qp q0 q9
  obtain ⟨r1, s1, h, e2, h0, h9, c3, c4, l2, d3, d4⟩ := pair_part 11 st qr s0 s9
  have qq : Q 12 q := ⟨by omega, q9⟩
  have qs : Q 12 s := ⟨by omega, s9⟩
  have z0 : Q 0 0 := ⟨by decide, by decide⟩
  have m1 := b_mulB (st := st) (qb.bd (by decide +kernel)) (qq.bd (by decide +kernel))
  have m2 := b_mulB (st := st) ((qb.mul qq).bd (by decide +kernel)) (qs.bd (by decide +kernel))
  have m3 := b_mulB (st := st) (qq.bd (by decide +kernel)) (qr.bd (by decide +kernel))
  have m4 := b_mulB (st := st) (qp.bd (by decide +kernel)) (qs.bd (by decide +kernel))
  have m5 := b_mulB (st := st) (qb.bd (by decide +kernel)) (((z0.sub (qq.mul qr)).sub (qp.mul qs)).bd (by decide +kernel))
  have m6 := b_mulB (st := st) (qb.bd (by decide +kernel)) (qp.bd (by decide +kernel))
  have m7 := b_mulB (st := st) ((qb.mul qp).bd (by decide +kernel)) (qr.bd (by decide +kernel))
  have m8 := b_mulB (st := st) (qr.bd (by decide +kernel)) (qq.bd (by decide +kernel))
  have bg : Bd g := Q.bd (K := 12) ⟨by omega, g9⟩ (by decide +kernel)
  have bh : Bd h := Q.bd (K := 12) ⟨by omega, h9⟩ (by decide +kernel)
  have v1 := b_divB (st := st) (i := p) bg (by omega)
  have v2 := b_divB (st := st) (i := q) bg (by omega)
  have v3 := b_divB (st := st) (i := r) bh (by omega)
  have v4 := b_divB (st := st) (i := s) bh (by omega)
  rw [d1] at v1
  rw [d2] at v2
  rw [d3] at v3
  rw [d4] at v4
  refine ⟨p1, q1, r1, s1, ⟨qp, qr, q0, q9, s0, s9, b0, qb, l1, l2, ⟨g, g0, c1, c2⟩, ⟨h, h0, c3, c4⟩⟩, ?_⟩
  simp only [a3, a4, exs_c, exs_n, ex_asg, ev_tup, eL_c, eL_n, ev_bin, ev_var, ev_lit, ev_cmp, getV_s, getV_z, of_some, bind_ok, m1, m2, m3, m4, b_sub, m5, m6, m7, m8, c_lt, List.length_cons, List.length_nil, Nat.zero_add, Nat.reduceAdd, sz2, sz3, if_true, to_ok, aT_tp, aTs_c, aTs_n, aT_nm, tie_nx, setV_s, setV_z, sbind_nx, ex_par, ev_call, e1, e2, v1, v2, v3, v4, setAll_c, setAll_n]
theorem repII {st : DS} {i j k l : Int} (hi : Sm i) (hj : Sm j) (hk : Sm k) (hl : Sm l) : biD .repr st [.lst [.tup [.int i, .int j], .tup [.int k, .int l]]] = some (.str (rpS (.lst [.tup [.int i, .int j], .tup [.int k, .int l]]))) := bi_repr (by simp [smB_of hi.smI, smB_of hj.smI, smB_of hk.smI, smB_of hl.smI]) (by simp) (by simp)
theorem repTI {st : DS} {i j k : Int} (hi : Sm i) (hj : Sm j) (hk : Sm k) : biD .repr st [.lst [.tup [.int i, .int j], .int k]] = some (.str (rpS (.lst [.tup [.int i, .int j], .int k]))) := bi_repr (by simp [smB_of hi.smI, smB_of hj.smI, smB_of hk.smI]) (by simp) (by simp)
theorem fdiv_scale {x y g : Int} (hg : 0 < g) (hy : 0 < y) : (x * g).fdiv (y * g) = x.fdiv y := by
  have h : ∀ t : Int, t ≤ (x * g).fdiv (y * g) ↔ t ≤ x.fdiv y := fun t => by
    rw [← le_fdiv (Int.mul_pos hy hg), ← le_fdiv hy]
    have e : y * g * t = (y * t) * g := by grind
    rw [e]
    exact ⟨fun h => Int.le_of_mul_le_mul_right h hg, fun h => Int.mul_le_mul_of_nonneg_right h (Int.le_of_lt hg)⟩
  exact Int.le_antisymm ((h _).mp (Int.le_refl _)) ((h _).mpr (Int.le_refl _))
theorem t58 {st : DS} (P : Pr p q r s by0 p1 q1 r1 s1) : ∃ y1, execs C12 [a5, a6, a7, a8] (EW x1 x2 x3 x4 p r q s by0 (some (.tup [.int (by0 * q * s), .int (by0 * (0 - q * r - p * s)), .int (by0 * p * r)])) (some (.bl (decide (p * s < r * q)))) (some (.tup [.int p1, .int q1])) (some (.tup [.int r1, .int s1])) x14 x15 x16 x17 x18) st = .nx (EW y1 x2 x3 x4 p r q s by0 (some (.tup [.int (by0 * q * s), .int (by0 * (0 - q * r - p * s)), .int (by0 * p * r)])) (some (.bl (decide (p * s < r * q)))) (some (.tup [.int p1, .int q1])) (some (.tup [.int r1, .int s1])) x14 x15 x16 x17 x18) st := by
  obtain ⟨qp, qr, q0, q9, s0, s9, b0, qb, l1, l2, ⟨g, g0, c1, c2⟩, ⟨h, h0, c3, c4⟩⟩ := P
  have qq : Q 12 q := ⟨by omega, q9⟩
  have qs : Q 12 s := ⟨by omega, s9⟩
  have pf := parts_ok 8 st false qp qr q0 q9 s0 s9 b0 qb l1 l2 c1 c2 c3 c4
  have pt := parts_ok 8 st true qp qr q0 q9 s0 s9 b0 qb l1 l2 c1 c2 c3 c4
  have le : ∀ {y z g : Int}, 0 < g → y = z * g → Q 30 y → Q 30 z := fun {y z g} g0 e h => by
    have := abs_le e (by omega)
    unfold Q at *
    omega
  have qp1 := le g0 c1 qp
  have qq1 := le g0 c2 (qq.le (by decide))
  have qr1 := le h0 c3 qr
  have qs1 := le h0 c4 (qs.le (by decide))
  have ss : ∀ {i : Int}, Q 30 i → Sm i := fun h => sml9 h (by decide +kernel)
  have rA := repII (st := st) (ss qp1) (ss qq1) (ss qr1) (ss qs1)
  have rB := repII (st := st) (ss qr1) (ss qs1) (ss qp1) (ss qq1)
  have oo : C12 12 [.tup [.int p1, .int q1], .tup [.int r1, .int s1]] st = .ok (.int (sgn (p1 * s1 - r1 * q1))) st := order_eq (P := Pg) (ι := ι) (n := 10) (has.mono (by decide)) (qp1.bd (by decide +kernel)) (qq1.bd (by decide +kernel)) (qr1.bd (by decide +kernel)) (qs1.bd (by decide +kernel))
  have q10 : 0 < q1 := by
    rcases l1.2 with z | ⟨z, _⟩
    · exact z
    · rw [z, Int.zero_mul] at c2; omega
  have eX : p * s - r * q = (p1 * s1 - r1 * q1) * (g * h) := by rw [c1, c2, c3, c4]; grind
  have gh := Int.mul_pos g0 h0
  have m1 := b_mulB (st := st) (qb.bd (by decide +kernel)) (qp.bd (by decide +kernel))
  have m2 := b_mulB (st := st) (qb.bd (by decide +kernel)) (qq.bd (by decide +kernel))
  have ft : C12 6 [.int (by0 * p), .int (by0 * q)] st = .ok (.tup [.int p1, .int q1]) st := fr_eq (P := Pg) (ι := ι) (n := 9) (st := st) (has.mono (by decide)) (fun z => by
    rcases Int.mul_eq_zero.mp z.2 with y | y
    · exact b0 y
    · omega) (sml9 (qb.mul qp) (by decide +kernel)) (sml9 (qb.mul qq) (by decide +kernel)) l1 (by rw [c1, c2]; grind)
  have ff : C12 13 [.tup [.int p1, .int q1]] st = .ok (.int (p1.fdiv q1)) st := floor_eq (P := Pg) (ι := ι) (n := 11) (has.mono (by decide)) (qq1.bd (by decide +kernel)) (by omega)
  have dv := b_divB (st := st) (i := p) (j := q) (qq.bd (by decide +kernel)) (by omega)
  have ed : p.fdiv q = p1.fdiv q1 := by rw [c1, c2]; exact fdiv_scale g0 q10
  rw [ed] at dv
  obtain ⟨f1, f2⟩ := fmod0 (a := p1) q10
  have sf : Sm (p1.fdiv q1) := by
    generalize p1.fdiv q1 = f at *
    refine sml9 (K := 40) ?_ (by decide +kernel)
    unfold Q at qp1 ⊢
    constructor
    · refine Int.not_lt.mp fun z => ?_
      have := Int.mul_le_mul_of_nonneg_right (show f + 1 ≤ -40 by omega) (Int.le_of_lt q10)
      omega
    · refine Int.not_lt.mp fun z => ?_
      have := Int.mul_le_mul_of_nonneg_right (show 40 ≤ f by omega) (Int.le_of_lt q10)
      omega
  have rC := repTI (st := st) (ss qp1) (ss qq1) sf
  have rO : ∀ i : Int, i = -1 ∨ i = 0 ∨ i = 1 → biD .repr st [.int i] = some (.str (rpS (.int i))) := fun i hi => repIn (sml9 (K := 1) (by unfold Q; omega) (by decide +kernel))
  generalize by0 * q * s = F1 at *
  generalize by0 * (0 - q * r - p * s) = F2 at *
  generalize by0 * p * r = F3 at *
  by_cases w : p * s < r * q
  · rw [decide_eq_true w] at pf pt ⊢
    rw [if_neg (by decide)] at pf
    rw [if_pos rfl] at pt
    have ng : p1 * s1 - r1 * q1 < 0 := by
      refine Int.not_le.mp fun z => ?_
      have := Int.mul_nonneg z (Int.le_of_lt gh)
      omega
    have ne : (decide (p1 = r1) && decide (q1 = s1)) = false := by
      rw [← Bool.decide_and]
      refine decide_eq_false fun ⟨z1, z2⟩ => ?_
      rw [z1, z2] at ng; omega
    rw [sgn_ng ng] at oo
    have r1' := rO (-1) (.inl rfl)
    have l1' : lcL (lcW C12 (.call 7 [.ix (.var 10) (.lit (.int 0)), .ix (.var 10) (.lit (.int 1)), .ix (.var 10) (.lit (.int 2)), .var 18]) (.nm 18) [] [18] (EW (some (.lst [.tup [.int p1, .int q1], .tup [.int r1, .int s1]])) x2 x3 x4 p r q s by0 (some (.tup [.int F1, .int F2, .int F3])) (some (.bl true)) (some (.tup [.int p1, .int q1])) (some (.tup [.int r1, .int s1])) x14 x15 x16 x17 x18)) [.bl false, .bl true] [] st = .ok [.tup [.int p1, .int q1], .tup [.int r1, .int s1]] st := by
      rw [lcL_y (d := .tup [.int p1, .int q1]) (st1 := st) (by simp [lcW_eq, pf]) (by show 0 < sizeLine; decide), lcL_y (d := .tup [.int r1, .int s1]) (st1 := st) (by simp [lcW_eq, pt]) (by show 1 < sizeLine; decide), lcL_n]
      rfl
    simp only [EW] at l1'
    refine ⟨some (.lst [.tup [.int p1, .int q1], .tup [.int r1, .int s1]]), ?_⟩
    simp [a5, a6, a7, a8, rf, l1', rA, oo, eq2, ne, r1', m1, m2, ft, ff, dv, rC]
  · rw [decide_eq_false w] at pf pt ⊢
    rw [if_pos rfl] at pf
    rw [if_neg (by decide)] at pt
    have nn : 0 ≤ p1 * s1 - r1 * q1 := by
      refine Int.not_lt.mp fun z => ?_
      have := Int.mul_neg_of_neg_of_pos z gh
      omega
    have l1' : lcL (lcW C12 (.call 7 [.ix (.var 10) (.lit (.int 0)), .ix (.var 10) (.lit (.int 1)), .ix (.var 10) (.lit (.int 2)), .var 18]) (.nm 18) [] [18] (EW (some (.lst [.tup [.int r1, .int s1], .tup [.int p1, .int q1]])) x2 x3 x4 p r q s by0 (some (.tup [.int F1, .int F2, .int F3])) (some (.bl false)) (some (.tup [.int p1, .int q1])) (some (.tup [.int r1, .int s1])) x14 x15 x16 x17 x18)) [.bl false, .bl true] [] st = .ok [.tup [.int r1, .int s1], .tup [.int p1, .int q1]] st := by
      rw [lcL_y (d := .tup [.int r1, .int s1]) (st1 := st) (by simp [lcW_eq, pf]) (by show 0 < sizeLine; decide), lcL_y (d := .tup [.int p1, .int q1]) (st1 := st) (by simp [lcW_eq, pt]) (by show 1 < sizeLine; decide), lcL_n]
      rfl
    simp only [EW] at l1'
    refine ⟨some (.lst [.tup [.int r1, .int s1], .tup [.int p1, .int q1]]), ?_⟩
    by_cases z : p1 * s1 - r1 * q1 = 0
    · obtain ⟨y1, y2⟩ := l1.uniq l2 (by omega)
      rw [z, sgn_z] at oo
      have r1' := rO 0 (.inr (.inl rfl))
      have ne : (decide (p1 = r1) && decide (q1 = s1)) = true := by rw [← Bool.decide_and]; exact decide_eq_true ⟨y1, y2⟩
      simp [a5, a6, a7, a8, rf, l1', rB, oo, eq2, ne, r1', m1, m2, ft, ff, dv, rC]
    · rw [sgn_pos (by omega)] at oo
      have r1' := rO 1 (.inr (.inr rfl))
      have ne : (decide (p1 = r1) && decide (q1 = s1)) = false := by
        rw [← Bool.decide_and]
        refine decide_eq_false fun ⟨z1, z2⟩ => ?_
        rw [z1, z2] at z; omega
      simp [a5, a6, a7, a8, rf, l1', rB, oo, eq2, ne, r1', m1, m2, ft, ff, dv, rC]
end
end K08

set_option Elab.async false
set_option linter.all false
set_option maxRecDepth 100000
set_option maxHeartbeats 4000000
set_option exponentiation.threshold 20000
namespace K08
open PySem L2 MP N1 S
def a9 : S := .asg (.tp [.nm 14, .nm 15, .nm 16]) (.call 22 [.var 0, .lit (.int 9)])
def a10 : S := .asg (.nm 2) (.lst false [.tup [.var 14, .var 15, .var 16], .tup [.var 14, .var 15, .var 16, .lit (.int 1)], .tup [.bin .sub (.lit (.int 0)) (.var 14), .bin .sub (.lit (.int 0)) (.var 15), .bin .sub (.lit (.int 0)) (.var 16), .lit (.bl true)], .tup [.bin .mul (.lit (.int 2)) (.var 14), .bin .mul (.lit (.int 2)) (.var 15), .bin .mul (.lit (.int 2)) (.var 16), .lit (.bl true)], .lst false [.var 14, .var 15, .var 16, .lit (.bl true)]])
def a11 : S := .asg (.nm 2) (.bin .add (.var 2) (.lst false [.tup [.bin .mul (.var 7) (.var 8), .bin .sub (.bin .sub (.lit (.int 0)) (.bin .mul (.var 7) (.var 6))) (.bin .mul (.var 5) (.var 8)), .bin .mul (.var 5) (.var 6), .lit (.bl true)], .tup [.lit (.int 1), .lit (.int 0), .bin .mul (.var 15) (.var 15), .lit (.bl false)], .tup [.lit (.int 0), .var 15, .var 16, .lit (.bl true)], .tup [.bin .mul (.lit (.int 2)) (.var 5), .bin .mul (.lit (.int 2)) (.var 7)]]))
def a12 : S := .asg (.nm 2) (.bin .add (.var 2) (.lst false [.tup [.var 5, .bin .sub (.lit (.int 0)) (.var 7)], .tup [.var 5, .lit (.int 0)], .tup [.neg (.lit (.int 1)), .lit (.int 0)], .tup [.lit (.int 0), .lit (.int 5)], .tup [.lit (.bl true), .lit (.int 1)], .lit (.non), .tup [.lit (.int 1), .lit (.int 0), .neg (.lit (.int 2)), .lit (.non)], .tup [.lit (.int 1), .lit (.int 0), .lit (.bl false), .lit (.bl true)]]))
def a13 : S := .asg (.nm 3) (.lst false [.tup [.var 14, .var 15, .var 16, .lit (.bl false)], .var 12, .tup [.lit (.int 1), .lit (.int 0)], .tup [.lit (.int 0), .lit (.int 1)]])
def a14 : S := .slc 4 (.lc false (.cmp .eq (.var 17) (.tup [.lit (.int 1), .lit (.int 0)])) (.nm 17) .seq [.var 2] [] [17])
def a15 : S := .ife (.cmp .ne (.bi .repr [.lc false (.call 15 [.var 17]) (.nm 17) .seq [.var 2] [] [17]]) (.bi .repr [.var 4])) rf []
def a16 : S := .ret (.cmp .eq (.bi .repr [.lc false (.call 15 [.var 17]) (.nm 17) .seq [.var 3] [] [17]]) (.bi .repr [.bin .mul (.lst false [.lit (.bl true)]) (.lit (.int 4))]))
theorem body26 : f26.body = [a1, a2] ++ ([a3, a4] ++ ([a5, a6, a7, a8] ++ [a9, a10, a11, a12, a13, a14, a15, a16])) := rfl
theorem exs_app {C : Nat → List D → DS → R D} : ∀ {a b : List S} {ρ ρ1 : MP.Env} {st st1 : DS}, execs C a ρ st = .nx ρ1 st1 → execs C (a ++ b) ρ st = execs C b ρ1 st1
  | [], b, ρ, ρ1, st, st1, h => by
    rw [exs_n] at h
    cases h
    rfl
  | s :: r, b, ρ, ρ1, st, st1, h => by
    rw [exs_c] at h
    rw [List.cons_append, exs_c]
    cases hs : exec C s ρ st with
    | nx ρ2 st2 =>
      rw [hs, sbind_nx] at h
      rw [sbind_nx]
      exact exs_app h
    | _ => rw [hs] at h; simp at h
section
variable {x1 x2 x3 x4 x10 x11 x13 x14 x15 x16 x17 x18 : Option D} {p q r s by0 p1 q1 r1 s1 a b c : Int}
abbrev L5 (a b c : Int) : List D := [.tup [.int a, .int b, .int c], .tup [.int a, .int b, .int c, .int 1], rt (-a) (-b) (-c) true, rt (2 * a) (2 * b) (2 * c) true, .lst [.int a, .int b, .int c, .bl true]]
abbrev L4 (b c p q r s : Int) : List D := [rt (q * s) (-(q * r) - p * s) (p * r) true, rt 1 0 (b * b) false, rt 0 b c true, .tup [.int (2 * p), .int (2 * q)]]
abbrev L8 (p q : Int) : List D := [.tup [.int p, .int (-q)], .tup [.int p, .int 0], .tup [.int (-1), .int 0], .tup [.int 0, .int 5], .tup [.bl true, .int 1], .non, .tup [.int 1, .int 0, .int (-2), .non], .tup [.int 1, .int 0, .bl false, .bl true]]
abbrev EX (x1 x2 x3 x4 : Option D) (p r q s by0 : Int) (x10 x11 : Option D) (p1 q1 : Int) (x13 : Option D) (a b c : Int) (x17 x18 : Option D) : MP.Env := [some (.ref 1), x1, x2, x3, x4, some (.int p), some (.int r), some (.int q), some (.int s), some (.int by0), x10, x11, some (.tup [.int p1, .int q1]), x13, some (.int a), some (.int b), some (.int c), x17, x18]
theorem wr_fst : (wr a b c p q r s).map Prod.fst = L5 a b c ++ (L4 b c p q r s ++ L8 p q) := rfl
theorem w10 (t : Tb 9 a b c) (st : DS) : exec C12 a10 (EX x1 x2 x3 x4 p r q s by0 x10 x11 p1 q1 x13 a b c x17 x18) st = .nx (EX x1 (some (.lst (L5 a b c))) x3 x4 p r q s by0 x10 x11 p1 q1 x13 a b c x17 x18) st := by
  have m1 := b_mulB (st := st) (Q2.bd (by decide +kernel)) (t.qa.bd (by decide +kernel))
  have m2 := b_mulB (st := st) (Q2.bd (by decide +kernel)) (t.qb.bd (by decide +kernel))
  have m3 := b_mulB (st := st) (Q2.bd (by decide +kernel)) (t.qc.bd (by decide +kernel))
  simp [a10, m1, m2, m3]
theorem w11 (t : Tb 9 a b c) (P : Pr p q r s by0 p1 q1 r1 s1) (st : DS) : exec C12 a11 (EX x1 (some (.lst (L5 a b c))) x3 x4 p r q s by0 x10 x11 p1 q1 x13 a b c x17 x18) st = .nx (EX x1 (some (.lst (L5 a b c ++ L4 b c p q r s))) x3 x4 p r q s by0 x10 x11 p1 q1 x13 a b c x17 x18) st := by
  have qq : Q 12 q := ⟨by have := P.q0; omega, P.q9⟩
  have qs : Q 12 s := ⟨by have := P.s0; omega, P.s9⟩
  have m1 := b_mulB (st := st) (qq.bd (by decide +kernel)) (qs.bd (by decide +kernel))
  have m2 := b_mulB (st := st) (qq.bd (by decide +kernel)) (P.qr.bd (by decide +kernel))
  have m3 := b_mulB (st := st) (P.qp.bd (by decide +kernel)) (qs.bd (by decide +kernel))
  have m4 := b_mulB (st := st) (P.qp.bd (by decide +kernel)) (P.qr.bd (by decide +kernel))
  have m5 := b_mulB (st := st) (t.qb.bd (by decide +kernel)) (t.qb.bd (by decide +kernel))
  have m6 := b_mulB (st := st) (Q2.bd (by decide +kernel)) (P.qp.bd (by decide +kernel))
  have m7 := b_mulB (st := st) (Q2.bd (by decide +kernel)) (qq.bd (by decide +kernel))
  have ad := catD_add (st := st) (a := L5 a b c) (b := L4 b c p q r s) (by show 9 ≤ sizeLine; decide)
  simp only [L5, L4] at ad
  simp [a11, m1, m2, m3, m4, m5, m6, m7, ad]
theorem w12 (st : DS) : exec C12 a12 (EX x1 (some (.lst (L5 a b c ++ L4 b c p q r s))) x3 x4 p r q s by0 x10 x11 p1 q1 x13 a b c x17 x18) st = .nx (EX x1 (some (.lst ((wr a b c p q r s).map Prod.fst))) x3 x4 p r q s by0 x10 x11 p1 q1 x13 a b c x17 x18) st := by
  rw [wr_fst, ← List.append_assoc]
  have ad := fun (X : List D) (h : X.length = 9) => catD_add (st := st) (a := X) (b := L8 p q) (by rw [h]; show 9 + 8 ≤ sizeLine; decide)
  have ad' := ad (L5 a b c ++ L4 b c p q r s) rfl
  generalize L5 a b c ++ L4 b c p q r s = X at *
  simp only [L8] at ad'
  simp [a12, ad']
theorem w13 (st : DS) : exec C12 a13 (EX x1 x2 x3 x4 p r q s by0 x10 x11 p1 q1 x13 a b c x17 x18) st = .nx (EX x1 x2 (some (.lst [rt a b c false, .tup [.int p1, .int q1], .tup [.int 1, .int 0], .tup [.int 0, .int 1]])) x4 p r q s by0 x10 x11 p1 q1 x13 a b c x17 x18) st := by
  simp [a13]
theorem repB (bs : List Bool) {st : DS} (h : bs.length ≤ 20) : biD .repr st [.lst (bs.map D.bl)] = some (.str (rpS (.lst (bs.map D.bl)))) := by
  have k : ∀ bs : List Bool, rqL (bs.map D.bl) = true ∧ dpL (bs.map D.bl) ≤ 0 ∧ bkL (bs.map D.bl) ≤ bs.length := fun bs => by
    induction bs with
    | nil => simp
    | cons b r ih => obtain ⟨i1, i2, i3⟩ := ih; simp [i1]; exact ⟨by omega, by omega⟩
  obtain ⟨k1, k2, k3⟩ := k bs
  exact bi_repr (by simpa using k1) (by simp; omega) (by simp; omega)
theorem w14 (P : Pr p q r s by0 p1 q1 r1 s1) (st : DS) : exec C12 a14 (EX x1 (some (.lst ((wr a b c p q r s).map Prod.fst))) x3 x4 p r q s by0 x10 x11 p1 q1 x13 a b c x17 x18) st = .nx (EX x1 (some (.lst ((wr a b c p q r s).map Prod.fst))) x3 (some (.lst (((wr a b c p q r s).map Prod.snd).map D.bl))) p r q s by0 x10 x11 p1 q1 x13 a b c x17 x18) st := by
  have l := lcL_map (f := lcW C12 (.cmp .eq (.var 17) (.tup [.lit (.int 1), .lit (.int 0)])) (.nm 17) [] [17] (EX x1 (some (.lst ((wr a b c p q r s).map Prod.fst))) x3 x4 p r q s by0 x10 x11 p1 q1 x13 a b c x17 x18)) (a := Prod.fst) (g := fun v => D.bl v.2) (st := st) (wr a b c p q r s) [] (fun v hv => by
    have := wr_eq (st := st) P.q0 True.intro v hv
    simp [lcW_eq, this]) (by show 0 + 17 ≤ sizeLine; decide)
  rw [List.nil_append] at l
  rw [List.map_map]
  have e : List.map (D.bl ∘ Prod.snd) (wr a b c p q r s) = (wr a b c p q r s).map fun v => D.bl v.2 := rfl
  rw [e]
  generalize (wr a b c p q r s).map (fun v => D.bl v.2) = ys at *
  generalize (wr a b c p q r s).map Prod.fst = xs at *
  simp only [EX] at l
  simp only [a14, ex_slc, ev_lc, eL_c, eL_n, ev_var, EX, getV_s, getV_z, of_some, bind_ok, itD_lst, l, newL_f, to_ok, setV_s, setV_z]
theorem w15 (t : Tb 9 a b c) (P : Pr p q r s by0 p1 q1 r1 s1) (st : DS) : exec C12 a15 (EX x1 (some (.lst ((wr a b c p q r s).map Prod.fst))) x3 (some (.lst (((wr a b c p q r s).map Prod.snd).map D.bl))) p r q s by0 x10 x11 p1 q1 x13 a b c x17 x18) st = .nx (EX x1 (some (.lst ((wr a b c p q r s).map Prod.fst))) x3 (some (.lst (((wr a b c p q r s).map Prod.snd).map D.bl))) p r q s by0 x10 x11 p1 q1 x13 a b c x17 x18) st := by
  have rp := repB ((wr a b c p q r s).map Prod.snd) (st := st) (by show 17 ≤ 20; decide)
  have l := fun x4 => lcL_map (f := lcW C12 (.call 15 [.var 17]) (.nm 17) [] [17] (EX x1 (some (.lst ((wr a b c p q r s).map Prod.fst))) x3 x4 p r q s by0 x10 x11 p1 q1 x13 a b c x17 x18)) (a := Prod.fst) (g := fun v => D.bl v.2) (st := st) (wr a b c p q r s) [] (fun v hv => by
    have := wr_told (st := st) (n := 9) t P.qp P.qr P.q0 P.q9 P.s0 P.s9 v hv
    simp [lcW_eq, this]) (by show 0 + 17 ≤ sizeLine; decide)
  have l' := l (some (.lst (((wr a b c p q r s).map Prod.snd).map D.bl)))
  rw [List.nil_append] at l'
  have e : (wr a b c p q r s).map (fun v => D.bl v.2) = ((wr a b c p q r s).map Prod.snd).map D.bl := by rw [List.map_map]; rfl
  rw [e] at l'
  generalize ((wr a b c p q r s).map Prod.snd).map D.bl = ys at *
  generalize (wr a b c p q r s).map Prod.fst = xs at *
  simp only [EX] at l'
  simp only [a15, rf, ex_ife, eT_cmp, ev_bi, ev_lc, eL_c, eL_n, ev_var, EX, getV_s, getV_z, of_some, bind_ok, itD_lst, l', newL_f, rp, c_nes, decide_true, Bool.not_true, Bool.false_eq_true, if_false, to_ok, exs_n]
theorem w16 (t : Tb 9 a b c) (l1 : Lst p1 q1) (st : DS) : exec C12 a16 (EX x1 x2 (some (.lst [rt a b c false, .tup [.int p1, .int q1], .tup [.int 1, .int 0], .tup [.int 0, .int 1]])) x4 p r q s by0 x10 x11 p1 q1 x13 a b c x17 x18) st = .ret (.bl true) st := by
  have lw : ∀ {i : Int}, Q 9 i → Q W i := fun h => h.le (by decide +kernel)
  have e1 := root_is (st := st) (m := false) 9 t.r t.l (lw t.qa) (lw t.qb) (lw t.qc)
  have e2 := tp (n := 10) (st := st) p1 q1
  have h2 : (decide (Int.gcd p1 q1 = 1) && (decide (0 < q1) || (decide (p1 = 1) && decide (q1 = 0)))) = true := by
    rw [decide_eq_true l1.1]
    rcases l1.2 with z | ⟨z, z1⟩
    · simp [z]
    · simp [z, z1]
  rw [h2] at e2
  have e3 : C12 15 [.tup [.int 1, .int 0]] st = .ok (.bl true) st := tp (n := 10) (st := st) 1 0
  have e4 : C12 15 [.tup [.int 0, .int 1]] st = .ok (.bl true) st := tp (n := 10) (st := st) 0 1
  have l : lcL (lcW C12 (.call 15 [.var 17]) (.nm 17) [] [17] (EX x1 x2 (some (.lst [rt a b c false, .tup [.int p1, .int q1], .tup [.int 1, .int 0], .tup [.int 0, .int 1]])) x4 p r q s by0 x10 x11 p1 q1 x13 a b c x17 x18)) [rt a b c false, .tup [.int p1, .int q1], .tup [.int 1, .int 0], .tup [.int 0, .int 1]] [] st = .ok [.bl true, .bl true, .bl true, .bl true] st :=
    lc4 (by simp [lcW_eq, e1]) (by simp [lcW_eq, e2]) (by simp [lcW_eq, e3]) (by simp [lcW_eq, e4])
  have rp := repB [true, true, true, true] (st := st) (by decide)
  simp only [List.map_cons, List.map_nil] at rp
  have mu : binD .mul st (.lst [.bl true]) (.int 4) = some (.lst [.bl true, .bl true, .bl true, .bl true]) := rfl
  simp only [EX] at l
  simp [a16, l, rp, mu]
theorem parted_right {st rest : DS} (hs : Src st rest) : ∃ st', callN Pg 13 26 [.ref 1] st = .ok (.bl true) st' ∧ Src st' rest := by
  rw [call_eq (fd := f26) rfl rfl rfl (by show 1 ≤ 19; decide)]
  have env : (List.map some [D.ref 1] ++ List.replicate (f26.N.length - [D.ref 1].length) none) = [some (.ref 1), none, none, none, none, none, none, none, none, none, none, none, none, none, none, none, none, none, none] := rfl
  rw [env, body26]
  obtain ⟨p, r, q, s, by0, st1, e1, h1, qp, qr, q0, q9, s0, s9, b0, qb⟩ := t12 (x1 := none) (x2 := none) (x3 := none) (x4 := none) (x5 := none) (x6 := none) (x7 := none) (x8 := none) (x9 := none) (x10 := none) (x11 := none) (x12 := none) (x13 := none) (x14 := none) (x15 := none) (x16 := none) (x17 := none) (x18 := none) hs
  obtain ⟨p1, q1, r1, s1, P, e2⟩ := t34 (x1 := none) (x2 := none) (x3 := none) (x4 := none) (x10 := none) (x11 := none) (x12 := none) (x13 := none) (x14 := none) (x15 := none) (x16 := none) (x17 := none) (x18 := none) (st := st1) qp qr q0 q9 s0 s9 b0 qb
  obtain ⟨y1, e3⟩ := t58 (x1 := none) (x2 := none) (x3 := none) (x4 := none) (x14 := none) (x15 := none) (x16 := none) (x17 := none) (x18 := none) (st := st1) P
  obtain ⟨a, b, c, st2, e4, h2, t⟩ := table_ok 9 (H := 9) (by decide) (by decide) h1
  refine ⟨st2, ?_, h2⟩
  rw [exs_app e1, exs_app e2, exs_app e3]
  generalize D.tup [.int (by0 * q * s), .int (by0 * (0 - q * r - p * s)), .int (by0 * p * r)] = tb
  have e9 : exec C12 a9 (EW y1 none none none p r q s by0 (some tb) (some (.bl (decide (p * s < r * q)))) (some (.tup [.int p1, .int q1])) (some (.tup [.int r1, .int s1])) none none none none none) st1 = .nx (EX y1 none none none p r q s by0 (some tb) (some (.bl (decide (p * s < r * q)))) p1 q1 (some (.tup [.int r1, .int s1])) a b c none none) st2 := by
    simp [a9, e4]
  rw [exs_c, e9, sbind_nx, exs_c, w10 t, sbind_nx, exs_c, w11 t P, sbind_nx, exs_c, w12, sbind_nx, exs_c, w13, sbind_nx, exs_c, w14 P, sbind_nx, exs_c, w15 t P, sbind_nx, exs_c, w16 t P.l1]
  rfl
end
end K08

set_option Elab.async false
set_option linter.all false
set_option maxRecDepth 100000
set_option maxHeartbeats 4000000
set_option exponentiation.threshold 20000
namespace K08
open PySem L2 MP N1 S
/-! ### 300 figures and more -/
/-- a number of more than 300 figures, not too many -/
def Lg (i : Int) : Prop := 300 < (PySem.Str.ofString (toString ((i.natAbs : Nat) : Int))).length ∧ (PySem.Str.ofString (toString ((i.natAbs : Nat) : Int))).length ≤ 1000 ∧ i.natAbs.log2 < 1920
section
variable {st : DS} {n : Nat}
theorem long_eq {i : Int} (h : Lg i) : callN Pg (n + 1) 1 [.int i] st = .ok (.bl true) st := by
  rw [call_eq (fd := f1) rfl rfl rfl (by show 1 ≤ 1; decide)]
  obtain ⟨h1, h2, h3⟩ := h
  have hl : (((i.natAbs : Nat) : Int)).natAbs.log2 < 1920 := by rw [Int.natAbs_natCast]; exact h3
  have hs2 := bi_lenS (st := st) (Nat.le_trans h2 (by decide))
  have d2 : ((300 : Int) < ((PySem.Str.ofString (toString ((i.natAbs : Nat) : Int))).length : Nat)) := by omega
  by_cases d1 : ((997 : Int) < (Builtin.Int.intBits i : Nat))
  · simp only [f1, PG.circlenumbers_is_long, List.map_cons, List.map_nil, List.length_cons, List.length_nil, List.replicate, List.append_nil, exs_c, exs_n, sbind_ret, ex_ret, ev_or, ev_cmp, ev_meth, ev_var, ev_con, ev_bi, eL_c, eL_n, getV_z, of_some, bind_ok, mt_bits, m_bits, if_true, c_gt, t_bl, to_ok, end_ret, d1, decide_true, Nat.sub_self]
  · simp only [f1, PG.circlenumbers_is_long, List.map_cons, List.map_nil, List.length_cons, List.length_nil, List.replicate, List.append_nil, exs_c, exs_n, sbind_ret, ex_ret, ev_or, ev_cmp, ev_meth, ev_var, ev_con, ev_bi, eL_c, eL_n, getV_z, of_some, bind_ok, mt_bits, m_bits, if_true, c_gt, t_bl, bi_abs, bi_str hl, hs2, to_ok, end_ret, d1, d2, decide_true, decide_false, Bool.false_eq_true, if_false, Nat.sub_self]
theorem short_eq {i : Int} (h : Sm i) : callN Pg (n + 1) 1 [.int i] st = .ok (.bl false) st := is_long_eq (P := Pg) (ι := ι) (has.mono (by decide)) h
theorem nl2 {x y : Int} (hx : Lg x) (hy : Sm y) : callN Pg (n + 2) 2 [.tup [.int x, .int y]] st = .exc 0 [.int 4] st := by
  rw [call_eq (fd := f2) rfl rfl rfl (by show 1 ≤ 2; decide)]
  have e2 : lcL (lcW (callN Pg (n + 1)) (.call 1 [.var 1]) (.nm 1) [] [1] [some (.tup [.int x, .int y]), none]) [.int x, .int y] [] st = .ok [.bl true, .bl false] st := by
    rw [lcL_y (d := .bl true) (st1 := st) (by simp [lcW_eq, long_eq hx]) (by show 0 < sizeLine; decide), lcL_y (d := .bl false) (st1 := st) (by simp [lcW_eq, short_eq hy]) (by show 1 < sizeLine; decide), lcL_n]
    rfl
  have i0 : ι.f 23 = 1 := rfl
  have b2 : blsD [.bl true, .bl false] = some [true, false] := rfl
  simp [f2, PG.circlenumbers_not_long, i0, e2, b2]
theorem nl3 {x y z : Int} (hx : Sm x) (hy : Lg y) (hz : Sm z) : callN Pg (n + 2) 2 [.tup [.int x, .int y, .int z]] st = .exc 0 [.int 4] st := by
  rw [call_eq (fd := f2) rfl rfl rfl (by show 1 ≤ 2; decide)]
  have e2 : lcL (lcW (callN Pg (n + 1)) (.call 1 [.var 1]) (.nm 1) [] [1] [some (.tup [.int x, .int y, .int z]), none]) [.int x, .int y, .int z] [] st = .ok [.bl false, .bl true, .bl false] st := by
    rw [lcL_y (d := .bl false) (st1 := st) (by simp [lcW_eq, short_eq hx]) (by show 0 < sizeLine; decide), lcL_y (d := .bl true) (st1 := st) (by simp [lcW_eq, long_eq hy]) (by show 1 < sizeLine; decide), lcL_y (d := .bl false) (st1 := st) (by simp [lcW_eq, short_eq hz]) (by show 2 < sizeLine; decide), lcL_n]
    rfl
  have i0 : ι.f 23 = 1 := rfl
  have b2 : blsD [.bl false, .bl true, .bl false] = some [false, true, false] := rfl
  simp [f2, PG.circlenumbers_not_long, i0, e2, b2]
theorem fr_long {x : Int} (hx : Lg x) (g : Int.gcd x 10 = 1) : callN Pg (n + 3) 6 [.int x, .int 10] st = .exc 0 [.int 4] st := by
  rw [call_iso (fd := f6) rfl rfl rfl (by show 2 ≤ 3; decide) (by simp)]
  have nl := nl2 (st := []) (n := n) hx (Sm.lit (i := 10) (by decide))
  have g' : ((Nat.gcd x.natAbs 10 : Nat) : Int) = 1 := by
    have : Nat.gcd x.natAbs 10 = 1 := g
    rw [this]; rfl
  have d1 := b_divB (st := []) (i := x) (j := 1) (Bd.lit (by decide)) (by decide)
  have d2 := b_divB (st := []) (i := 10) (j := 1) (Bd.lit (by decide)) (by decide)
  have k1 : x.fdiv 1 = x := by simp
  have k2 : (10 : Int).fdiv 1 = 10 := by decide
  rw [k1] at d1
  rw [k2] at d2
  have i0 : ι.f 28 = 2 := rfl
  simp [f6, PG.circlenumbers_fraction_told, i0, g', d1, d2, nl]
theorem dq1 (s : Int) : Dq 1 s (-1) = s * s + 4 := by unfold Dq; grind
theorem rt1 {s : Int} (h : 2 < s.natAbs) : Rt 1 s (-1) := by
  refine ⟨by decide, ?_, by rw [dq1]; have := sq_nn s; omega⟩
  rw [dq1]
  intro i hi
  have e1 := Int.natAbs_mul_self' i
  have e2 := Int.natAbs_mul_self' s
  generalize ((i.natAbs : Nat) : Int) = I at *
  have s0 : 2 < ((s.natAbs : Nat) : Int) := by omega
  have i0 : 0 ≤ I ∨ I < 0 := by omega
  generalize ((s.natAbs : Nat) : Int) = S0 at *
  have a1 := abs_of (p := S0 + 1) (q := I) (by omega) (by
    have : (S0 + 1) * (S0 + 1) = S0 * S0 + 2 * S0 + 1 := by grind
    omega)
  have a2 := sq_lt (p := S0 + 1) (q := I) a1.1 a1.2
  by_cases z : I ≤ S0 ∧ -S0 ≤ I
  · have : I * I ≤ S0 * S0 := by
      have := Int.mul_nonneg (show 0 ≤ S0 - I by omega) (show 0 ≤ S0 + I by omega)
      have e : (S0 - I) * (S0 + I) = S0 * S0 - I * I := by grind
      omega
    omega
  · omega
theorem rt_long {s : Int} (hs : Lg s) (b : Bd s) (bb : Bd (s * s + 4)) (h : 2 < s.natAbs) (m : Bool) : callN Pg (n + 4) 7 [.int 1, .int s, .int (-1), .bl m] st = .exc 0 [.int 4] st := by
  rw [call_eq (fd := f7) rfl rfl rfl (by show 4 ≤ 7; decide)]
  have r := rt1 h
  have d0 : 0 ≤ s * s + 4 := by have := sq_nn s; omega
  have sq : callN Pg (n + 3) 4 [.int (s * s + 4)] st = _ := squared_eq (P := Pg) (ι := ι) (n := n + 2) (st := st) (has.mono (m := [25]) (by decide)) d0 bb
  have ns := r.ns
  rw [dq1] at ns
  rw [decide_eq_false (is_ns ns)] at sq
  have nl := nl3 (st := st) (n := n + 1) (Sm.lit (i := 1) (by decide)) hs (Sm.lit (i := -1) (by decide))
  have m1 := b_mulB (st := st) b b
  have m2 := b_mulB (st := st) (i := 4) (j := 1) (Bd.lit (by decide)) (Bd.lit (by decide))
  have m3 := b_mulB (st := st) (i := 4) (j := -1) (Bd.lit (by decide)) (Bd.lit (by decide))
  have dv := fun i => b_divB (st := st) (i := i) (j := 1) (Bd.lit (by decide)) (by decide)
  have e1 : s * s - -4 = s * s + 4 := by omega
  have i0 : ι.f 25 = 4 := rfl
  have i1 : ι.f 28 = 2 := rfl
  simp [f7, PG.circlenumbers_root_told, i0, i1, m1, m2, m3, e1, sq, dv, nl]
end
end K08

set_option Elab.async false
set_option linter.all false
set_option maxRecDepth 100000
set_option maxHeartbeats 4000000
set_option exponentiation.threshold 20000
namespace K08
open PySem L2 MP N1 S
abbrev C13 := callN Pg 13
instance (i : Int) : Decidable (Lg i) := by unfold Lg; infer_instance
instance (i : Int) : Decidable (Sm i) := by unfold Sm; infer_instance
instance (i : Int) : Decidable (Bd i) := by unfold Bd; infer_instance
theorem lg300 : Lg (10 ^ 300 + 1) ∧ Lg (-(10 ^ 300 + 1)) := by decide +kernel
theorem lg301 : Lg (10 ^ 301 + 1) ∧ Lg (-(10 ^ 301 + 1)) := by decide +kernel
end K08

set_option Elab.async false
set_option linter.all false
set_option maxRecDepth 100000
set_option maxHeartbeats 4000000
set_option exponentiation.threshold 20000
namespace K08
open PySem L2 MP N1 S
def bO : List S := [.asg (.nm 7) (.ife (.cmp .eq (.var 8) (.var 16)) (.lit (.int 0)) (.ife (.cmp .lt (.var 9) (.var 15)) (.neg (.lit (.int 1))) (.lit (.int 1)))), .ife (.cmp .ne (.bi .repr [.call 12 [.var 8, .var 16]]) (.bi .repr [.var 7])) [.ret (.lit (.bl false))] []]
def bO2 : List S := [.forr (.tp [.nm 15, .nm 16]) .seq [.var 5] bO]
theorem rt_eq {st : DS} {a b c A B C : Int} {m k : Bool} : cmpD .eq st (rt a b c m) (rt A B C k) = some (decide (a = A ∧ b = B ∧ c = C ∧ m = k)) := by
  have sR : ∀ {a b c : Int} {m : Bool}, Sh (rt a b c m) 64 := fun {a b c m} => (Sh.tup (k := 0) (.cons .int (.cons .int (.cons .int (.cons .bl .nil))))).mono (by decide)
  rw [c_eqG sR sR]
  simp
abbrev ER (x0 x3 x4 x5 x6 x7 x8 x9 x10 x11 x12 x13 x14 x15 x16 : Option D) : MP.Env := [x0, some (.ref 1), some (.ref 2), x3, x4, x5, x6, x7, x8, x9, x10, x11, x12, x13, x14, x15, x16]
/-- a row: a floor far on, the root -/
def Row (d : D) : Prop := ∃ a b c m, Tb (10 ^ 9) a b c ∧ d = .tup [.int (Fl a b c m NN), rt a b c m]
section
variable {x0 x3 x4 x5 x6 x7 x8 x9 x10 x11 x12 x13 x14 x15 x16 : Option D} {st : DS}
theorem lapO {a b c A B C : Int} {m k : Bool} (t : Tb (10 ^ 9) a b c) (t' : Tb (10 ^ 9) A B C) : ∃ y7, execs C13 bO (ER x0 x3 x4 x5 x6 x7 (some (rt a b c m)) (some (.int (Fl a b c m NN))) x10 x11 x12 x13 x14 (some (.int (Fl A B C k NN))) (some (rt A B C k))) st = .nx (ER x0 x3 x4 x5 x6 y7 (some (rt a b c m)) (some (.int (Fl a b c m NN))) x10 x11 x12 x13 x14 (some (.int (Fl A B C k NN))) (some (rt A B C k))) st := by
  have lw : ∀ {i : Int}, Q (10 ^ 9) i → Q W i := fun h => h.le (by decide +kernel)
  have o : C13 12 [rt a b c m, rt A B C k] st = _ := line_rr (P := Pg) (ι := ι) (n := 9) (st := st) (m := m) (k := k) (has.mono (by decide)) (lw t.qa) (lw t.qb) (lw t.qc) (lw t'.qa) (lw t'.qb) (lw t'.qc)
  have q := rt_eq (st := st) (a := a) (b := b) (c := c) (A := A) (B := B) (C := C) (m := m) (k := k)
  have hn : (0 : Int) < NN := by decide +kernel
  have rO : ∀ i : Int, i = -1 ∨ i = 0 ∨ i = 1 → biD .repr st [.int i] = some (.str (rpS (.int i))) := fun i hi => repIn (sml9 (K := 1) (by unfold Q; omega) (by decide +kernel))
  by_cases e : a = A ∧ b = B ∧ c = C ∧ m = k
  · obtain ⟨rfl, rfl, rfl, rfl⟩ := e
    rw [ord_self t.r] at o
    have r := rO 0 (.inr (.inl rfl))
    refine ⟨some (.int 0), ?_⟩
    generalize Fl a b c m NN = F
    simp [bO, o, q, r]
  · have ne : Fl a b c m NN ≠ Fl A B C k NN := fun z => e (by
      obtain ⟨h1, h2, h3⟩ := close t.r t'.r t.qa t.qb t.qc t'.qa t'.qb t'.qc z
      have := t.l.uniq t'.l (e := A) (f := a) (by have := t'.r.a0; omega) (by have := t.r.a0; omega) (by
        simp only [List.map_cons, List.map_nil]
        rw [Int.mul_comm a A, Int.mul_comm b A, h1, Int.mul_comm c A, h2, Int.mul_comm a B, Int.mul_comm a C])
      simp only [List.cons.injEq, and_true] at this
      exact ⟨this.1, this.2.1, this.2.2, h3⟩)
    rw [decide_eq_false e] at q
    by_cases lt : Fl a b c m NN < Fl A B C k NN
    · rw [ord_neg t.r t'.r hn ((abv_fl t.r hn).mpr lt) ((bel_fl t'.r hn).mpr (Int.le_refl _))] at o
      have r := rO (-1) (.inl rfl)
      refine ⟨some (.int (-1)), ?_⟩
      generalize Fl a b c m NN = F at *
      generalize Fl A B C k NN = F' at *
      simp [bO, o, q, r, lt]
    · rw [ord_pos t.r t'.r hn ((bel_fl t.r hn).mpr (Int.le_refl _)) ((abv_fl t'.r hn).mpr (by omega))] at o
      have r := rO 1 (.inr (.inr rfl))
      refine ⟨some (.int 1), ?_⟩
      generalize Fl a b c m NN = F at *
      generalize Fl A B C k NN = F' at *
      simp [bO, o, q, r, lt]
theorem lapsO {a b c : Int} {m : Bool} (t : Tb (10 ^ 9) a b c) (rows : List D) (hr : ∀ d ∈ rows, Row d) : ∃ y7 y15 y16, execs C13 bO2 (ER x0 x3 x4 (some (.lst rows)) x6 x7 (some (rt a b c m)) (some (.int (Fl a b c m NN))) x10 x11 x12 x13 x14 x15 x16) st = .nx (ER x0 x3 x4 (some (.lst rows)) x6 y7 (some (rt a b c m)) (some (.int (Fl a b c m NN))) x10 x11 x12 x13 x14 y15 y16) st := by
  obtain ⟨ρ', st', e, ⟨y7, y15, y16, rfl⟩, rfl⟩ := forL_inv (F := forB C13 (.tp [.nm 15, .nm 16]) bO) (fun ρ s => (∃ y7 y15 y16, ρ = ER x0 x3 x4 (some (.lst rows)) x6 y7 (some (rt a b c m)) (some (.int (Fl a b c m NN))) x10 x11 x12 x13 x14 y15 y16) ∧ s = st) rows (fun d hd ρ s ⟨⟨y7, y15, y16, hρ⟩, hs⟩ => by
    subst hρ hs
    obtain ⟨A, B, C, k, t', rfl⟩ := hr d hd
    obtain ⟨y7', e⟩ := lapO (x0 := x0) (x3 := x3) (x4 := x4) (x5 := some (.lst rows)) (x6 := x6) (x7 := y7) (x10 := x10) (x11 := x11) (x12 := x12) (x13 := x13) (x14 := x14) (st := s) (m := m) (k := k) t t'
    exact ⟨_, s, forB_tp2.trans e, ⟨y7', _, _, rfl⟩, rfl⟩) (ER x0 x3 x4 (some (.lst rows)) x6 x7 (some (rt a b c m)) (some (.int (Fl a b c m NN))) x10 x11 x12 x13 x14 x15 x16) st ⟨⟨_, _, _, rfl⟩, rfl⟩
  refine ⟨y7, y15, y16, ?_⟩
  simp only [bO2, exs_c, exs_n, ex_for, eL_c, eL_n, ev_var, ER, getV_s, getV_z, of_some, bind_ok, itD_lst, to_ok]
  simp only [ER] at e
  rw [e]
  rfl
theorem rows_ok (rows : List D) (hr : ∀ d ∈ rows, Row d) : ∃ y7 y8 y9 y15 y16, exec C13 (.forr (.tp [.nm 9, .nm 8]) .seq [.var 5] bO2) (ER x0 x3 x4 (some (.lst rows)) x6 x7 x8 x9 x10 x11 x12 x13 x14 x15 x16) st = .nx (ER x0 x3 x4 (some (.lst rows)) x6 y7 y8 y9 x10 x11 x12 x13 x14 y15 y16) st := by
  obtain ⟨ρ', st', e, ⟨y7, y8, y9, y15, y16, rfl⟩, rfl⟩ := forL_inv (F := forB C13 (.tp [.nm 9, .nm 8]) bO2) (fun ρ s => (∃ y7 y8 y9 y15 y16, ρ = ER x0 x3 x4 (some (.lst rows)) x6 y7 y8 y9 x10 x11 x12 x13 x14 y15 y16) ∧ s = st) rows (fun d hd ρ s ⟨⟨y7, y8, y9, y15, y16, hρ⟩, hs⟩ => by
    subst hρ hs
    obtain ⟨a, b, c, m, t, rfl⟩ := hr d hd
    obtain ⟨y7', y15', y16', e⟩ := lapsO (x0 := x0) (x3 := x3) (x4 := x4) (x6 := x6) (x7 := y7) (x10 := x10) (x11 := x11) (x12 := x12) (x13 := x13) (x14 := x14) (x15 := y15) (x16 := y16) (st := s) (m := m) t rows hr
    exact ⟨_, s, forB_tp2.trans e, ⟨y7', _, _, y15', y16', rfl⟩, rfl⟩) (ER x0 x3 x4 (some (.lst rows)) x6 x7 x8 x9 x10 x11 x12 x13 x14 x15 x16) st ⟨⟨_, _, _, _, _, rfl⟩, rfl⟩
  refine ⟨y7, y8, y9, y15, y16, ?_⟩
  simp only [ex_for, eL_c, eL_n, ev_var, ER, getV_s, getV_z, of_some, bind_ok, itD_lst, to_ok]
  simp only [ER] at e
  rw [e]
end
end K08

set_option Elab.async false
set_option linter.all false
set_option maxRecDepth 100000
set_option maxHeartbeats 4000000
set_option exponentiation.threshold 20000
namespace K08
open PySem L2 MP N1 S
def bL : List S := [.asg (.tp [.nm 12, .nm 13, .nm 14]) (.call 22 [.var 1, .var 3]), .asg (.nm 8) (.tup [.var 12, .var 13, .var 14, .cmp .eq (.call 17 [.var 1, .lit (.int 2)]) (.lit (.int 0))]), .ife (.not (.tv (.call 25 [.var 1, .var 8, .call 18 [.var 1, .lst false [.lit (.int 1), .neg (.lit (.int 1)), .lit (.int 2), .neg (.lit (.int 7)), .bin .pow (.lit (.int 10)) (.lit (.int 12))]]]))) [.ret (.lit (.bl false))] [], .expr (.meth .append (.var 2) [.var 8])]
theorem app_ok {st : DS} {rs : List D} (h : Src st [.lst rs]) (hl : rs.length < 100) (d : D) : ∃ st', methD .append st (.ref 2) [d] = .ok .non st' ∧ mtyD .append st (.ref 2) = true ∧ Src st' [.lst (rs ++ [d])] := by
  obtain ⟨rc, l, m, t, h63, rfl⟩ := h
  exact ⟨_, m_append (ys := rs) rfl (Nat.lt_trans hl (by decide)), rfl, rc, l, m, t, h63, rfl⟩
section
variable {x0 x3 x4 x5 x6 x7 x8 x9 x10 x11 x12 x13 x14 x15 x16 : Option D}
theorem lapL {H : Int} (h1 : 1 ≤ H) (h2 : H ≤ 10 ^ 9) {st : DS} {rs : List D} (hl : rs.length < 100) (hs : Src st [.lst rs]) : ∃ y8 y12 y13 y14 a b c m st', forB C13 (.nm 3) bL (.int H) (ER x0 x3 x4 x5 x6 x7 x8 x9 x10 x11 x12 x13 x14 x15 x16) st = .nx (ER x0 (some (.int H)) x4 x5 x6 x7 y8 x9 x10 x11 y12 y13 y14 x15 x16) st' ∧ Src st' [.lst (rs ++ [rt a b c m])] ∧ Tb (10 ^ 9) a b c := by
  obtain ⟨a, b, c, st1, e1, s1, t⟩ := table_ok 10 h1 h2 hs
  obtain ⟨u, st2, e2, p1, p2, s2⟩ := pick_ok (n := 12) hp s1 (many := 2) (by decide) (by decide +kernel)
  obtain ⟨j, st3, hj, e3, s3⟩ := of_ok (n := 11) hp ho s2 (ds := [D.int 1, .int (-1), .int 2, .int (-7), .int (10 ^ 12)]) (by decide) (by decide)
  have key : ∃ v, ([D.int 1, .int (-1), .int 2, .int (-7), .int (10 ^ 12)])[j] = .int v ∧ v ≠ 0 ∧ Q (10 ^ 12) v := by
    have h : ∀ d ∈ [D.int 1, .int (-1), .int 2, .int (-7), .int (10 ^ 12)], ∃ v, d = .int v ∧ v ≠ 0 ∧ Q (10 ^ 12) v := by
      intro d hd
      simp only [List.mem_cons, List.not_mem_nil, or_false] at hd
      rcases hd with rfl | rfl | rfl | rfl | rfl <;> exact ⟨_, rfl, by decide, by decide, by decide⟩
    exact h _ (List.getElem_mem hj)
  obtain ⟨v, ev, v0, qv⟩ := key
  rw [ev] at e3
  have t9 : Tb (10 ^ 9) a b c := ⟨t.r, t.l, t.qa.le h2, t.qb.le h2, t.qc.le h2⟩
  obtain ⟨st4, e4, s4⟩ := root_right (m := decide (u = 0)) t9 v0 qv s3
  obtain ⟨st5, e5, e6, s5⟩ := app_ok s4 hl (rt a b c (decide (u = 0)))
  have pw := fun st : DS => b_pow (st := st) (i := 10) (j := 12) (by decide)
  have pw' : ∀ st : DS, binD .pow st (.int 10) (.int 12) = some (.int (10 ^ 12)) := pw
  refine ⟨some (rt a b c (decide (u = 0))), some (.int a), some (.int b), some (.int c), a, b, c, decide (u = 0), st5, ?_, s5, t9⟩
  rw [forB_nm]
  simp only [rt] at e4 e5
  have ng1 : negD (.int 1) = some (.int (-1)) := rfl
  have ng7 : negD (.int 7) = some (.int (-7)) := rfl
  simp only [bL, ER, exs_c, exs_n, setV_s, setV_z, ex_asg, ev_call, eL_c, eL_n, ev_var, getV_s, getV_z, of_some, bind_ok, e1, to_ok, aT_tp, aTs_c, aTs_n, aT_nm, tie_nx, sbind_nx, ev_tup, ev_cmp, ev_lit, e2, c_eq, List.length_cons, List.length_nil, Nat.zero_add, Nat.reduceAdd, sz4, sz5, if_true, ex_ife, eT_not, eT_tv, ev_lst, ev_neg, ev_bin, pw', newL_f, ng1, ng7, e3, e4, t_bl, Bool.not_true, Bool.false_eq_true, if_false, ex_expr, ev_meth, e5, e6, rt]
end
end K08

set_option Elab.async false
set_option linter.all false
set_option maxRecDepth 100000
set_option maxHeartbeats 4000000
set_option exponentiation.threshold 20000
namespace K08
open PySem L2 MP N1 S
/-- what is told of 10^k + 1 -/
theorem figs (k : Nat) (h1 : 297 ≤ k) (h2 : k ≤ 301) (v : Int) (hv : v = 1 ∨ v = -1) (st : DS) :
    (¬ (299 < k) ∧ Sm (v * (10 ^ k + 1)) ∧ C13 6 [.int (v * (10 ^ k + 1)), .int 10] st = .ok (.tup [.int (v * (10 ^ k + 1)), .int 10]) st ∧ C13 7 [.int 1, .int (v * (10 ^ k + 1)), .int (-1), .bl true] st = .ok (rt 1 (v * (10 ^ k + 1)) (-1) true) st) ∨
    (299 < k ∧ C13 6 [.int (v * (10 ^ k + 1)), .int 10] st = .exc 0 [.int 4] st ∧ C13 7 [.int 1, .int (v * (10 ^ k + 1)), .int (-1), .bl true] st = .exc 0 [.int 4] st) := by
  have lo : ∀ x : Int, Sm x → 2 < x.natAbs → Int.gcd x 10 = 1 → C13 6 [.int x, .int 10] st = .ok (.tup [.int x, .int 10]) st ∧ C13 7 [.int 1, .int x, .int (-1), .bl true] st = .ok (rt 1 x (-1) true) st := fun x hx h2 hg => by
    refine ⟨fr_eq (P := Pg) (ι := ι) (n := 10) (st := st) (has.mono (by decide)) (fun z => by omega) hx (Sm.lit (by decide)) ⟨hg, .inl (by decide)⟩ rfl, ?_⟩
    have r := rt1 (s := x) h2
    have ml : ML [1, x, -1] := ⟨by simp [gcdL], 1, nz [x, -1], nz3 (by decide), by decide⟩
    have bD : Bd (x * x - 4 * 1 * -1) := by
      have q : Q (10 ^ 300) x := by
        have e : ((10 ^ 300 : Nat) : Int) = 10 ^ 300 := by rw [Int.natCast_pow]; rfl
        unfold Sm at hx
        unfold Q
        omega
      exact ((q.mul q).sub (Q.le (K := 10) (i := 4 * 1 * -1) ⟨by decide, by decide⟩ (Int.le_refl _))).bd (by decide +kernel)
    have dd : Dq 1 x (-1) = x * x - 4 * 1 * -1 := rfl
    obtain ⟨a', b', c', e1, e2, l⟩ := root_root (P := Pg) (ι := ι) (n := 9) (st := st) (m := true) (has.mono (by decide)) (f := 1) (s := x) (t := -1) (Sm.lit (by decide)) hx (Sm.lit (by decide)) (by decide) (Bd.lit (by decide)) bD (by rw [← dd]; exact Int.le_of_lt r.d0) (by rw [← dd]; exact is_ns r.ns)
    have ne : sgL [1, x, -1] ≠ 0 := (mtold_ex (nz3 (by decide))).1
    have := ml.uniq l (e := 1) (by decide) ne (by rw [← e2]; simp)
    simp only [List.cons.injEq, and_true] at this
    obtain ⟨rfl, rfl, rfl⟩ := this
    exact e1
  have hi : ∀ x : Int, Lg x → Bd x → Bd (x * x + 4) → 2 < x.natAbs → Int.gcd x 10 = 1 → C13 6 [.int x, .int 10] st = .exc 0 [.int 4] st ∧ C13 7 [.int 1, .int x, .int (-1), .bl true] st = .exc 0 [.int 4] st := fun x hx b bb h2 hg => ⟨fr_long hx hg, rt_long hx b bb h2 true⟩
  have ks : k = 297 ∨ k = 298 ∨ k = 299 ∨ k = 300 ∨ k = 301 := by omega
  have e1 : ∀ y : Int, 1 * y = y := fun y => Int.one_mul y
  have e2 : ∀ y : Int, -1 * y = -y := fun y => by omega
  rcases ks with rfl | rfl | rfl | rfl | rfl <;> rcases hv with rfl | rfl <;> first | rw [e1] | rw [e2]
  · exact .inl ⟨by decide, by decide +kernel, lo _ (by decide +kernel) (by decide +kernel) (by decide +kernel)⟩
  · exact .inl ⟨by decide, by decide +kernel, lo _ (by decide +kernel) (by decide +kernel) (by decide +kernel)⟩
  · exact .inl ⟨by decide, by decide +kernel, lo _ (by decide +kernel) (by decide +kernel) (by decide +kernel)⟩
  · exact .inl ⟨by decide, by decide +kernel, lo _ (by decide +kernel) (by decide +kernel) (by decide +kernel)⟩
  · exact .inl ⟨by decide, by decide +kernel, lo _ (by decide +kernel) (by decide +kernel) (by decide +kernel)⟩
  · exact .inl ⟨by decide, by decide +kernel, lo _ (by decide +kernel) (by decide +kernel) (by decide +kernel)⟩
  · exact .inr ⟨by decide, hi _ lg300.1 (by decide +kernel) (by decide +kernel) (by decide +kernel) (by decide +kernel)⟩
  · exact .inr ⟨by decide, hi _ lg300.2 (by decide +kernel) (by decide +kernel) (by decide +kernel) (by decide +kernel)⟩
  · exact .inr ⟨by decide, hi _ lg301.1 (by decide +kernel) (by decide +kernel) (by decide +kernel) (by decide +kernel)⟩
  · exact .inr ⟨by decide, hi _ lg301.2 (by decide +kernel) (by decide +kernel) (by decide +kernel) (by decide +kernel)⟩
end K08

set_option Elab.async false
set_option linter.all false
set_option maxRecDepth 100000
set_option maxHeartbeats 4000000
set_option exponentiation.threshold 20000
namespace K08
open PySem L2 MP N1 S
def e5 : S := .slc 5 (.lcv false (.tup [.call 24 [.var 8, .var 4], .var 8]) (.nm 8) false (.var 2) [] [8])
def eT : List S := [.ife (.not (.tv (.call 26 [.var 1]))) [.ret (.lit (.bl false))] [],
    .asg (.nm 6) (.bin .add (.lit (.int 297)) (.call 17 [.var 1, .lit (.int 5)])),
    .asg (.tp [.nm 10, .nm 11]) (.tup [.bin .add (.call 20 [.lit (.int 10), .var 6]) (.lit (.int 1)), .call 18 [.var 1, .lst false [.lit (.int 1), .neg (.lit (.int 1))]]]),
    .asg (.nm 7) (.ife (.cmp .gt (.var 6) (.lit (.int 299))) (.tup [.lit (.str "great"), .lit (.int 4)]) (.tup [.lit (.str "told"), .tup [.bin .mul (.var 11) (.var 10), .lit (.int 10)]])),
    .ife (.cmp .ne (.bi .repr [.told 0 (.call 6 [.bin .mul (.var 11) (.var 10), .lit (.int 10)])]) (.bi .repr [.var 7])) [.ret (.lit (.bl false))] [],
    .asg (.nm 7) (.ife (.cmp .gt (.var 6) (.lit (.int 299))) (.tup [.lit (.str "great"), .lit (.int 4)]) (.tup [.lit (.str "told"), .tup [.lit (.int 1), .bin .mul (.var 11) (.var 10), .neg (.lit (.int 1)), .lit (.bl true)]])),
    .ret (.cmp .eq (.bi .repr [.told 0 (.call 7 [.lit (.int 1), .bin .mul (.var 11) (.var 10), .neg (.lit (.int 1)), .lit (.bl true)])]) (.bi .repr [.var 7]))]
theorem body27 : f27.body = .asg (.nm 1) (.call 16 [.var 0]) :: .asg (.nm 2) (.lst true []) :: .forr (.nm 3) .seq [.tup [.lit (.int 6), .lit (.int 40), .bin .pow (.lit (.int 10)) (.lit (.int 9))]] bL :: .asg (.nm 4) (.call 20 [.lit (.int 10), .lit (.int 90)]) :: e5 :: .forr (.tp [.nm 9, .nm 8]) .seq [.var 5] bO2 :: eT := rfl
section
variable {x0 x3 x4 x5 x6 x7 x8 x9 x10 x11 x12 x13 x14 x15 x16 : Option D}
theorem repG {st : DS} : biD .repr st [.tup [.str "great", .int 4]] = some (.str (rpS (.tup [.str "great", .int 4]))) := bi_repr (by decide +kernel) (by decide +kernel) (by decide +kernel)
theorem okt : okS "told" = true ∧ ("told" : Str).cps.size = 4 := by decide +kernel
theorem repT {st : DS} {x : Int} (h : Sm x) : biD .repr st [.tup [.str "told", .tup [.int x, .int 10]]] = some (.str (rpS (.tup [.str "told", .tup [.int x, .int 10]]))) := bi_repr (by simp [okt.1, smB_of h.smI, smB_of (Sm.lit (i := 10) (by decide)).smI]) (by simp [okt.2]) (by simp)
theorem repR {st : DS} {x : Int} (h : Sm x) : biD .repr st [.tup [.str "told", .tup [.int 1, .int x, .int (-1), .bl true]]] = some (.str (rpS (.tup [.str "told", .tup [.int 1, .int x, .int (-1), .bl true]]))) := bi_repr (by simp [okt.1, smB_of h.smI, smB_of (Sm.lit (i := 1) (by decide)).smI, smB_of (Sm.lit (i := -1) (by decide)).smI]) (by simp [okt.2]) (by simp)
theorem tail_ok {st rest : DS} (hs : Src st rest) : ∃ st', execs C13 eT (ER x0 x3 x4 x5 x6 x7 x8 x9 x10 x11 x12 x13 x14 x15 x16) st = .ret (.bl true) st' := by
  obtain ⟨st1, f1, s1⟩ := parted_right hs
  obtain ⟨r, st2, f2, p1, p2, s2⟩ := pick_ok (n := 12) hp s1 (many := 5) (by decide) (by decide +kernel)
  obtain ⟨j, st3, hj, f3, s3⟩ := of_ok (n := 11) hp ho s2 (ds := [D.int 1, .int (-1)]) (by decide) (by decide)
  have key : ∃ v, ([D.int 1, .int (-1)])[j] = .int v ∧ (v = 1 ∨ v = -1) := by
    have h : ∀ d ∈ [D.int 1, .int (-1)], ∃ v, d = .int v ∧ (v = 1 ∨ v = -1) := by
      intro d hd
      simp only [List.mem_cons, List.not_mem_nil, or_false] at hd
      rcases hd with rfl | rfl <;> exact ⟨_, rfl, by decide⟩
    exact h _ (List.getElem_mem hj)
  obtain ⟨v, ev, hv⟩ := key
  rw [ev] at f3
  obtain ⟨k, rfl⟩ := Int.eq_ofNat_of_zero_le p1
  have f4 : C13 20 [.int 10, .int (297 + (k : Int))] st2 = .ok (.int (10 ^ (297 + k))) st2 := power_eq 12 st2 (297 + k) (by omega)
  refine ⟨st3, ?_⟩
  have bv : Bd v := by rcases hv with rfl | rfl <;> exact Bd.lit (by decide)
  have bw : Bd ((10 : Int) ^ (297 + k) + 1) := by
    have h := Nat.pow_le_pow_right (n := 10) (by decide) (show 297 + k ≤ 302 by omega)
    have h2 := Int.ofNat_le.mpr h
    rw [Int.natCast_pow, Int.natCast_pow] at h2
    have h3 : (10 : Int) ^ (297 + k) ≤ 10 ^ 302 := h2
    have h4 : (0 : Int) < 10 ^ (297 + k) := Int.pow_pos (by decide)
    have h5 : (10 : Int) ^ 302 + 1 ≤ 10 ^ 303 := by decide +kernel
    exact Q.bd (K := 10 ^ 303) (by unfold Q; omega) (by decide +kernel)
  have m1 := b_mulB (st := st3) bv bw
  have lt : ((299 : Int) < 297 + (k : Int)) = (299 < 297 + k) := propext ⟨fun h => by omega, fun h => by omega⟩
  rcases figs (297 + k) (by omega) (by omega) v hv st3 with ⟨c1, c2, c3, c4⟩ | ⟨c1, c3, c4⟩
  · have rA := repT (st := st3) c2
    have rB := repR (st := st3) c2
    simp only [rt] at c4
    generalize v * (10 ^ (297 + k) + 1) = X at *
    simp [eT, ER, f1, f2, f3, f4, lt, c1, m1, c3, c4, rA, rB]
  · have rG := repG (st := st3)
    generalize v * (10 ^ (297 + k) + 1) = X at *
    simp [eT, ER, f1, f2, f3, f4, lt, c1, m1, c3, c4, rG]
theorem seq_src {st : DS} {rs : List D} (h : Src st [.lst rs]) : seqD st (.ref 2) = some rs := by
  obtain ⟨rc, l, m, t, h63, rfl⟩ := h
  rfl
theorem plain : ∀ ns : List Int, ns.length ≤ 63 → (∀ z ∈ ns, Builtin.Int.intBits z ≤ 1048576) → ∃ st', callN Pg 14 27 [.scr (ns.map D.int)] [] = .ok (.bl true) st' := by
  intro ns hl _
  rw [call_eq (fd := f27) rfl rfl rfl (by show 1 ≤ 17; decide)]
  obtain ⟨st1, g1, s1⟩ := source_ok (P := Pg) (i := 16) (n := 12) rfl ns hl
  have env : (List.map some [D.scr (ns.map D.int)] ++ List.replicate (f27.N.length - [D.scr (ns.map D.int)].length) none) = [some (.scr (ns.map D.int)), none, none, none, none, none, none, none, none, none, none, none, none, none, none, none, none] := rfl
  rw [env, body27]
  have s1' : Src (st1 ++ [.lst []]) [.lst []] ∧ st1.length = 2 := by
    obtain ⟨rc, l, m, t, h63, rfl⟩ := s1
    exact ⟨⟨rc, l, m, t, h63, rfl⟩, rfl⟩
  obtain ⟨s2, len⟩ := s1'
  generalize hsc : some (D.scr (ns.map D.int)) = x0
  have w1 : exec C13 (.asg (.nm 1) (.call 16 [.var 0])) [x0, none, none, none, none, none, none, none, none, none, none, none, none, none, none, none, none] [] = .nx [x0, some (.ref 1), none, none, none, none, none, none, none, none, none, none, none, none, none, none, none] st1 := by
    subst hsc
    simp [g1]
  have w2 : exec C13 (.asg (.nm 2) (.lst true [])) [x0, some (.ref 1), none, none, none, none, none, none, none, none, none, none, none, none, none, none, none] st1 = .nx (ER x0 none none none none none none none none none none none none none none) (st1 ++ [.lst []]) := by
    simp [len]
  obtain ⟨y8, y12, y13, y14, a, b, c, m, st2, l1, s3, t1⟩ := lapL (x0 := x0) (x3 := none) (x4 := none) (x5 := none) (x6 := none) (x7 := none) (x8 := none) (x9 := none) (x10 := none) (x11 := none) (x12 := none) (x13 := none) (x14 := none) (x15 := none) (x16 := none) (H := 6) (by decide) (by decide) (rs := []) (by decide) s2
  obtain ⟨z8, z12, z13, z14, a', b', c', m', st3, l2, s4, t2⟩ := lapL (x0 := x0) (x3 := some (.int 6)) (x4 := none) (x5 := none) (x6 := none) (x7 := none) (x8 := y8) (x9 := none) (x10 := none) (x11 := none) (x12 := y12) (x13 := y13) (x14 := y14) (x15 := none) (x16 := none) (H := 40) (by decide) (by decide) (by simp) s3
  obtain ⟨u8, u12, u13, u14, a2, b2, c2, m2, st4, l3, s5, t3⟩ := lapL (x0 := x0) (x3 := some (.int 40)) (x4 := none) (x5 := none) (x6 := none) (x7 := none) (x8 := z8) (x9 := none) (x10 := none) (x11 := none) (x12 := z12) (x13 := z13) (x14 := z14) (x15 := none) (x16 := none) (H := 10 ^ 9) (by decide) (by decide) (by simp) s4
  simp only [List.nil_append, List.cons_append] at s5
  have pw : ∀ st : DS, binD .pow st (.int 10) (.int 9) = some (.int (10 ^ 9)) := fun st => b_pow (st := st) (i := 10) (j := 9) (by decide)
  have w3 : exec C13 (.forr (.nm 3) .seq [.tup [.lit (.int 6), .lit (.int 40), .bin .pow (.lit (.int 10)) (.lit (.int 9))]] bL) (ER x0 none none none none none none none none none none none none none none) (st1 ++ [.lst []]) = .nx (ER x0 (some (.int (10 ^ 9))) none none none none u8 none none none u12 u13 u14 none none) st4 := by
    simp only [ex_for, eL_c, eL_n, ev_tup, ev_lit, ev_bin, of_some, bind_ok, pw, List.length_cons, List.length_nil, Nat.zero_add, Nat.reduceAdd, sz3, if_true, to_ok, itD_tup, forL_c l1, forL_c l2, forL_c l3, forL_n]
  have pe : C13 20 [.int 10, .int 90] st4 = .ok (.int NN) st4 := power_eq 12 st4 90 (by decide)
  have w4 : exec C13 (.asg (.nm 4) (.call 20 [.lit (.int 10), .lit (.int 90)])) (ER x0 (some (.int (10 ^ 9))) none none none none u8 none none none u12 u13 u14 none none) st4 = .nx (ER x0 (some (.int (10 ^ 9))) (some (.int NN)) none none none u8 none none none u12 u13 u14 none none) st4 := by
    simp only [ex_asg, ev_call, eL_c, eL_n, ev_lit, bind_ok, pe, to_ok, aT_nm, ER, setV_s, setV_z]
  have fl : ∀ {a b c : Int} {m : Bool}, Tb (10 ^ 9) a b c → C13 24 [rt a b c m, .int NN] st4 = .ok (.int (Fl a b c m NN)) st4 := fun {a b c m} t => floor_law 11 t.r t.qa t.qb t.qc (by decide +kernel) (by decide +kernel)
  generalize hN : (D.int NN) = dN at *
  have lr : lcL (lcW C13 (.tup [.call 24 [.var 8, .var 4], .var 8]) (.nm 8) [] [8] (ER x0 (some (.int (10 ^ 9))) (some dN) none none none u8 none none none u12 u13 u14 none none)) [rt a b c m, rt a' b' c' m', rt a2 b2 c2 m2] [] st4 = .ok [.tup [.int (Fl a b c m NN), rt a b c m], .tup [.int (Fl a' b' c' m' NN), rt a' b' c' m'], .tup [.int (Fl a2 b2 c2 m2 NN), rt a2 b2 c2 m2]] st4 := by
    rw [lcL_y (d := .tup [.int (Fl a b c m NN), rt a b c m]) (st1 := st4) (by simp [lcW_eq, fl t1]) (by show 0 < sizeLine; decide), lcL_y (d := .tup [.int (Fl a' b' c' m' NN), rt a' b' c' m']) (st1 := st4) (by simp [lcW_eq, fl t2]) (by show 1 < sizeLine; decide), lcL_y (d := .tup [.int (Fl a2 b2 c2 m2 NN), rt a2 b2 c2 m2]) (st1 := st4) (by simp [lcW_eq, fl t3]) (by show 2 < sizeLine; decide), lcL_n]
    rfl
  have sq := seq_src s5
  have lv := lcV_lcL (f := lcW C13 (.tup [.call 24 [.var 8, .var 4], .var 8]) (.nm 8) [] [8] (ER x0 (some (.int (10 ^ 9))) (some dN) none none none u8 none none none u12 u13 u14 none none)) sq (fun d hd => by
    simp only [List.mem_cons, List.not_mem_nil, or_false] at hd
    rcases hd with rfl | rfl | rfl
    · exact ⟨some (.tup [.int (Fl a b c m NN), rt a b c m]), by simp [lcW_eq, fl t1]⟩
    · exact ⟨some (.tup [.int (Fl a' b' c' m' NN), rt a' b' c' m']), by simp [lcW_eq, fl t2]⟩
    · exact ⟨some (.tup [.int (Fl a2 b2 c2 m2 NN), rt a2 b2 c2 m2]), by simp [lcW_eq, fl t3]⟩) fuel 0 [] (Nat.zero_le _) (by show 3 < 0 + fuel; decide)
  rw [List.drop_zero, lr] at lv
  have hr : ∀ d ∈ [D.tup [.int (Fl a b c m NN), rt a b c m], .tup [.int (Fl a' b' c' m' NN), rt a' b' c' m'], .tup [.int (Fl a2 b2 c2 m2 NN), rt a2 b2 c2 m2]], Row d := by
    intro d hd
    simp only [List.mem_cons, List.not_mem_nil, or_false] at hd
    rcases hd with rfl | rfl | rfl
    · exact ⟨_, _, _, _, t1, rfl⟩
    · exact ⟨_, _, _, _, t2, rfl⟩
    · exact ⟨_, _, _, _, t3, rfl⟩
  generalize [D.tup [.int (Fl a b c m NN), rt a b c m], .tup [.int (Fl a' b' c' m' NN), rt a' b' c' m'], .tup [.int (Fl a2 b2 c2 m2 NN), rt a2 b2 c2 m2]] = rows at *
  have w5 : exec C13 e5 (ER x0 (some (.int (10 ^ 9))) (some dN) none none none u8 none none none u12 u13 u14 none none) st4 = .nx (ER x0 (some (.int (10 ^ 9))) (some dN) (some (.lst rows)) none none u8 none none none u12 u13 u14 none none) st4 := by
    simp only [ER] at lv
    simp only [e5, ex_slc, ev_lcv, ev_var, ER, getV_s, getV_z, of_some, bind_ok, lv, newL_f, to_ok, setV_s, setV_z]
  obtain ⟨v7, v8, v9, v15, v16, w6⟩ := rows_ok (x0 := x0) (x3 := some (.int (10 ^ 9))) (x4 := some dN) (x6 := none) (x7 := none) (x8 := u8) (x9 := none) (x10 := none) (x11 := none) (x12 := u12) (x13 := u13) (x14 := u14) (x15 := none) (x16 := none) (st := st4) rows hr
  obtain ⟨st5, w7⟩ := tail_ok (x0 := x0) (x3 := some (.int (10 ^ 9))) (x4 := some dN) (x5 := some (.lst rows)) (x6 := none) (x7 := v7) (x8 := v8) (x9 := v9) (x10 := none) (x11 := none) (x12 := u12) (x13 := u13) (x14 := u14) (x15 := v15) (x16 := v16) s5
  refine ⟨st5, ?_⟩
  rw [exs_c, w1, sbind_nx, exs_c, w2, sbind_nx, exs_c, w3, sbind_nx, exs_c, w4, sbind_nx, exs_c, w5, sbind_nx, exs_c, w6, sbind_nx, w7]
  rfl
end
end K08

set_option Elab.async false
set_option linter.all false
set_option maxRecDepth 100000
open PySem PySem.W PyProof.Rows
set_option maxHeartbeats 0 in
theorem PySem.Challenge.cw_waylots_k08_roots_against_bounds_holds : PySem.Challenge.rw_waylots_k08_roots_against_bounds.Holds := by
  w_on; o_law; k_head; (case hw => w_witness2)
  k_fill
  refine MP.walkG (l := PySem.Challenge.rw_waylots_k08_roots_against_bounds) (n := 63) (k := 45) (x := "script") rfl (by decide) rfl ⟨rfl, by decide, by decide⟩ (fun w h Y => km_in_of Y) ?F
  case F =>
    intro w mg fa h Y KX G hmg
    have hT8 := km_tabs_of Y
    refine' K08.all_mk (hTab := hT8 _ (List.mem_singleton.mpr rfl)) K08.plain KX G hmg ?a0 ?l0 ?c0_ ?k0 ?a1 ?l1 ?c1_ ?k1 ?a2 ?l2 ?c2_ ?k2 ?a3 ?l3 ?c3_ ?k3 ?a4 ?l4 ?c4_ ?k4 ?a5 ?l5 ?c5_ ?k5 ?a6 ?l6 ?c6_ ?k6 ?a7 ?l7 ?c7_ ?k7 ?a8 ?l8 ?c8_ ?k8 ?a9 ?l9 ?c9_ ?k9 ?a10 ?l10 ?c10_ ?k10 ?a11 ?l11 ?c11_ ?k11 ?a12 ?l12 ?c12_ ?k12 ?a13 ?l13 ?c13_ ?k13 ?a14 ?l14 ?c14_ ?k14 ?a15 ?l15 ?c15_ ?k15 ?a16 ?l16 ?c16_ ?k16 ?a17 ?l17 ?c17_ ?k17 ?a18 ?l18 ?c18_ ?k18 ?a19 ?l19 ?c19_ ?k19 ?a20 ?l20 ?c20_ ?k20 ?a21 ?l21 ?c21_ ?k21 ?a22 ?l22 ?c22_ ?k22 ?a23 ?l23 ?c23_ ?k23 ?a24 ?l24 ?c24_ ?k24 ?a25 ?l25 ?c25_ ?k25 ?a26 ?l26 ?c26_ ?k26 ?a27 ?l27 ?c27_ ?k27 ?hd ?tk ?n0 ?n1 ?n2 ?n3 ?mk3 ?b_abs ?b_len ?b_max ?b_min ?b_int ?b_str ?b_repr ?b_tuple ?b_all ?b_any ?b_sum ?b_range ?b_list ?b_dict ?b_enumerate ?b_zip ?b_isinstance ?b_bool ?b_sorted ?gcd_ ?isqrt_ ?aC ?xC ?rC ?saC ?exC ?tyC ?kC ?iC ?sC ?gaC ?ggC ?hdC ?nfC ?inC ?tyI ?lI ?cI ?kcI ?v2I ?flI ?ccl ?clC ?mrC ?supG ?thr ?alo ?sbV ?topS ?aT ?lT ?cT ?kT
    (case a0 => k_is)
    (case l0 => k_is)
    (case c0_ => k_is)
    (case k0 => k_is)
    (case a1 => k_is)
    (case l1 => k_is)
    (case c1_ => k_is)
    (case k1 => k_is)
    (case a2 => k_is)
    (case l2 => k_is)
    (case c2_ => k_is)
    (case k2 => k_is)
    (case a3 => k_is)
    (case l3 => k_is)
    (case c3_ => k_is)
    (case k3 => k_is)
    (case a4 => k_is)
    (case l4 => k_is)
    (case c4_ => k_is)
    (case k4 => k_is)
    (case a5 => k_is)
    (case l5 => k_is)
    (case c5_ => k_is)
    (case k5 => k_is)
    (case a6 => k_is)
    (case l6 => k_is)
    (case c6_ => k_is)
    (case k6 => k_is)
    (case a7 => k_is)
    (case l7 => k_is)
    (case c7_ => k_is)
    (case k7 => k_is)
    (case a8 => k_is)
    (case l8 => k_is)
    (case c8_ => k_is)
    (case k8 => k_is)
    (case a9 => k_is)
    (case l9 => k_is)
    (case c9_ => k_is)
    (case k9 => k_is)
    (case a10 => k_is)
    (case l10 => k_is)
    (case c10_ => k_is)
    (case k10 => k_is)
    (case a11 => k_is)
    (case l11 => k_is)
    (case c11_ => k_is)
    (case k11 => k_is)
    (case a12 => k_is)
    (case l12 => k_is)
    (case c12_ => k_is)
    (case k12 => k_is)
    (case a13 => k_is)
    (case l13 => k_is)
    (case c13_ => k_is)
    (case k13 => k_is)
    (case a14 => k_is)
    (case l14 => k_is)
    (case c14_ => k_is)
    (case k14 => k_is)
    (case a15 => k_is)
    (case l15 => k_is)
    (case c15_ => k_is)
    (case k15 => k_is)
    (case a16 => k_is)
    (case l16 => k_is)
    (case c16_ => k_is)
    (case k16 => k_is)
    (case a17 => k_is)
    (case l17 => k_is)
    (case c17_ => k_is)
    (case k17 => k_is)
    (case a18 => k_is)
    (case l18 => k_is)
    (case c18_ => k_is)
    (case k18 => k_is)
    (case a19 => k_is)
    (case l19 => k_is)
    (case c19_ => k_is)
    (case k19 => k_is)
    (case a20 => k_is)
    (case l20 => k_is)
    (case c20_ => k_is)
    (case k20 => k_is)
    (case a21 => k_is)
    (case l21 => k_is)
    (case c21_ => k_is)
    (case k21 => k_is)
    (case a22 => k_is)
    (case l22 => k_is)
    (case c22_ => k_is)
    (case k22 => k_is)
    (case a23 => k_is)
    (case l23 => k_is)
    (case c23_ => k_is)
    (case k23 => k_is)
    (case a24 => k_is)
    (case l24 => k_is)
    (case c24_ => k_is)
    (case k24 => k_is)
    (case a25 => k_is)
    (case l25 => k_is)
    (case c25_ => k_is)
    (case k25 => k_is)
    (case a26 => k_is)
    (case l26 => k_is)
    (case c26_ => k_is)
    (case k26 => k_is)
    (case a27 => k_is)
    (case l27 => k_is)
    (case c27_ => k_is)
    (case k27 => k_is)
    (case hd => kernel_rfl)
    (case tk => kernel_rfl)
    (case n0 => k_is)
    (case n1 => k_is)
    (case n2 => k_is)
    (case n3 => k_is)
    (case mk3 => k_is)
    (case b_abs => k_is)
    (case b_len => k_is)
    (case b_max => k_is)
    (case b_min => k_is)
    (case b_int => k_is)
    (case b_str => k_is)
    (case b_repr => k_is)
    (case b_tuple => k_is)
    (case b_all => k_is)
    (case b_any => k_is)
    (case b_sum => k_is)
    (case b_range => k_is)
    (case b_list => k_is)
    (case b_dict => k_is)
    (case b_enumerate => k_is)
    (case b_zip => k_is)
    (case b_isinstance => k_is)
    (case b_bool => k_is)
    (case b_sorted => k_is)
    (case gcd_ => k_is)
    (case isqrt_ => k_is)
    (case aC => k_is)
    (case xC => k_is)
    (case rC => rfl)
    (case saC => k_is)
    (case exC => k_is)
    (case tyC => k_is)
    (case kC => k_is)
    (case iC => k_is)
    (case sC => first | rfl | k_is)
    (case gaC => k_is)
    (case ggC => k_is)
    (case hdC => k_is)
    (case nfC => k_is)
    (case inC => k_is)
    (case tyI => k_is)
    (case lI => k_is)
    (case cI => k_is)
    (case kcI => k_is)
    (case v2I => rfl)
    (case flI => rfl)
    (case ccl => k_is)
    (case clC => k_is)
    (case mrC => k_is)
    (case supG => k_is)
    (case thr => k_is)
    (case alo => kernel_rfl)
    (case sbV => k_is)
    (case topS => decide +kernel)
    (case aT => k_is)
    (case lT => k_is)
    (case cT => k_is)
    (case kT => k_is)

